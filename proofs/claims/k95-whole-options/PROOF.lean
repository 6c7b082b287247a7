import PyProof.Rows.All
import Wide.All
import OpenK.AllK
import Wide.FinOn
import KE.KStateDown
import KE.DatumOrd
import KE.DataMinMax
import Lean
import HandS.ForMost
import HandS.Words
import HandS.WordsExc
import HandS.Defaults
import HandS.Walk
import HandS.DictComp
import HandS.IsInst
import HandS.Strs
import HandS.Zip
import HandS.TupAny
import HandS.TupLe
import HandS.Style
import HandS.Wide
import HandS.Steps
import HandS.NoneIn
import HandS.Head0
import HandS.Head1
import HandS.Head2
import HandS.HeadEnd
import HandS.HeadHook1
import HandS.HeadHook2
import KE.GoesMore
import KE.GoesEnum
import HandS.Small
import HandS.Codes
import PySem.Challenge.RW_flagclause_k95_whole_options_in_any_orde
set_option Elab.async false
set_option linter.all false
set_option maxRecDepth 100000
set_option maxHeartbeats 0
namespace Fc
open PySem PySem.Spec PyProof.Rows L2
def top (i : Nat) : Stmt := PySem.Challenge.pw_flagclause_k95_whole_options_in_any_orde.main.body.getD i (.Pass ⟨0, 0, 0, 0⟩)
abbrev x_is_integer : Stmt := top 18
abbrev x_is_name : Stmt := top 19
abbrev x_is_short_name : Stmt := top 20
abbrev x_is_choice_word : Stmt := top 21
abbrev x_is_kind : Stmt := top 22
abbrev x_is_option : Stmt := top 23
abbrev x_check_options : Stmt := top 24
abbrev x_is_clause : Stmt := top 25
abbrev x_check_grammar : Stmt := top 26
abbrev x_names_of : Stmt := top 27
abbrev x_check_line : Stmt := top 35
abbrev x_is_token : Stmt := top 36
abbrev x_check_tokens : Stmt := top 37
abbrev x_Splitter___init__ : Stmt := inClass (top 38) 0
abbrev x_Splitter_run : Stmt := inClass (top 38) 1
abbrev x_Splitter_read_token : Stmt := inClass (top 38) 2
abbrev x_Splitter_read_escaped : Stmt := inClass (top 38) 3
abbrev x_Splitter_read_quoted : Stmt := inClass (top 38) 4
abbrev x_split_line : Stmt := top 39
abbrev x_better : Stmt := top 40
abbrev x_quote_token : Stmt := top 41
abbrev x_parse_integer : Stmt := top 46
abbrev x_matching_words : Stmt := top 47
abbrev x_value_of : Stmt := top 48
abbrev x_is_value : Stmt := top 49
abbrev x_shortest_text : Stmt := top 50
abbrev x_OptionTable___init__ : Stmt := inClass (top 55) 0
abbrev x_OptionTable_matches : Stmt := inClass (top 55) 1
abbrev x_OptionTable_abbreviation : Stmt := inClass (top 55) 2
abbrev x_is_bundle : Stmt := top 56
abbrev x_is_long : Stmt := top 57
abbrev x_is_ordinary : Stmt := top 58
abbrev x_TokenReader___init__ : Stmt := inClass (top 59) 0
abbrev x_TokenReader_read : Stmt := inClass (top 59) 2
abbrev x_TokenReader_add_word : Stmt := inClass (top 59) 3
abbrev x_TokenReader_start : Stmt := inClass (top 59) 4
abbrev x_TokenReader_assign : Stmt := inClass (top 59) 5
abbrev x_TokenReader_read_long : Stmt := inClass (top 59) 6
abbrev x_TokenReader_read_bundle : Stmt := inClass (top 59) 7
abbrev x_read_tokens : Stmt := top 60
abbrev x_check_both : Stmt := top 61
abbrev x_read_prefix : Stmt := top 62
abbrev x_check_arguments : Stmt := top 63
abbrev x_Writer___init__ : Stmt := inClass (top 64) 0
abbrev x_Writer_add : Stmt := inClass (top 64) 1
abbrev x_Writer_text : Stmt := inClass (top 64) 2
abbrev x_Writer_attached : Stmt := inClass (top 64) 3
abbrev x_Writer_alone : Stmt := inClass (top 64) 4
abbrev x_Writer_options : Stmt := inClass (top 64) 5
abbrev x_compact : Stmt := top 65
abbrev x__law_taken : Stmt := top 67
abbrev x__law_signs : Stmt := top 68
abbrev x__law_word : Stmt := top 69
abbrev x__law_kind : Stmt := top 70
abbrev x__law_grammar : Stmt := top 71
abbrev x__law_digits : Stmt := top 72
abbrev x__law_value : Stmt := top 73
abbrev x__law_drawn_value : Stmt := top 74
abbrev x__law_long : Stmt := top 75
abbrev x__law_bundle : Stmt := top 76
abbrev x__law_option : Stmt := top 77
abbrev x__law_read : Stmt := top 78
abbrev x__law_tokens : Stmt := top 79
abbrev x__law_turned : Stmt := top 80
abbrev x_law : Stmt := top 81
def d_is_integer : He.DefD := ⟨("is_integer", none), "is_integer", "is_integer", defArgs x_is_integer, defBody x_is_integer, defScope x_is_integer, [], []⟩
def d_is_name : He.DefD := ⟨("is_name", none), "is_name", "is_name", defArgs x_is_name, defBody x_is_name, defScope x_is_name, [], []⟩
def d_is_short_name : He.DefD := ⟨("is_short_name", none), "is_short_name", "is_short_name", defArgs x_is_short_name, defBody x_is_short_name, defScope x_is_short_name, [], []⟩
def d_is_choice_word : He.DefD := ⟨("is_choice_word", none), "is_choice_word", "is_choice_word", defArgs x_is_choice_word, defBody x_is_choice_word, defScope x_is_choice_word, [], []⟩
def d_is_kind : He.DefD := ⟨("is_kind", none), "is_kind", "is_kind", defArgs x_is_kind, defBody x_is_kind, defScope x_is_kind, [], []⟩
def d_is_option : He.DefD := ⟨("is_option", none), "is_option", "is_option", defArgs x_is_option, defBody x_is_option, defScope x_is_option, [], []⟩
def d_check_options : He.DefD := ⟨("check_options", none), "check_options", "check_options", defArgs x_check_options, defBody x_check_options, defScope x_check_options, [], []⟩
def d_is_clause : He.DefD := ⟨("is_clause", none), "is_clause", "is_clause", defArgs x_is_clause, defBody x_is_clause, defScope x_is_clause, [], []⟩
def d_check_grammar : He.DefD := ⟨("check_grammar", none), "check_grammar", "check_grammar", defArgs x_check_grammar, defBody x_check_grammar, defScope x_check_grammar, [], []⟩
def d_names_of : He.DefD := ⟨("names_of", none), "names_of", "names_of", defArgs x_names_of, defBody x_names_of, defScope x_names_of, [], []⟩
def d_check_line : He.DefD := ⟨("check_line", none), "check_line", "check_line", defArgs x_check_line, defBody x_check_line, defScope x_check_line, [], []⟩
def d_is_token : He.DefD := ⟨("is_token", none), "is_token", "is_token", defArgs x_is_token, defBody x_is_token, defScope x_is_token, [], []⟩
def d_check_tokens : He.DefD := ⟨("check_tokens", none), "check_tokens", "check_tokens", defArgs x_check_tokens, defBody x_check_tokens, defScope x_check_tokens, [], []⟩
def d_Splitter___init__ : He.DefD := ⟨("Splitter", some "__init__"), "__init__", "Splitter.__init__", defArgs x_Splitter___init__, defBody x_Splitter___init__, defScope x_Splitter___init__, [], []⟩
def d_Splitter_run : He.DefD := ⟨("Splitter", some "run"), "run", "Splitter.run", defArgs x_Splitter_run, defBody x_Splitter_run, defScope x_Splitter_run, [], []⟩
def d_Splitter_read_token : He.DefD := ⟨("Splitter", some "read_token"), "read_token", "Splitter.read_token", defArgs x_Splitter_read_token, defBody x_Splitter_read_token, defScope x_Splitter_read_token, [], []⟩
def d_Splitter_read_escaped : He.DefD := ⟨("Splitter", some "read_escaped"), "read_escaped", "Splitter.read_escaped", defArgs x_Splitter_read_escaped, defBody x_Splitter_read_escaped, defScope x_Splitter_read_escaped, [], []⟩
def d_Splitter_read_quoted : He.DefD := ⟨("Splitter", some "read_quoted"), "read_quoted", "Splitter.read_quoted", defArgs x_Splitter_read_quoted, defBody x_Splitter_read_quoted, defScope x_Splitter_read_quoted, [], []⟩
def d_split_line : He.DefD := ⟨("split_line", none), "split_line", "split_line", defArgs x_split_line, defBody x_split_line, defScope x_split_line, [], []⟩
def d_better : He.DefD := ⟨("better", none), "better", "better", defArgs x_better, defBody x_better, defScope x_better, [], []⟩
def d_quote_token : He.DefD := ⟨("quote_token", none), "quote_token", "quote_token", defArgs x_quote_token, defBody x_quote_token, defScope x_quote_token, [], []⟩
def d_parse_integer : He.DefD := ⟨("parse_integer", none), "parse_integer", "parse_integer", defArgs x_parse_integer, defBody x_parse_integer, defScope x_parse_integer, [], []⟩
def d_matching_words : He.DefD := ⟨("matching_words", none), "matching_words", "matching_words", defArgs x_matching_words, defBody x_matching_words, defScope x_matching_words, [], []⟩
def d_value_of : He.DefD := ⟨("value_of", none), "value_of", "value_of", defArgs x_value_of, defBody x_value_of, defScope x_value_of, [], []⟩
def d_is_value : He.DefD := ⟨("is_value", none), "is_value", "is_value", defArgs x_is_value, defBody x_is_value, defScope x_is_value, [], []⟩
def d_shortest_text : He.DefD := ⟨("shortest_text", none), "shortest_text", "shortest_text", defArgs x_shortest_text, defBody x_shortest_text, defScope x_shortest_text, [], []⟩
def d_OptionTable___init__ : He.DefD := ⟨("OptionTable", some "__init__"), "__init__", "OptionTable.__init__", defArgs x_OptionTable___init__, defBody x_OptionTable___init__, defScope x_OptionTable___init__, [], []⟩
def d_OptionTable_matches : He.DefD := ⟨("OptionTable", some "matches"), "matches", "OptionTable.matches", defArgs x_OptionTable_matches, defBody x_OptionTable_matches, defScope x_OptionTable_matches, [], []⟩
def d_OptionTable_abbreviation : He.DefD := ⟨("OptionTable", some "abbreviation"), "abbreviation", "OptionTable.abbreviation", defArgs x_OptionTable_abbreviation, defBody x_OptionTable_abbreviation, defScope x_OptionTable_abbreviation, [], []⟩
def d_is_bundle : He.DefD := ⟨("is_bundle", none), "is_bundle", "is_bundle", defArgs x_is_bundle, defBody x_is_bundle, defScope x_is_bundle, [], []⟩
def d_is_long : He.DefD := ⟨("is_long", none), "is_long", "is_long", defArgs x_is_long, defBody x_is_long, defScope x_is_long, [], []⟩
def d_is_ordinary : He.DefD := ⟨("is_ordinary", none), "is_ordinary", "is_ordinary", defArgs x_is_ordinary, defBody x_is_ordinary, defScope x_is_ordinary, [], []⟩
def d_TokenReader___init__ : He.DefD := ⟨("TokenReader", some "__init__"), "__init__", "TokenReader.__init__", defArgs x_TokenReader___init__, defBody x_TokenReader___init__, defScope x_TokenReader___init__, [], []⟩
def d_TokenReader_read : He.DefD := ⟨("TokenReader", some "read"), "read", "TokenReader.read", defArgs x_TokenReader_read, defBody x_TokenReader_read, defScope x_TokenReader_read, [], []⟩
def d_TokenReader_add_word : He.DefD := ⟨("TokenReader", some "add_word"), "add_word", "TokenReader.add_word", defArgs x_TokenReader_add_word, defBody x_TokenReader_add_word, defScope x_TokenReader_add_word, [], []⟩
def d_TokenReader_start : He.DefD := ⟨("TokenReader", some "start"), "start", "TokenReader.start", defArgs x_TokenReader_start, defBody x_TokenReader_start, defScope x_TokenReader_start, [], []⟩
def d_TokenReader_assign : He.DefD := ⟨("TokenReader", some "assign"), "assign", "TokenReader.assign", defArgs x_TokenReader_assign, defBody x_TokenReader_assign, defScope x_TokenReader_assign, [], []⟩
def d_TokenReader_read_long : He.DefD := ⟨("TokenReader", some "read_long"), "read_long", "TokenReader.read_long", defArgs x_TokenReader_read_long, defBody x_TokenReader_read_long, defScope x_TokenReader_read_long, [], []⟩
def d_TokenReader_read_bundle : He.DefD := ⟨("TokenReader", some "read_bundle"), "read_bundle", "TokenReader.read_bundle", defArgs x_TokenReader_read_bundle, defBody x_TokenReader_read_bundle, defScope x_TokenReader_read_bundle, [], []⟩
def d_read_tokens : He.DefD := ⟨("read_tokens", none), "read_tokens", "read_tokens", defArgs x_read_tokens, defBody x_read_tokens, defScope x_read_tokens, [], []⟩
def d_check_both : He.DefD := ⟨("check_both", none), "check_both", "check_both", defArgs x_check_both, defBody x_check_both, defScope x_check_both, [], []⟩
def d_read_prefix : He.DefD := ⟨("read_prefix", none), "read_prefix", "read_prefix", defArgs x_read_prefix, defBody x_read_prefix, defScope x_read_prefix, [], []⟩
def d_check_arguments : He.DefD := ⟨("check_arguments", none), "check_arguments", "check_arguments", defArgs x_check_arguments, defBody x_check_arguments, defScope x_check_arguments, [], []⟩
def d_Writer___init__ : He.DefD := ⟨("Writer", some "__init__"), "__init__", "Writer.__init__", defArgs x_Writer___init__, defBody x_Writer___init__, defScope x_Writer___init__, [], []⟩
def d_Writer_add : He.DefD := ⟨("Writer", some "add"), "add", "Writer.add", defArgs x_Writer_add, defBody x_Writer_add, defScope x_Writer_add, [], []⟩
def d_Writer_text : He.DefD := ⟨("Writer", some "text"), "text", "Writer.text", defArgs x_Writer_text, defBody x_Writer_text, defScope x_Writer_text, [], []⟩
def d_Writer_attached : He.DefD := ⟨("Writer", some "attached"), "attached", "Writer.attached", defArgs x_Writer_attached, defBody x_Writer_attached, defScope x_Writer_attached, [], []⟩
def d_Writer_alone : He.DefD := ⟨("Writer", some "alone"), "alone", "Writer.alone", defArgs x_Writer_alone, defBody x_Writer_alone, defScope x_Writer_alone, [], []⟩
def d_Writer_options : He.DefD := ⟨("Writer", some "options"), "options", "Writer.options", defArgs x_Writer_options, defBody x_Writer_options, defScope x_Writer_options, [], []⟩
def d_compact : He.DefD := ⟨("compact", none), "compact", "compact", defArgs x_compact, defBody x_compact, defScope x_compact, [], []⟩
def d__law_taken : He.DefD := ⟨("_law_taken", none), "_law_taken", "_law_taken", defArgs x__law_taken, defBody x__law_taken, defScope x__law_taken, [], []⟩
def d__law_signs : He.DefD := ⟨("_law_signs", none), "_law_signs", "_law_signs", defArgs x__law_signs, defBody x__law_signs, defScope x__law_signs, [], []⟩
def d__law_word : He.DefD := ⟨("_law_word", none), "_law_word", "_law_word", defArgs x__law_word, defBody x__law_word, defScope x__law_word, [], []⟩
def d__law_kind : He.DefD := ⟨("_law_kind", none), "_law_kind", "_law_kind", defArgs x__law_kind, defBody x__law_kind, defScope x__law_kind, [], []⟩
def d__law_grammar : He.DefD := ⟨("_law_grammar", none), "_law_grammar", "_law_grammar", defArgs x__law_grammar, defBody x__law_grammar, defScope x__law_grammar, [], []⟩
def d__law_digits : He.DefD := ⟨("_law_digits", none), "_law_digits", "_law_digits", defArgs x__law_digits, defBody x__law_digits, defScope x__law_digits, [], []⟩
def d__law_value : He.DefD := ⟨("_law_value", none), "_law_value", "_law_value", defArgs x__law_value, defBody x__law_value, defScope x__law_value, [], []⟩
def d__law_drawn_value : He.DefD := ⟨("_law_drawn_value", none), "_law_drawn_value", "_law_drawn_value", defArgs x__law_drawn_value, defBody x__law_drawn_value, defScope x__law_drawn_value, [], []⟩
def d__law_long : He.DefD := ⟨("_law_long", none), "_law_long", "_law_long", defArgs x__law_long, defBody x__law_long, defScope x__law_long, [], []⟩
def d__law_bundle : He.DefD := ⟨("_law_bundle", none), "_law_bundle", "_law_bundle", defArgs x__law_bundle, defBody x__law_bundle, defScope x__law_bundle, [], []⟩
def d__law_option : He.DefD := ⟨("_law_option", none), "_law_option", "_law_option", defArgs x__law_option, defBody x__law_option, defScope x__law_option, [], []⟩
def d__law_read : He.DefD := ⟨("_law_read", none), "_law_read", "_law_read", defArgs x__law_read, defBody x__law_read, defScope x__law_read, [], []⟩
def d__law_tokens : He.DefD := ⟨("_law_tokens", none), "_law_tokens", "_law_tokens", defArgs x__law_tokens, defBody x__law_tokens, defScope x__law_tokens, [], []⟩
def d__law_turned : He.DefD := ⟨("_law_turned", none), "_law_turned", "_law_turned", defArgs x__law_turned, defBody x__law_turned, defScope x__law_turned, [], []⟩
def d_law : He.DefD := ⟨("law", none), "law", "law", defArgs x_law, defBody x_law, defScope x_law, [], []⟩
def fn : List He.DefD := [d_is_integer, d_is_name, d_is_short_name, d_is_choice_word, d_is_kind, d_is_option, d_check_options, d_is_clause, d_check_grammar, d_names_of, d_check_line, d_is_token, d_check_tokens, d_Splitter___init__, d_Splitter_run, d_Splitter_read_token, d_Splitter_read_escaped, d_Splitter_read_quoted, d_split_line, d_better, d_quote_token, d_parse_integer, d_matching_words, d_value_of, d_is_value, d_shortest_text, d_OptionTable___init__, d_OptionTable_matches, d_OptionTable_abbreviation, d_is_bundle, d_is_long, d_is_ordinary, d_TokenReader___init__, d_TokenReader_read, d_TokenReader_add_word, d_TokenReader_start, d_TokenReader_assign, d_TokenReader_read_long, d_TokenReader_read_bundle, d_read_tokens, d_check_both, d_read_prefix, d_check_arguments, d_Writer___init__, d_Writer_add, d_Writer_text, d_Writer_attached, d_Writer_alone, d_Writer_options, d_compact, d__law_taken, d__law_signs, d__law_word, d__law_kind, d__law_grammar, d__law_digits, d__law_value, d__law_drawn_value, d__law_long, d__law_bundle, d__law_option, d__law_read, d__law_tokens, d__law_turned, d_law]
def fa : List He.Fa := [.glo "is_integer",
  .glo "is_name",
  .glo "is_short_name",
  .glo "is_choice_word",
  .glo "is_kind",
  .glo "is_option",
  .glo "check_options",
  .glo "is_clause",
  .glo "check_grammar",
  .glo "names_of",
  .glo "check_line",
  .glo "is_token",
  .glo "check_tokens",
  .glo "Splitter",
  .glo "split_line",
  .glo "better",
  .glo "quote_token",
  .glo "parse_integer",
  .glo "matching_words",
  .glo "value_of",
  .glo "is_value",
  .glo "shortest_text",
  .glo "OptionTable",
  .glo "is_bundle",
  .glo "is_long",
  .glo "is_ordinary",
  .glo "TokenReader",
  .glo "read_tokens",
  .glo "check_both",
  .glo "read_prefix",
  .glo "check_arguments",
  .glo "Writer",
  .glo "compact",
  .glo "_law_taken",
  .glo "_law_signs",
  .glo "_law_word",
  .glo "_law_kind",
  .glo "_law_grammar",
  .glo "_law_digits",
  .glo "_law_value",
  .glo "_law_drawn_value",
  .glo "_law_long",
  .glo "_law_bundle",
  .glo "_law_option",
  .glo "_law_read",
  .glo "_law_tokens",
  .glo "_law_turned",
  .glo "law",
  .str "LETTERS" "abcdefghijklmnopqrstuvwxyz",
  .str "HYPHEN_grammar" "-",
  .str "ALPHABET" " !\"#$&'()*+,-./0123456789:;<=>?@ABCDEFGHIJKLMNOPQRSTUVWXYZ[\\]^_`abcdefghijklmnopqrstuvwxyz{|}~",
  .str "SPACE" " ",
  .str "SINGLE" "'",
  .str "DOUBLE" "\"",
  .str "BACKSLASH" "\\",
  .str "DIGITS" "0123456789",
  .str "MINUS" "-",
  .str "SEPARATOR" "--",
  .str "HYPHEN_lines" "-",
  .str "EQUALS" "=",
  .int "MAX_NAME_LENGTH" 12,
  .int "MAX_OPTIONS" 12,
  .int "MAX_CLAUSES" 60,
  .int "MAX_POSITIONALS" 9,
  .int "MAX_INTEGER" 9999,
  .int "MAX_CHOICES" 8,
  .int "MAX_WORD_LENGTH" 12,
  .int "MAX_LINE" 200,
  .int "MAX_DIGITS" 4,
  .free "len",
  .free "isinstance",
  .free "all",
  .free "min",
  .free "max",
  .free "set",
  .free "list",
  .free "tuple",
  .free "dict",
  .free "sorted",
  .free "int",
  .free "str",
  .free "bool",
  .free "range",
  .free "enumerate",
  .cls "Splitter",
  .mkr "Splitter",
  .noat "Splitter" "line",
  .noat "Splitter" "position",
  .noat "Splitter" "found",
  .meth "Splitter" "run",
  .meth "Splitter" "read_token",
  .meth "Splitter" "read_escaped",
  .meth "Splitter" "read_quoted",
  .cls "OptionTable",
  .mkr "OptionTable",
  .noat "OptionTable" "names",
  .noat "OptionTable" "kinds",
  .noat "OptionTable" "letters",
  .noat "OptionTable" "short_names",
  .meth "OptionTable" "matches",
  .meth "OptionTable" "abbreviation",
  .cls "TokenReader",
  .mkr "TokenReader",
  .noat "TokenReader" "table",
  .noat "TokenReader" "limit",
  .noat "TokenReader" "assignments",
  .noat "TokenReader" "words",
  .noat "TokenReader" "pending",
  .noat "TokenReader" "only_words",
  .noat "TokenReader" "count",
  .meth "TokenReader" "read",
  .meth "TokenReader" "add_word",
  .meth "TokenReader" "start",
  .meth "TokenReader" "assign",
  .meth "TokenReader" "read_long",
  .meth "TokenReader" "read_bundle",
  .cls "Writer",
  .mkr "Writer",
  .noat "Writer" "table",
  .noat "Writer" "assignments",
  .noat "Writer" "flags",
  .noat "Writer" "parts",
  .noat "Writer" "valued",
  .meth "Writer" "add",
  .meth "Writer" "text",
  .meth "Writer" "attached",
  .meth "Writer" "alone",
  .meth "Writer" "options"]
/-- the facts of the text's top -/
structure Txt (K : PySem.W.Frag) (mg : Str → Option Value) : Prop where
  g_is_integer : mg "is_integer" = some (.ref (He.ga K "is_integer"))
  g_is_name : mg "is_name" = some (.ref (He.ga K "is_name"))
  g_is_short_name : mg "is_short_name" = some (.ref (He.ga K "is_short_name"))
  g_is_choice_word : mg "is_choice_word" = some (.ref (He.ga K "is_choice_word"))
  g_is_kind : mg "is_kind" = some (.ref (He.ga K "is_kind"))
  g_is_option : mg "is_option" = some (.ref (He.ga K "is_option"))
  g_check_options : mg "check_options" = some (.ref (He.ga K "check_options"))
  g_is_clause : mg "is_clause" = some (.ref (He.ga K "is_clause"))
  g_check_grammar : mg "check_grammar" = some (.ref (He.ga K "check_grammar"))
  g_names_of : mg "names_of" = some (.ref (He.ga K "names_of"))
  g_check_line : mg "check_line" = some (.ref (He.ga K "check_line"))
  g_is_token : mg "is_token" = some (.ref (He.ga K "is_token"))
  g_check_tokens : mg "check_tokens" = some (.ref (He.ga K "check_tokens"))
  g_Splitter : mg "Splitter" = some (.ref (He.ga K "Splitter"))
  g_split_line : mg "split_line" = some (.ref (He.ga K "split_line"))
  g_better : mg "better" = some (.ref (He.ga K "better"))
  g_quote_token : mg "quote_token" = some (.ref (He.ga K "quote_token"))
  g_parse_integer : mg "parse_integer" = some (.ref (He.ga K "parse_integer"))
  g_matching_words : mg "matching_words" = some (.ref (He.ga K "matching_words"))
  g_value_of : mg "value_of" = some (.ref (He.ga K "value_of"))
  g_is_value : mg "is_value" = some (.ref (He.ga K "is_value"))
  g_shortest_text : mg "shortest_text" = some (.ref (He.ga K "shortest_text"))
  g_OptionTable : mg "OptionTable" = some (.ref (He.ga K "OptionTable"))
  g_is_bundle : mg "is_bundle" = some (.ref (He.ga K "is_bundle"))
  g_is_long : mg "is_long" = some (.ref (He.ga K "is_long"))
  g_is_ordinary : mg "is_ordinary" = some (.ref (He.ga K "is_ordinary"))
  g_TokenReader : mg "TokenReader" = some (.ref (He.ga K "TokenReader"))
  g_read_tokens : mg "read_tokens" = some (.ref (He.ga K "read_tokens"))
  g_check_both : mg "check_both" = some (.ref (He.ga K "check_both"))
  g_read_prefix : mg "read_prefix" = some (.ref (He.ga K "read_prefix"))
  g_check_arguments : mg "check_arguments" = some (.ref (He.ga K "check_arguments"))
  g_Writer : mg "Writer" = some (.ref (He.ga K "Writer"))
  g_compact : mg "compact" = some (.ref (He.ga K "compact"))
  g__law_taken : mg "_law_taken" = some (.ref (He.ga K "_law_taken"))
  g__law_signs : mg "_law_signs" = some (.ref (He.ga K "_law_signs"))
  g__law_word : mg "_law_word" = some (.ref (He.ga K "_law_word"))
  g__law_kind : mg "_law_kind" = some (.ref (He.ga K "_law_kind"))
  g__law_grammar : mg "_law_grammar" = some (.ref (He.ga K "_law_grammar"))
  g__law_digits : mg "_law_digits" = some (.ref (He.ga K "_law_digits"))
  g__law_value : mg "_law_value" = some (.ref (He.ga K "_law_value"))
  g__law_drawn_value : mg "_law_drawn_value" = some (.ref (He.ga K "_law_drawn_value"))
  g__law_long : mg "_law_long" = some (.ref (He.ga K "_law_long"))
  g__law_bundle : mg "_law_bundle" = some (.ref (He.ga K "_law_bundle"))
  g__law_option : mg "_law_option" = some (.ref (He.ga K "_law_option"))
  g__law_read : mg "_law_read" = some (.ref (He.ga K "_law_read"))
  g__law_tokens : mg "_law_tokens" = some (.ref (He.ga K "_law_tokens"))
  g__law_turned : mg "_law_turned" = some (.ref (He.ga K "_law_turned"))
  g_law : mg "law" = some (.ref (He.ga K "law"))
  s_LETTERS : ∃ t, mg "LETTERS" = some (.str "abcdefghijklmnopqrstuvwxyz" t)
  s_HYPHEN_grammar : ∃ t, mg "HYPHEN_grammar" = some (.str "-" t)
  s_ALPHABET : ∃ t, mg "ALPHABET" = some (.str " !\"#$&'()*+,-./0123456789:;<=>?@ABCDEFGHIJKLMNOPQRSTUVWXYZ[\\]^_`abcdefghijklmnopqrstuvwxyz{|}~" t)
  s_SPACE : ∃ t, mg "SPACE" = some (.str " " t)
  s_SINGLE : ∃ t, mg "SINGLE" = some (.str "'" t)
  s_DOUBLE : ∃ t, mg "DOUBLE" = some (.str "\"" t)
  s_BACKSLASH : ∃ t, mg "BACKSLASH" = some (.str "\\" t)
  s_DIGITS : ∃ t, mg "DIGITS" = some (.str "0123456789" t)
  s_MINUS : ∃ t, mg "MINUS" = some (.str "-" t)
  s_SEPARATOR : ∃ t, mg "SEPARATOR" = some (.str "--" t)
  s_HYPHEN_lines : ∃ t, mg "HYPHEN_lines" = some (.str "-" t)
  s_EQUALS : ∃ t, mg "EQUALS" = some (.str "=" t)
  i_MAX_NAME_LENGTH : ∃ t, mg "MAX_NAME_LENGTH" = some (.int 12 t)
  i_MAX_OPTIONS : ∃ t, mg "MAX_OPTIONS" = some (.int 12 t)
  i_MAX_CLAUSES : ∃ t, mg "MAX_CLAUSES" = some (.int 60 t)
  i_MAX_POSITIONALS : ∃ t, mg "MAX_POSITIONALS" = some (.int 9 t)
  i_MAX_INTEGER : ∃ t, mg "MAX_INTEGER" = some (.int 9999 t)
  i_MAX_CHOICES : ∃ t, mg "MAX_CHOICES" = some (.int 8 t)
  i_MAX_WORD_LENGTH : ∃ t, mg "MAX_WORD_LENGTH" = some (.int 12 t)
  i_MAX_LINE : ∃ t, mg "MAX_LINE" = some (.int 200 t)
  i_MAX_DIGITS : ∃ t, mg "MAX_DIGITS" = some (.int 4 t)
  f_len : mg "len" = none
  f_isinstance : mg "isinstance" = none
  f_all : mg "all" = none
  f_min : mg "min" = none
  f_max : mg "max" = none
  f_set : mg "set" = none
  f_list : mg "list" = none
  f_tuple : mg "tuple" = none
  f_dict : mg "dict" = none
  f_sorted : mg "sorted" = none
  f_int : mg "int" = none
  f_str : mg "str" = none
  f_bool : mg "bool" = none
  f_range : mg "range" = none
  f_enumerate : mg "enumerate" = none
  c_Splitter : Cls K (He.ga K "Splitter")
  k_Splitter : Mk K (He.ga K "Splitter") (He.ma K (He.ga K "Splitter") "__init__")
  n_Splitter_line : NoAttr K (He.ga K "Splitter") "line"
  n_Splitter_position : NoAttr K (He.ga K "Splitter") "position"
  n_Splitter_found : NoAttr K (He.ga K "Splitter") "found"
  m_Splitter_run : Meth K (He.ga K "Splitter") "run" (He.ma K (He.ga K "Splitter") "run")
  m_Splitter_read_token : Meth K (He.ga K "Splitter") "read_token" (He.ma K (He.ga K "Splitter") "read_token")
  m_Splitter_read_escaped : Meth K (He.ga K "Splitter") "read_escaped" (He.ma K (He.ga K "Splitter") "read_escaped")
  m_Splitter_read_quoted : Meth K (He.ga K "Splitter") "read_quoted" (He.ma K (He.ga K "Splitter") "read_quoted")
  c_OptionTable : Cls K (He.ga K "OptionTable")
  k_OptionTable : Mk K (He.ga K "OptionTable") (He.ma K (He.ga K "OptionTable") "__init__")
  n_OptionTable_names : NoAttr K (He.ga K "OptionTable") "names"
  n_OptionTable_kinds : NoAttr K (He.ga K "OptionTable") "kinds"
  n_OptionTable_letters : NoAttr K (He.ga K "OptionTable") "letters"
  n_OptionTable_short_names : NoAttr K (He.ga K "OptionTable") "short_names"
  m_OptionTable_matches : Meth K (He.ga K "OptionTable") "matches" (He.ma K (He.ga K "OptionTable") "matches")
  m_OptionTable_abbreviation : Meth K (He.ga K "OptionTable") "abbreviation" (He.ma K (He.ga K "OptionTable") "abbreviation")
  c_TokenReader : Cls K (He.ga K "TokenReader")
  k_TokenReader : Mk K (He.ga K "TokenReader") (He.ma K (He.ga K "TokenReader") "__init__")
  n_TokenReader_table : NoAttr K (He.ga K "TokenReader") "table"
  n_TokenReader_limit : NoAttr K (He.ga K "TokenReader") "limit"
  n_TokenReader_assignments : NoAttr K (He.ga K "TokenReader") "assignments"
  n_TokenReader_words : NoAttr K (He.ga K "TokenReader") "words"
  n_TokenReader_pending : NoAttr K (He.ga K "TokenReader") "pending"
  n_TokenReader_only_words : NoAttr K (He.ga K "TokenReader") "only_words"
  n_TokenReader_count : NoAttr K (He.ga K "TokenReader") "count"
  m_TokenReader_read : Meth K (He.ga K "TokenReader") "read" (He.ma K (He.ga K "TokenReader") "read")
  m_TokenReader_add_word : Meth K (He.ga K "TokenReader") "add_word" (He.ma K (He.ga K "TokenReader") "add_word")
  m_TokenReader_start : Meth K (He.ga K "TokenReader") "start" (He.ma K (He.ga K "TokenReader") "start")
  m_TokenReader_assign : Meth K (He.ga K "TokenReader") "assign" (He.ma K (He.ga K "TokenReader") "assign")
  m_TokenReader_read_long : Meth K (He.ga K "TokenReader") "read_long" (He.ma K (He.ga K "TokenReader") "read_long")
  m_TokenReader_read_bundle : Meth K (He.ga K "TokenReader") "read_bundle" (He.ma K (He.ga K "TokenReader") "read_bundle")
  c_Writer : Cls K (He.ga K "Writer")
  k_Writer : Mk K (He.ga K "Writer") (He.ma K (He.ga K "Writer") "__init__")
  n_Writer_table : NoAttr K (He.ga K "Writer") "table"
  n_Writer_assignments : NoAttr K (He.ga K "Writer") "assignments"
  n_Writer_flags : NoAttr K (He.ga K "Writer") "flags"
  n_Writer_parts : NoAttr K (He.ga K "Writer") "parts"
  n_Writer_valued : NoAttr K (He.ga K "Writer") "valued"
  m_Writer_add : Meth K (He.ga K "Writer") "add" (He.ma K (He.ga K "Writer") "add")
  m_Writer_text : Meth K (He.ga K "Writer") "text" (He.ma K (He.ga K "Writer") "text")
  m_Writer_attached : Meth K (He.ga K "Writer") "attached" (He.ma K (He.ga K "Writer") "attached")
  m_Writer_alone : Meth K (He.ga K "Writer") "alone" (He.ma K (He.ga K "Writer") "alone")
  m_Writer_options : Meth K (He.ga K "Writer") "options" (He.ma K (He.ga K "Writer") "options")
  d_is_integer : ∃ fd, FunD K "is_integer" "is_integer" (defArgs x_is_integer) (defBody x_is_integer) (defScope x_is_integer) [] [] (He.fAd K ("is_integer", none)) fd
  d_is_name : ∃ fd, FunD K "is_name" "is_name" (defArgs x_is_name) (defBody x_is_name) (defScope x_is_name) [] [] (He.fAd K ("is_name", none)) fd
  d_is_short_name : ∃ fd, FunD K "is_short_name" "is_short_name" (defArgs x_is_short_name) (defBody x_is_short_name) (defScope x_is_short_name) [] [] (He.fAd K ("is_short_name", none)) fd
  d_is_choice_word : ∃ fd, FunD K "is_choice_word" "is_choice_word" (defArgs x_is_choice_word) (defBody x_is_choice_word) (defScope x_is_choice_word) [] [] (He.fAd K ("is_choice_word", none)) fd
  d_is_kind : ∃ fd, FunD K "is_kind" "is_kind" (defArgs x_is_kind) (defBody x_is_kind) (defScope x_is_kind) [] [] (He.fAd K ("is_kind", none)) fd
  d_is_option : ∃ fd, FunD K "is_option" "is_option" (defArgs x_is_option) (defBody x_is_option) (defScope x_is_option) [] [] (He.fAd K ("is_option", none)) fd
  d_check_options : ∃ fd, FunD K "check_options" "check_options" (defArgs x_check_options) (defBody x_check_options) (defScope x_check_options) [] [] (He.fAd K ("check_options", none)) fd
  d_is_clause : ∃ fd, FunD K "is_clause" "is_clause" (defArgs x_is_clause) (defBody x_is_clause) (defScope x_is_clause) [] [] (He.fAd K ("is_clause", none)) fd
  d_check_grammar : ∃ fd, FunD K "check_grammar" "check_grammar" (defArgs x_check_grammar) (defBody x_check_grammar) (defScope x_check_grammar) [] [] (He.fAd K ("check_grammar", none)) fd
  d_names_of : ∃ fd, FunD K "names_of" "names_of" (defArgs x_names_of) (defBody x_names_of) (defScope x_names_of) [] [] (He.fAd K ("names_of", none)) fd
  d_check_line : ∃ fd, FunD K "check_line" "check_line" (defArgs x_check_line) (defBody x_check_line) (defScope x_check_line) [] [] (He.fAd K ("check_line", none)) fd
  d_is_token : ∃ fd, FunD K "is_token" "is_token" (defArgs x_is_token) (defBody x_is_token) (defScope x_is_token) [] [] (He.fAd K ("is_token", none)) fd
  d_check_tokens : ∃ fd, FunD K "check_tokens" "check_tokens" (defArgs x_check_tokens) (defBody x_check_tokens) (defScope x_check_tokens) [] [] (He.fAd K ("check_tokens", none)) fd
  d_Splitter___init__ : ∃ fd, FunD K "__init__" "Splitter.__init__" (defArgs x_Splitter___init__) (defBody x_Splitter___init__) (defScope x_Splitter___init__) [] [] (He.fAd K ("Splitter", some "__init__")) fd
  d_Splitter_run : ∃ fd, FunD K "run" "Splitter.run" (defArgs x_Splitter_run) (defBody x_Splitter_run) (defScope x_Splitter_run) [] [] (He.fAd K ("Splitter", some "run")) fd
  d_Splitter_read_token : ∃ fd, FunD K "read_token" "Splitter.read_token" (defArgs x_Splitter_read_token) (defBody x_Splitter_read_token) (defScope x_Splitter_read_token) [] [] (He.fAd K ("Splitter", some "read_token")) fd
  d_Splitter_read_escaped : ∃ fd, FunD K "read_escaped" "Splitter.read_escaped" (defArgs x_Splitter_read_escaped) (defBody x_Splitter_read_escaped) (defScope x_Splitter_read_escaped) [] [] (He.fAd K ("Splitter", some "read_escaped")) fd
  d_Splitter_read_quoted : ∃ fd, FunD K "read_quoted" "Splitter.read_quoted" (defArgs x_Splitter_read_quoted) (defBody x_Splitter_read_quoted) (defScope x_Splitter_read_quoted) [] [] (He.fAd K ("Splitter", some "read_quoted")) fd
  d_split_line : ∃ fd, FunD K "split_line" "split_line" (defArgs x_split_line) (defBody x_split_line) (defScope x_split_line) [] [] (He.fAd K ("split_line", none)) fd
  d_better : ∃ fd, FunD K "better" "better" (defArgs x_better) (defBody x_better) (defScope x_better) [] [] (He.fAd K ("better", none)) fd
  d_quote_token : ∃ fd, FunD K "quote_token" "quote_token" (defArgs x_quote_token) (defBody x_quote_token) (defScope x_quote_token) [] [] (He.fAd K ("quote_token", none)) fd
  d_parse_integer : ∃ fd, FunD K "parse_integer" "parse_integer" (defArgs x_parse_integer) (defBody x_parse_integer) (defScope x_parse_integer) [] [] (He.fAd K ("parse_integer", none)) fd
  d_matching_words : ∃ fd, FunD K "matching_words" "matching_words" (defArgs x_matching_words) (defBody x_matching_words) (defScope x_matching_words) [] [] (He.fAd K ("matching_words", none)) fd
  d_value_of : ∃ fd, FunD K "value_of" "value_of" (defArgs x_value_of) (defBody x_value_of) (defScope x_value_of) [] [] (He.fAd K ("value_of", none)) fd
  d_is_value : ∃ fd, FunD K "is_value" "is_value" (defArgs x_is_value) (defBody x_is_value) (defScope x_is_value) [] [] (He.fAd K ("is_value", none)) fd
  d_shortest_text : ∃ fd, FunD K "shortest_text" "shortest_text" (defArgs x_shortest_text) (defBody x_shortest_text) (defScope x_shortest_text) [] [] (He.fAd K ("shortest_text", none)) fd
  d_OptionTable___init__ : ∃ fd, FunD K "__init__" "OptionTable.__init__" (defArgs x_OptionTable___init__) (defBody x_OptionTable___init__) (defScope x_OptionTable___init__) [] [] (He.fAd K ("OptionTable", some "__init__")) fd
  d_OptionTable_matches : ∃ fd, FunD K "matches" "OptionTable.matches" (defArgs x_OptionTable_matches) (defBody x_OptionTable_matches) (defScope x_OptionTable_matches) [] [] (He.fAd K ("OptionTable", some "matches")) fd
  d_OptionTable_abbreviation : ∃ fd, FunD K "abbreviation" "OptionTable.abbreviation" (defArgs x_OptionTable_abbreviation) (defBody x_OptionTable_abbreviation) (defScope x_OptionTable_abbreviation) [] [] (He.fAd K ("OptionTable", some "abbreviation")) fd
  d_is_bundle : ∃ fd, FunD K "is_bundle" "is_bundle" (defArgs x_is_bundle) (defBody x_is_bundle) (defScope x_is_bundle) [] [] (He.fAd K ("is_bundle", none)) fd
  d_is_long : ∃ fd, FunD K "is_long" "is_long" (defArgs x_is_long) (defBody x_is_long) (defScope x_is_long) [] [] (He.fAd K ("is_long", none)) fd
  d_is_ordinary : ∃ fd, FunD K "is_ordinary" "is_ordinary" (defArgs x_is_ordinary) (defBody x_is_ordinary) (defScope x_is_ordinary) [] [] (He.fAd K ("is_ordinary", none)) fd
  d_TokenReader___init__ : ∃ fd, FunD K "__init__" "TokenReader.__init__" (defArgs x_TokenReader___init__) (defBody x_TokenReader___init__) (defScope x_TokenReader___init__) [] [] (He.fAd K ("TokenReader", some "__init__")) fd
  d_TokenReader_read : ∃ fd, FunD K "read" "TokenReader.read" (defArgs x_TokenReader_read) (defBody x_TokenReader_read) (defScope x_TokenReader_read) [] [] (He.fAd K ("TokenReader", some "read")) fd
  d_TokenReader_add_word : ∃ fd, FunD K "add_word" "TokenReader.add_word" (defArgs x_TokenReader_add_word) (defBody x_TokenReader_add_word) (defScope x_TokenReader_add_word) [] [] (He.fAd K ("TokenReader", some "add_word")) fd
  d_TokenReader_start : ∃ fd, FunD K "start" "TokenReader.start" (defArgs x_TokenReader_start) (defBody x_TokenReader_start) (defScope x_TokenReader_start) [] [] (He.fAd K ("TokenReader", some "start")) fd
  d_TokenReader_assign : ∃ fd, FunD K "assign" "TokenReader.assign" (defArgs x_TokenReader_assign) (defBody x_TokenReader_assign) (defScope x_TokenReader_assign) [] [] (He.fAd K ("TokenReader", some "assign")) fd
  d_TokenReader_read_long : ∃ fd, FunD K "read_long" "TokenReader.read_long" (defArgs x_TokenReader_read_long) (defBody x_TokenReader_read_long) (defScope x_TokenReader_read_long) [] [] (He.fAd K ("TokenReader", some "read_long")) fd
  d_TokenReader_read_bundle : ∃ fd, FunD K "read_bundle" "TokenReader.read_bundle" (defArgs x_TokenReader_read_bundle) (defBody x_TokenReader_read_bundle) (defScope x_TokenReader_read_bundle) [] [] (He.fAd K ("TokenReader", some "read_bundle")) fd
  d_read_tokens : ∃ fd, FunD K "read_tokens" "read_tokens" (defArgs x_read_tokens) (defBody x_read_tokens) (defScope x_read_tokens) [] [] (He.fAd K ("read_tokens", none)) fd
  d_check_both : ∃ fd, FunD K "check_both" "check_both" (defArgs x_check_both) (defBody x_check_both) (defScope x_check_both) [] [] (He.fAd K ("check_both", none)) fd
  d_read_prefix : ∃ fd, FunD K "read_prefix" "read_prefix" (defArgs x_read_prefix) (defBody x_read_prefix) (defScope x_read_prefix) [] [] (He.fAd K ("read_prefix", none)) fd
  d_check_arguments : ∃ fd, FunD K "check_arguments" "check_arguments" (defArgs x_check_arguments) (defBody x_check_arguments) (defScope x_check_arguments) [] [] (He.fAd K ("check_arguments", none)) fd
  d_Writer___init__ : ∃ fd, FunD K "__init__" "Writer.__init__" (defArgs x_Writer___init__) (defBody x_Writer___init__) (defScope x_Writer___init__) [] [] (He.fAd K ("Writer", some "__init__")) fd
  d_Writer_add : ∃ fd, FunD K "add" "Writer.add" (defArgs x_Writer_add) (defBody x_Writer_add) (defScope x_Writer_add) [] [] (He.fAd K ("Writer", some "add")) fd
  d_Writer_text : ∃ fd, FunD K "text" "Writer.text" (defArgs x_Writer_text) (defBody x_Writer_text) (defScope x_Writer_text) [] [] (He.fAd K ("Writer", some "text")) fd
  d_Writer_attached : ∃ fd, FunD K "attached" "Writer.attached" (defArgs x_Writer_attached) (defBody x_Writer_attached) (defScope x_Writer_attached) [] [] (He.fAd K ("Writer", some "attached")) fd
  d_Writer_alone : ∃ fd, FunD K "alone" "Writer.alone" (defArgs x_Writer_alone) (defBody x_Writer_alone) (defScope x_Writer_alone) [] [] (He.fAd K ("Writer", some "alone")) fd
  d_Writer_options : ∃ fd, FunD K "options" "Writer.options" (defArgs x_Writer_options) (defBody x_Writer_options) (defScope x_Writer_options) [] [] (He.fAd K ("Writer", some "options")) fd
  d_compact : ∃ fd, FunD K "compact" "compact" (defArgs x_compact) (defBody x_compact) (defScope x_compact) [] [] (He.fAd K ("compact", none)) fd
  d__law_taken : ∃ fd, FunD K "_law_taken" "_law_taken" (defArgs x__law_taken) (defBody x__law_taken) (defScope x__law_taken) [] [] (He.fAd K ("_law_taken", none)) fd
  d__law_signs : ∃ fd, FunD K "_law_signs" "_law_signs" (defArgs x__law_signs) (defBody x__law_signs) (defScope x__law_signs) [] [] (He.fAd K ("_law_signs", none)) fd
  d__law_word : ∃ fd, FunD K "_law_word" "_law_word" (defArgs x__law_word) (defBody x__law_word) (defScope x__law_word) [] [] (He.fAd K ("_law_word", none)) fd
  d__law_kind : ∃ fd, FunD K "_law_kind" "_law_kind" (defArgs x__law_kind) (defBody x__law_kind) (defScope x__law_kind) [] [] (He.fAd K ("_law_kind", none)) fd
  d__law_grammar : ∃ fd, FunD K "_law_grammar" "_law_grammar" (defArgs x__law_grammar) (defBody x__law_grammar) (defScope x__law_grammar) [] [] (He.fAd K ("_law_grammar", none)) fd
  d__law_digits : ∃ fd, FunD K "_law_digits" "_law_digits" (defArgs x__law_digits) (defBody x__law_digits) (defScope x__law_digits) [] [] (He.fAd K ("_law_digits", none)) fd
  d__law_value : ∃ fd, FunD K "_law_value" "_law_value" (defArgs x__law_value) (defBody x__law_value) (defScope x__law_value) [] [] (He.fAd K ("_law_value", none)) fd
  d__law_drawn_value : ∃ fd, FunD K "_law_drawn_value" "_law_drawn_value" (defArgs x__law_drawn_value) (defBody x__law_drawn_value) (defScope x__law_drawn_value) [] [] (He.fAd K ("_law_drawn_value", none)) fd
  d__law_long : ∃ fd, FunD K "_law_long" "_law_long" (defArgs x__law_long) (defBody x__law_long) (defScope x__law_long) [] [] (He.fAd K ("_law_long", none)) fd
  d__law_bundle : ∃ fd, FunD K "_law_bundle" "_law_bundle" (defArgs x__law_bundle) (defBody x__law_bundle) (defScope x__law_bundle) [] [] (He.fAd K ("_law_bundle", none)) fd
  d__law_option : ∃ fd, FunD K "_law_option" "_law_option" (defArgs x__law_option) (defBody x__law_option) (defScope x__law_option) [] [] (He.fAd K ("_law_option", none)) fd
  d__law_read : ∃ fd, FunD K "_law_read" "_law_read" (defArgs x__law_read) (defBody x__law_read) (defScope x__law_read) [] [] (He.fAd K ("_law_read", none)) fd
  d__law_tokens : ∃ fd, FunD K "_law_tokens" "_law_tokens" (defArgs x__law_tokens) (defBody x__law_tokens) (defScope x__law_tokens) [] [] (He.fAd K ("_law_tokens", none)) fd
  d__law_turned : ∃ fd, FunD K "_law_turned" "_law_turned" (defArgs x__law_turned) (defBody x__law_turned) (defScope x__law_turned) [] [] (He.fAd K ("_law_turned", none)) fd
  d_law : ∃ fd, FunD K "law" "law" (defArgs x_law) (defBody x_law) (defScope x_law) [] [] (He.fAd K ("law", none)) fd
theorem txt_mk {K : PySem.W.Frag} {h : Heap} {mg : Str → Option Value} (X : K.In h) (G : h.Ns mainGlobals mg) (c : He.SaysD fa fn K) : Txt K mg where
  g_is_integer := He.glo_ok X G (c.fact 0 (f := .glo "is_integer") rfl)
  g_is_name := He.glo_ok X G (c.fact 1 (f := .glo "is_name") rfl)
  g_is_short_name := He.glo_ok X G (c.fact 2 (f := .glo "is_short_name") rfl)
  g_is_choice_word := He.glo_ok X G (c.fact 3 (f := .glo "is_choice_word") rfl)
  g_is_kind := He.glo_ok X G (c.fact 4 (f := .glo "is_kind") rfl)
  g_is_option := He.glo_ok X G (c.fact 5 (f := .glo "is_option") rfl)
  g_check_options := He.glo_ok X G (c.fact 6 (f := .glo "check_options") rfl)
  g_is_clause := He.glo_ok X G (c.fact 7 (f := .glo "is_clause") rfl)
  g_check_grammar := He.glo_ok X G (c.fact 8 (f := .glo "check_grammar") rfl)
  g_names_of := He.glo_ok X G (c.fact 9 (f := .glo "names_of") rfl)
  g_check_line := He.glo_ok X G (c.fact 10 (f := .glo "check_line") rfl)
  g_is_token := He.glo_ok X G (c.fact 11 (f := .glo "is_token") rfl)
  g_check_tokens := He.glo_ok X G (c.fact 12 (f := .glo "check_tokens") rfl)
  g_Splitter := He.glo_ok X G (c.fact 13 (f := .glo "Splitter") rfl)
  g_split_line := He.glo_ok X G (c.fact 14 (f := .glo "split_line") rfl)
  g_better := He.glo_ok X G (c.fact 15 (f := .glo "better") rfl)
  g_quote_token := He.glo_ok X G (c.fact 16 (f := .glo "quote_token") rfl)
  g_parse_integer := He.glo_ok X G (c.fact 17 (f := .glo "parse_integer") rfl)
  g_matching_words := He.glo_ok X G (c.fact 18 (f := .glo "matching_words") rfl)
  g_value_of := He.glo_ok X G (c.fact 19 (f := .glo "value_of") rfl)
  g_is_value := He.glo_ok X G (c.fact 20 (f := .glo "is_value") rfl)
  g_shortest_text := He.glo_ok X G (c.fact 21 (f := .glo "shortest_text") rfl)
  g_OptionTable := He.glo_ok X G (c.fact 22 (f := .glo "OptionTable") rfl)
  g_is_bundle := He.glo_ok X G (c.fact 23 (f := .glo "is_bundle") rfl)
  g_is_long := He.glo_ok X G (c.fact 24 (f := .glo "is_long") rfl)
  g_is_ordinary := He.glo_ok X G (c.fact 25 (f := .glo "is_ordinary") rfl)
  g_TokenReader := He.glo_ok X G (c.fact 26 (f := .glo "TokenReader") rfl)
  g_read_tokens := He.glo_ok X G (c.fact 27 (f := .glo "read_tokens") rfl)
  g_check_both := He.glo_ok X G (c.fact 28 (f := .glo "check_both") rfl)
  g_read_prefix := He.glo_ok X G (c.fact 29 (f := .glo "read_prefix") rfl)
  g_check_arguments := He.glo_ok X G (c.fact 30 (f := .glo "check_arguments") rfl)
  g_Writer := He.glo_ok X G (c.fact 31 (f := .glo "Writer") rfl)
  g_compact := He.glo_ok X G (c.fact 32 (f := .glo "compact") rfl)
  g__law_taken := He.glo_ok X G (c.fact 33 (f := .glo "_law_taken") rfl)
  g__law_signs := He.glo_ok X G (c.fact 34 (f := .glo "_law_signs") rfl)
  g__law_word := He.glo_ok X G (c.fact 35 (f := .glo "_law_word") rfl)
  g__law_kind := He.glo_ok X G (c.fact 36 (f := .glo "_law_kind") rfl)
  g__law_grammar := He.glo_ok X G (c.fact 37 (f := .glo "_law_grammar") rfl)
  g__law_digits := He.glo_ok X G (c.fact 38 (f := .glo "_law_digits") rfl)
  g__law_value := He.glo_ok X G (c.fact 39 (f := .glo "_law_value") rfl)
  g__law_drawn_value := He.glo_ok X G (c.fact 40 (f := .glo "_law_drawn_value") rfl)
  g__law_long := He.glo_ok X G (c.fact 41 (f := .glo "_law_long") rfl)
  g__law_bundle := He.glo_ok X G (c.fact 42 (f := .glo "_law_bundle") rfl)
  g__law_option := He.glo_ok X G (c.fact 43 (f := .glo "_law_option") rfl)
  g__law_read := He.glo_ok X G (c.fact 44 (f := .glo "_law_read") rfl)
  g__law_tokens := He.glo_ok X G (c.fact 45 (f := .glo "_law_tokens") rfl)
  g__law_turned := He.glo_ok X G (c.fact 46 (f := .glo "_law_turned") rfl)
  g_law := He.glo_ok X G (c.fact 47 (f := .glo "law") rfl)
  s_LETTERS := He.str_ok X G (c.fact 48 (f := .str "LETTERS" "abcdefghijklmnopqrstuvwxyz") rfl)
  s_HYPHEN_grammar := He.str_ok X G (c.fact 49 (f := .str "HYPHEN_grammar" "-") rfl)
  s_ALPHABET := He.str_ok X G (c.fact 50 (f := .str "ALPHABET" " !\"#$&'()*+,-./0123456789:;<=>?@ABCDEFGHIJKLMNOPQRSTUVWXYZ[\\]^_`abcdefghijklmnopqrstuvwxyz{|}~") rfl)
  s_SPACE := He.str_ok X G (c.fact 51 (f := .str "SPACE" " ") rfl)
  s_SINGLE := He.str_ok X G (c.fact 52 (f := .str "SINGLE" "'") rfl)
  s_DOUBLE := He.str_ok X G (c.fact 53 (f := .str "DOUBLE" "\"") rfl)
  s_BACKSLASH := He.str_ok X G (c.fact 54 (f := .str "BACKSLASH" "\\") rfl)
  s_DIGITS := He.str_ok X G (c.fact 55 (f := .str "DIGITS" "0123456789") rfl)
  s_MINUS := He.str_ok X G (c.fact 56 (f := .str "MINUS" "-") rfl)
  s_SEPARATOR := He.str_ok X G (c.fact 57 (f := .str "SEPARATOR" "--") rfl)
  s_HYPHEN_lines := He.str_ok X G (c.fact 58 (f := .str "HYPHEN_lines" "-") rfl)
  s_EQUALS := He.str_ok X G (c.fact 59 (f := .str "EQUALS" "=") rfl)
  i_MAX_NAME_LENGTH := He.int_ok X G (c.fact 60 (f := .int "MAX_NAME_LENGTH" 12) rfl)
  i_MAX_OPTIONS := He.int_ok X G (c.fact 61 (f := .int "MAX_OPTIONS" 12) rfl)
  i_MAX_CLAUSES := He.int_ok X G (c.fact 62 (f := .int "MAX_CLAUSES" 60) rfl)
  i_MAX_POSITIONALS := He.int_ok X G (c.fact 63 (f := .int "MAX_POSITIONALS" 9) rfl)
  i_MAX_INTEGER := He.int_ok X G (c.fact 64 (f := .int "MAX_INTEGER" 9999) rfl)
  i_MAX_CHOICES := He.int_ok X G (c.fact 65 (f := .int "MAX_CHOICES" 8) rfl)
  i_MAX_WORD_LENGTH := He.int_ok X G (c.fact 66 (f := .int "MAX_WORD_LENGTH" 12) rfl)
  i_MAX_LINE := He.int_ok X G (c.fact 67 (f := .int "MAX_LINE" 200) rfl)
  i_MAX_DIGITS := He.int_ok X G (c.fact 68 (f := .int "MAX_DIGITS" 4) rfl)
  f_len := He.free_ok X G (c.fact 69 (f := .free "len") rfl)
  f_isinstance := He.free_ok X G (c.fact 70 (f := .free "isinstance") rfl)
  f_all := He.free_ok X G (c.fact 71 (f := .free "all") rfl)
  f_min := He.free_ok X G (c.fact 72 (f := .free "min") rfl)
  f_max := He.free_ok X G (c.fact 73 (f := .free "max") rfl)
  f_set := He.free_ok X G (c.fact 74 (f := .free "set") rfl)
  f_list := He.free_ok X G (c.fact 75 (f := .free "list") rfl)
  f_tuple := He.free_ok X G (c.fact 76 (f := .free "tuple") rfl)
  f_dict := He.free_ok X G (c.fact 77 (f := .free "dict") rfl)
  f_sorted := He.free_ok X G (c.fact 78 (f := .free "sorted") rfl)
  f_int := He.free_ok X G (c.fact 79 (f := .free "int") rfl)
  f_str := He.free_ok X G (c.fact 80 (f := .free "str") rfl)
  f_bool := He.free_ok X G (c.fact 81 (f := .free "bool") rfl)
  f_range := He.free_ok X G (c.fact 82 (f := .free "range") rfl)
  f_enumerate := He.free_ok X G (c.fact 83 (f := .free "enumerate") rfl)
  c_Splitter := He.cls_ok (c.fact 84 (f := .cls "Splitter") rfl)
  k_Splitter := He.mkr_ok (c.fact 85 (f := .mkr "Splitter") rfl)
  n_Splitter_line := He.noat_ok (c.fact 86 (f := .noat "Splitter" "line") rfl)
  n_Splitter_position := He.noat_ok (c.fact 87 (f := .noat "Splitter" "position") rfl)
  n_Splitter_found := He.noat_ok (c.fact 88 (f := .noat "Splitter" "found") rfl)
  m_Splitter_run := He.meth_ok (c.fact 89 (f := .meth "Splitter" "run") rfl)
  m_Splitter_read_token := He.meth_ok (c.fact 90 (f := .meth "Splitter" "read_token") rfl)
  m_Splitter_read_escaped := He.meth_ok (c.fact 91 (f := .meth "Splitter" "read_escaped") rfl)
  m_Splitter_read_quoted := He.meth_ok (c.fact 92 (f := .meth "Splitter" "read_quoted") rfl)
  c_OptionTable := He.cls_ok (c.fact 93 (f := .cls "OptionTable") rfl)
  k_OptionTable := He.mkr_ok (c.fact 94 (f := .mkr "OptionTable") rfl)
  n_OptionTable_names := He.noat_ok (c.fact 95 (f := .noat "OptionTable" "names") rfl)
  n_OptionTable_kinds := He.noat_ok (c.fact 96 (f := .noat "OptionTable" "kinds") rfl)
  n_OptionTable_letters := He.noat_ok (c.fact 97 (f := .noat "OptionTable" "letters") rfl)
  n_OptionTable_short_names := He.noat_ok (c.fact 98 (f := .noat "OptionTable" "short_names") rfl)
  m_OptionTable_matches := He.meth_ok (c.fact 99 (f := .meth "OptionTable" "matches") rfl)
  m_OptionTable_abbreviation := He.meth_ok (c.fact 100 (f := .meth "OptionTable" "abbreviation") rfl)
  c_TokenReader := He.cls_ok (c.fact 101 (f := .cls "TokenReader") rfl)
  k_TokenReader := He.mkr_ok (c.fact 102 (f := .mkr "TokenReader") rfl)
  n_TokenReader_table := He.noat_ok (c.fact 103 (f := .noat "TokenReader" "table") rfl)
  n_TokenReader_limit := He.noat_ok (c.fact 104 (f := .noat "TokenReader" "limit") rfl)
  n_TokenReader_assignments := He.noat_ok (c.fact 105 (f := .noat "TokenReader" "assignments") rfl)
  n_TokenReader_words := He.noat_ok (c.fact 106 (f := .noat "TokenReader" "words") rfl)
  n_TokenReader_pending := He.noat_ok (c.fact 107 (f := .noat "TokenReader" "pending") rfl)
  n_TokenReader_only_words := He.noat_ok (c.fact 108 (f := .noat "TokenReader" "only_words") rfl)
  n_TokenReader_count := He.noat_ok (c.fact 109 (f := .noat "TokenReader" "count") rfl)
  m_TokenReader_read := He.meth_ok (c.fact 110 (f := .meth "TokenReader" "read") rfl)
  m_TokenReader_add_word := He.meth_ok (c.fact 111 (f := .meth "TokenReader" "add_word") rfl)
  m_TokenReader_start := He.meth_ok (c.fact 112 (f := .meth "TokenReader" "start") rfl)
  m_TokenReader_assign := He.meth_ok (c.fact 113 (f := .meth "TokenReader" "assign") rfl)
  m_TokenReader_read_long := He.meth_ok (c.fact 114 (f := .meth "TokenReader" "read_long") rfl)
  m_TokenReader_read_bundle := He.meth_ok (c.fact 115 (f := .meth "TokenReader" "read_bundle") rfl)
  c_Writer := He.cls_ok (c.fact 116 (f := .cls "Writer") rfl)
  k_Writer := He.mkr_ok (c.fact 117 (f := .mkr "Writer") rfl)
  n_Writer_table := He.noat_ok (c.fact 118 (f := .noat "Writer" "table") rfl)
  n_Writer_assignments := He.noat_ok (c.fact 119 (f := .noat "Writer" "assignments") rfl)
  n_Writer_flags := He.noat_ok (c.fact 120 (f := .noat "Writer" "flags") rfl)
  n_Writer_parts := He.noat_ok (c.fact 121 (f := .noat "Writer" "parts") rfl)
  n_Writer_valued := He.noat_ok (c.fact 122 (f := .noat "Writer" "valued") rfl)
  m_Writer_add := He.meth_ok (c.fact 123 (f := .meth "Writer" "add") rfl)
  m_Writer_text := He.meth_ok (c.fact 124 (f := .meth "Writer" "text") rfl)
  m_Writer_attached := He.meth_ok (c.fact 125 (f := .meth "Writer" "attached") rfl)
  m_Writer_alone := He.meth_ok (c.fact 126 (f := .meth "Writer" "alone") rfl)
  m_Writer_options := He.meth_ok (c.fact 127 (f := .meth "Writer" "options") rfl)
  d_is_integer := c.def_ 0 (d := d_is_integer) rfl
  d_is_name := c.def_ 1 (d := d_is_name) rfl
  d_is_short_name := c.def_ 2 (d := d_is_short_name) rfl
  d_is_choice_word := c.def_ 3 (d := d_is_choice_word) rfl
  d_is_kind := c.def_ 4 (d := d_is_kind) rfl
  d_is_option := c.def_ 5 (d := d_is_option) rfl
  d_check_options := c.def_ 6 (d := d_check_options) rfl
  d_is_clause := c.def_ 7 (d := d_is_clause) rfl
  d_check_grammar := c.def_ 8 (d := d_check_grammar) rfl
  d_names_of := c.def_ 9 (d := d_names_of) rfl
  d_check_line := c.def_ 10 (d := d_check_line) rfl
  d_is_token := c.def_ 11 (d := d_is_token) rfl
  d_check_tokens := c.def_ 12 (d := d_check_tokens) rfl
  d_Splitter___init__ := c.def_ 13 (d := d_Splitter___init__) rfl
  d_Splitter_run := c.def_ 14 (d := d_Splitter_run) rfl
  d_Splitter_read_token := c.def_ 15 (d := d_Splitter_read_token) rfl
  d_Splitter_read_escaped := c.def_ 16 (d := d_Splitter_read_escaped) rfl
  d_Splitter_read_quoted := c.def_ 17 (d := d_Splitter_read_quoted) rfl
  d_split_line := c.def_ 18 (d := d_split_line) rfl
  d_better := c.def_ 19 (d := d_better) rfl
  d_quote_token := c.def_ 20 (d := d_quote_token) rfl
  d_parse_integer := c.def_ 21 (d := d_parse_integer) rfl
  d_matching_words := c.def_ 22 (d := d_matching_words) rfl
  d_value_of := c.def_ 23 (d := d_value_of) rfl
  d_is_value := c.def_ 24 (d := d_is_value) rfl
  d_shortest_text := c.def_ 25 (d := d_shortest_text) rfl
  d_OptionTable___init__ := c.def_ 26 (d := d_OptionTable___init__) rfl
  d_OptionTable_matches := c.def_ 27 (d := d_OptionTable_matches) rfl
  d_OptionTable_abbreviation := c.def_ 28 (d := d_OptionTable_abbreviation) rfl
  d_is_bundle := c.def_ 29 (d := d_is_bundle) rfl
  d_is_long := c.def_ 30 (d := d_is_long) rfl
  d_is_ordinary := c.def_ 31 (d := d_is_ordinary) rfl
  d_TokenReader___init__ := c.def_ 32 (d := d_TokenReader___init__) rfl
  d_TokenReader_read := c.def_ 33 (d := d_TokenReader_read) rfl
  d_TokenReader_add_word := c.def_ 34 (d := d_TokenReader_add_word) rfl
  d_TokenReader_start := c.def_ 35 (d := d_TokenReader_start) rfl
  d_TokenReader_assign := c.def_ 36 (d := d_TokenReader_assign) rfl
  d_TokenReader_read_long := c.def_ 37 (d := d_TokenReader_read_long) rfl
  d_TokenReader_read_bundle := c.def_ 38 (d := d_TokenReader_read_bundle) rfl
  d_read_tokens := c.def_ 39 (d := d_read_tokens) rfl
  d_check_both := c.def_ 40 (d := d_check_both) rfl
  d_read_prefix := c.def_ 41 (d := d_read_prefix) rfl
  d_check_arguments := c.def_ 42 (d := d_check_arguments) rfl
  d_Writer___init__ := c.def_ 43 (d := d_Writer___init__) rfl
  d_Writer_add := c.def_ 44 (d := d_Writer_add) rfl
  d_Writer_text := c.def_ 45 (d := d_Writer_text) rfl
  d_Writer_attached := c.def_ 46 (d := d_Writer_attached) rfl
  d_Writer_alone := c.def_ 47 (d := d_Writer_alone) rfl
  d_Writer_options := c.def_ 48 (d := d_Writer_options) rfl
  d_compact := c.def_ 49 (d := d_compact) rfl
  d__law_taken := c.def_ 50 (d := d__law_taken) rfl
  d__law_signs := c.def_ 51 (d := d__law_signs) rfl
  d__law_word := c.def_ 52 (d := d__law_word) rfl
  d__law_kind := c.def_ 53 (d := d__law_kind) rfl
  d__law_grammar := c.def_ 54 (d := d__law_grammar) rfl
  d__law_digits := c.def_ 55 (d := d__law_digits) rfl
  d__law_value := c.def_ 56 (d := d__law_value) rfl
  d__law_drawn_value := c.def_ 57 (d := d__law_drawn_value) rfl
  d__law_long := c.def_ 58 (d := d__law_long) rfl
  d__law_bundle := c.def_ 59 (d := d__law_bundle) rfl
  d__law_option := c.def_ 60 (d := d__law_option) rfl
  d__law_read := c.def_ 61 (d := d__law_read) rfl
  d__law_tokens := c.def_ 62 (d := d__law_tokens) rfl
  d__law_turned := c.def_ 63 (d := d__law_turned) rfl
  d_law := c.def_ 64 (d := d_law) rfl
end Fc
namespace Fc
open PySem PySem.Spec PyProof.Rows L2
def names0 : List PySem.Str := ["FlagclauseError", "InvalidGrammar", "LineError", "InvalidToken", "ParseError", "InvalidArguments", "CLAUSE_WORDS", "is_integer", "is_name", "is_short_name", "is_choice_word", "is_kind", "is_option", "check_options", "is_clause", "check_grammar", "names_of", "check_line", "is_token", "check_tokens", "Splitter", "split_line", "better", "quote_token", "parse_integer", "matching_words", "value_of", "is_value", "shortest_text", "OptionTable"]
def names1 : List PySem.Str := ["is_bundle", "is_long", "is_ordinary", "TokenReader", "read_tokens", "check_both", "read_prefix", "check_arguments", "Writer", "compact", "_law_taken", "_law_signs", "_law_word", "_law_kind", "_law_grammar", "_law_digits", "_law_value", "_law_drawn_value", "_law_long", "_law_bundle", "_law_option", "_law_read", "_law_tokens", "_law_turned", "LETTERS", "HYPHEN_grammar", "ALPHABET", "SPACE", "SINGLE", "DOUBLE"]
def names2 : List PySem.Str := ["BACKSLASH", "DIGITS", "MINUS", "SEPARATOR", "HYPHEN_lines", "EQUALS", "MAX_NAME_LENGTH", "MAX_OPTIONS", "MAX_CLAUSES", "MAX_POSITIONALS", "MAX_INTEGER", "MAX_CHOICES", "MAX_WORD_LENGTH", "MAX_LINE", "MAX_DIGITS"]
def names : List PySem.Str := names0 ++ names1 ++ names2
abbrev R : PySem.W.OpenRow := PySem.W.OpenLaw.row PySem.Challenge.rw_flagclause_k95_whole_options_in_any_orde
abbrev hk : PySem.W.Hook := He.hookD 4 fa fn
def ob (s : PySem.W.SharedT) : He.AlD := He.obsDG 4 fa fn (HandSHeadRun.getT s)
theorem ob_eq (s : PySem.W.SharedT) : ob s = hk.obs s.abs := He.obsDG_eq (HandSHeadRun.getT_eq s)
/-- the top, run -/
noncomputable abbrev topE (w : World) (os : OsState) := HandSHeadRun.endF (HandSHeadRun.stepQ (HandSHeadRun.denQ HandSHeadRun.tabQ) R.prog w) 6000 R.prog w os
def frS (s : PySem.W.SharedT) : PySem.W.Frag := He.frG (HandSHeadRun.getT s) (He.asD (HandSHeadRun.getT s) 4)
theorem runA (w : World) : HandSHeadRun.RunEq R (PySem.W.view R.prog [81]) PySem.W.Hook.none (fun _ => ()) 6000 names w := by
  intro os
  kernel_rfl
theorem runB (w : World) (os : OsState) : (topE w os).map (fun s => fa.all fun f => f.ok (frS s)) = some true := by
  kernel_rfl
theorem runC (w : World) (os : OsState) : (topE w os).map (fun s => fn.all fun d => d.ok (frS s)) = some true := by
  kernel_rfl
theorem runD (w : World) (os : OsState) : (topE w os).map (fun s => fn.map fun d => He.fnW (frS s) d.at_) = some (fn.map He.DefD.val) := by
  kernel_rfl
theorem run (w : World) : HandSHeadRun.RunEq R (PySem.W.view R.prog [81]) hk ob 6000 names w := by
  intro os
  have a := runA w os
  have b := runB w os
  have c := runC w os
  have d := runD w os
  unfold topE at b c d
  generalize HandSHeadRun.endF (HandSHeadRun.stepQ (HandSHeadRun.denQ HandSHeadRun.tabQ) R.prog w) 6000 R.prog w os = z at a b c d ⊢
  cases z with
  | none => cases b
  | some s =>
    have a1 := congrArg (fun q => q.1) (Option.some.inj a)
    have a2 := congrArg (fun q => q.2.1) (Option.some.inj a)
    have b1 := Option.some.inj b
    have c1 := Option.some.inj c
    have d1 := Option.some.inj d
    have e1 : (ob s).1 = true := (congr (congrArg and b1) c1)
    exact congrArg some (Prod.ext a1 (Prod.ext a2 (Prod.ext e1 d1)))
end Fc
namespace Fc
open PySem PySem.Spec PyProof.Rows L2

/-! ### layer W: values, the store of private objects -/
/-- the built-in classes -/
inductive Tg where
  | non | bl | int | str | tup | lst | dic
  deriving DecidableEq
def nmT : Tg → String
  | .non => "NoneType" | .bl => "bool" | .int => "int" | .str => "str" | .tup => "tuple" | .lst => "list" | .dic => "dict"
inductive Wv where
  | ty (t : Tg) | non | bl (b : Bool) | int (i : Int) | str (l : List Nat) | tup (ws : List Wv) | lst (ws : List Wv) | scr (ns : List Int) | r (a : Addr)

/-- a text of its codes -/
def S (l : List Nat) : Str := ⟨l.toArray⟩
theorem S_toList (l : List Nat) : (S l).cps.toList = l := rfl
theorem S_eta (x : Str) : S x.cps.toList = x := by
  obtain ⟨a⟩ := x
  show (⟨a.toList.toArray⟩ : Str) = ⟨a⟩
  simp
theorem S_inj {a b : List Nat} (h : S a = S b) : a = b := by
  have e : (S a).cps.toList = (S b).cps.toList := by rw [h]
  exact e
theorem S_len (l : List Nat) : (S l).length = l.length := rfl
theorem S_append (a b : List Nat) : S a ++ S b = S (a ++ b) := by
  show (⟨a.toArray ++ b.toArray⟩ : Str) = ⟨(a ++ b).toArray⟩
  simp

mutual
inductive Rl (K : PySem.W.Frag) (H : Hp) : Wv → V → Prop
  | non : Rl K H .non .non
  | bl (b : Bool) : Rl K H (.bl b) (.bl b)
  | int (i : Int) : Rl K H (.int i) (.int i)
  | str (l : List Nat) : Rl K H (.str l) (.str (S l))
  | tup {a : Addr} {vs : List V} {ws : List Wv} : H a = some (.tup vs) → RlA K H ws vs → Rl K H (.tup ws) (.ref a)
  | lst {a : Addr} {vs : List V} {ws : List Wv} : H a = some (.lst vs) → RlA K H ws vs → Rl K H (.lst ws) (.ref a)
  | scr {a : Addr} {ns : List Int} : SqL K H a (ns.map V.int) → Rl K H (.scr ns) (.ref a)
  | r (a : Addr) : Rl K H (.r a) (.ref a)
  | ty (t : Tg) : Rl K H (.ty t) (.ty (nmT t))
inductive RlA (K : PySem.W.Frag) (H : Hp) : List Wv → List V → Prop
  | nil : RlA K H [] []
  | cons {w : Wv} {v : V} {ws : List Wv} {vs : List V} : Rl K H w v → RlA K H ws vs → RlA K H (w :: ws) (v :: vs)
end

/-- the heap grows -/
abbrev Gx (H H' : Hp) : Prop := ∀ a o, H a = some o → H' a = some o
theorem Gx.refl (H : Hp) : Gx H H := fun _ _ h => h
theorem Gx.trans {H H1 H2 : Hp} (a : Gx H H1) (b : Gx H1 H2) : Gx H H2 := fun c o h => b c o (a c o h)
theorem Gx.free {H H' : Hp} (e : Gx H H') {a : Addr} (h : H' a = none) : H a = none := by
  cases q : H a with
  | none => rfl
  | some o =>
    rw [e a o q] at h
    cases h
theorem Gx.new {H : Hp} {p : Addr} {o : HO} (h : H p = none) : Gx H (upd H p o) := fun a u e => by
  rw [upd_ne (ne_of_none e h)]
  exact e
theorem Gx.seq {K : PySem.W.Frag} {H H' : Hp} {a : Addr} {xs : List V} (e : Gx H H') (h : SqL K H a xs) : SqL K H' a xs := by
  rcases h with (h | ⟨o, h⟩) | h
  · exact .inl (.inl (e _ _ h))
  · exact .inl (.inr ⟨o, e _ _ h⟩)
  · exact .inr h

mutual
theorem Rl.mono {K : PySem.W.Frag} {H H' : Hp} (e : Gx H H') : ∀ {w : Wv} {v : V}, Rl K H w v → Rl K H' w v
  | _, _, .non => .non
  | _, _, .bl b => .bl b
  | _, _, .int i => .int i
  | _, _, .str l => .str l
  | _, _, .tup h r => .tup (e _ _ h) (RlA.mono e r)
  | _, _, .lst h r => .lst (e _ _ h) (RlA.mono e r)
  | _, _, .scr h => .scr (e.seq h)
  | _, _, .r a => .r a
  | _, _, .ty t => .ty t
theorem RlA.mono {K : PySem.W.Frag} {H H' : Hp} (e : Gx H H') : ∀ {ws : List Wv} {vs : List V}, RlA K H ws vs → RlA K H' ws vs
  | _, _, .nil => .nil
  | _, _, .cons r t => .cons (Rl.mono e r) (RlA.mono e t)
end
section
variable {K : PySem.W.Frag} {H : Hp}
theorem RlA.len : ∀ {ws : List Wv} {vs : List V}, RlA K H ws vs → ws.length = vs.length
  | _, _, .nil => rfl
  | _, _, .cons _ t => congrArg Nat.succ t.len
theorem RlA.get : ∀ {ws : List Wv} {vs : List V} {i : Nat} {w : Wv}, RlA K H ws vs → ws[i]? = some w → ∃ v, vs[i]? = some v ∧ Rl K H w v
  | _, _, _, _, .nil, e => by simp at e
  | _, _, 0, _, .cons r _, e => by simp at e; subst e; exact ⟨_, rfl, r⟩
  | _, _, i + 1, w, .cons _ t, e => by
    obtain ⟨u, h1, h2⟩ := RlA.get (i := i) (w := w) t (by simpa using e)
    exact ⟨u, by simpa using h1, h2⟩
theorem RlA.getV : ∀ {ws : List Wv} {vs : List V} {i : Nat} {v : V}, RlA K H ws vs → vs[i]? = some v → ∃ w, ws[i]? = some w ∧ Rl K H w v
  | _, _, _, _, .nil, e => by simp at e
  | _, _, 0, _, .cons r _, e => by simp at e; subst e; exact ⟨_, rfl, r⟩
  | _, _, i + 1, w, .cons _ t, e => by
    obtain ⟨u, h1, h2⟩ := RlA.getV (i := i) (v := w) t (by simpa using e)
    exact ⟨u, by simpa using h1, h2⟩
theorem RlA.set {w : Wv} {v : V} (r : Rl K H w v) : ∀ {ws : List Wv} {vs : List V} (i : Nat), RlA K H ws vs → RlA K H (ws.set i w) (vs.set i v)
  | _, _, _, .nil => .nil
  | _, _, 0, .cons _ t => .cons r t
  | _, _, i + 1, .cons q t => .cons q (RlA.set r i t)
theorem RlA.append : ∀ {ws xs : List Wv} {vs us : List V}, RlA K H ws vs → RlA K H xs us → RlA K H (ws ++ xs) (vs ++ us)
  | _, _, _, _, .nil, s => s
  | _, _, _, _, .cons r t, s => .cons r (RlA.append t s)
theorem RlA.take : ∀ {ws : List Wv} {vs : List V} (n : Nat), RlA K H ws vs → RlA K H (ws.take n) (vs.take n)
  | _, _, 0, _ => .nil
  | _, _, _ + 1, .nil => .nil
  | _, _, n + 1, .cons r t => .cons r (RlA.take n t)
theorem RlA.drop : ∀ {ws : List Wv} {vs : List V} (n : Nat), RlA K H ws vs → RlA K H (ws.drop n) (vs.drop n)
  | _, _, 0, r => r
  | _, _, _ + 1, .nil => .nil
  | _, _, n + 1, .cons _ t => RlA.drop n t
theorem RlA.erase : ∀ {ws : List Wv} {vs : List V} (n : Nat), RlA K H ws vs → RlA K H (ws.eraseIdx n) (vs.eraseIdx n)
  | _, _, _, .nil => .nil
  | _, _, 0, .cons _ t => t
  | _, _, n + 1, .cons r t => .cons r (RlA.erase n t)
theorem RlA.strs : ∀ (ls : List (List Nat)), RlA K H (ls.map Wv.str) (ls.map fun l => V.str (S l))
  | [] => .nil
  | l :: ls => .cons (.str l) (RlA.strs ls)
theorem RlA.ints : ∀ (ns : List Int), RlA K H (ns.map Wv.int) (ns.map V.int)
  | [] => .nil
  | n :: ns => .cons (.int n) (RlA.ints ns)
theorem RlA.strs_of : ∀ {ls : List (List Nat)} {vs : List V}, RlA K H (ls.map Wv.str) vs → vs = (ls.map S).map V.str
  | [], _, .nil => rfl
  | l :: ls, _, .cons r t => by
    cases r
    rw [RlA.strs_of t]
    rfl
theorem RlA.ints_of : ∀ {ns : List Int} {vs : List V}, RlA K H (ns.map Wv.int) vs → vs = ns.map V.int
  | [], _, .nil => rfl
  | n :: ns, _, .cons r t => by
    cases r
    rw [RlA.ints_of t]
    rfl
end

/-- field names by number -/
def nmL : List Str := ["line", "position", "found", "names", "kinds", "letters", "short_names", "table", "limit", "assignments", "words", "pending", "only_words", "count", "flags", "parts", "valued"]
def nm (i : Nat) : Str := nmL.getD i ""
theorem nm_inj : ∀ i, i < 17 → ∀ j, j < 17 → nm i = nm j → i = j := by decide +kernel

/-- what a private object holds; fdic: a dict while a loop walks it -/
inductive SO where
  | lst (ws : List Wv) | dic (kvs : List (List Nat × Wv)) | fdic (u : HO) (kvs : List (List Nat × Wv)) | ins (C dx : Addr) (fs : List (Nat × Wv))

def RlD (K : PySem.W.Frag) (H : Hp) : List (List Nat × Wv) → List (Key × V) → Prop := Paired fun p q => q.1 = Sum.inr (S p.1) ∧ Rl K H p.2 q.2
def RlF (K : PySem.W.Frag) (H : Hp) : List (Nat × Wv) → List (Str × V) → Prop := Paired fun p q => p.1 < 17 ∧ q.1 = nm p.1 ∧ Rl K H p.2 q.2
/-- no key twice -/
def NdK (ks : List (List Nat × Wv)) : Prop := (ks.map (·.1)).Nodup
inductive SoR (K : PySem.W.Frag) (H : Hp) : SO → HO → Prop
  | lst {ws : List Wv} {vs : List V} : RlA K H ws vs → SoR K H (.lst ws) (.lst vs)
  | dic {ks : List (List Nat × Wv)} {kv : List (Key × V)} : RlD K H ks kv → NdK ks → SoR K H (.dic ks) (.dK kv)
  | fdic {ks : List (List Nat × Wv)} {o : Obj} {kv : List (Key × V)} : RlD K H ks kv → NdK ks → SoR K H (.fdic (.frz o (.dK kv)) ks) (.frz o (.dK kv))
  | ins {C dx : Addr} {fs : List (Nat × Wv)} {fv : List (Str × V)} : RlF K H fs fv → SoR K H (.ins C dx fs) (.ins C dx fv)
theorem SoR.mono {K : PySem.W.Frag} {H H' : Hp} (e : Gx H H') {so : SO} {o : HO} (h : SoR K H so o) : SoR K H' so o := by
  cases h with
  | lst r => exact .lst (r.mono e)
  | dic r n => exact .dic (Paired.mapP r fun p q z => ⟨z.1, z.2.mono e⟩) n
  | fdic r n => exact .fdic (Paired.mapP r fun p q z => ⟨z.1, z.2.mono e⟩) n
  | ins r => exact .ins (Paired.mapP r fun p q z => ⟨z.1, z.2.1, z.2.2.mono e⟩)

abbrev Pst := Addr → Option SO
def updP (P : Pst) (a : Addr) (o : SO) : Pst := fun b => if b = a then some o else P b
def delP (P : Pst) (a : Addr) : Pst := fun b => if b = a then none else P b
theorem updP_same {P : Pst} {a : Addr} {o : SO} : updP P a o a = some o := by unfold updP; rw [if_pos rfl]
theorem updP_ne {P : Pst} {a b : Addr} {o : SO} (h : b ≠ a) : updP P a o b = P b := by unfold updP; rw [if_neg h]
theorem updP_updP {P : Pst} {a : Addr} {o u : SO} : updP (updP P a o) a u = updP P a u := by
  funext b; unfold updP; split <;> rfl
theorem delP_ne {P : Pst} {a b : Addr} (h : b ≠ a) : delP P a b = P b := by unfold delP; rw [if_neg h]
theorem ne_ofP {P : Pst} {a b : Addr} {o : SO} (h : P a = some o) (h' : P b = none) : a ≠ b := by
  intro e; subst e; rw [h] at h'; cases h'

/-- Hb: the data; P: the private objects; H: the heap -/
structure Sit (K : PySem.W.Frag) (Hb H : Hp) (P : Pst) : Prop where
  ex : Gx Hb H
  pv : ∀ a so, P a = some so → Hb a = none ∧ ∃ o, H a = some o ∧ SoR K Hb so o
/-- growth of the data; what is neither data nor private stands, and stays so -/
structure Gw (Hb : Hp) (P : Pst) (H : Hp) (Hb' : Hp) (P' : Pst) (H' : Hp) : Prop where
  ex : Gx Hb Hb'
  fr : ∀ a o, H a = some o → Hb a = none → P a = none → H' a = some o ∧ Hb' a = none ∧ P' a = none
theorem Gw.refl {Hb H : Hp} {P : Pst} : Gw Hb P H Hb P H := ⟨Gx.refl _, fun _ _ h1 h2 h3 => ⟨h1, h2, h3⟩⟩
theorem Gw.trans {Hb H Hb1 H1 Hb2 H2 : Hp} {P P1 P2 : Pst} (a : Gw Hb P H Hb1 P1 H1) (b : Gw Hb1 P1 H1 Hb2 P2 H2) : Gw Hb P H Hb2 P2 H2 :=
  ⟨a.ex.trans b.ex, fun c o h1 h2 h3 => let ⟨q1, q2, q3⟩ := a.fr c o h1 h2 h3; b.fr c o q1 q2 q3⟩
section
variable {K : PySem.W.Frag} {Hb H : Hp} {P : Pst}
theorem Sit.free (s : Sit K Hb H P) {p : Addr} (h : H p = none) : Hb p = none ∧ P p = none := by
  refine ⟨s.ex.free h, ?_⟩
  cases q : P p with
  | none => rfl
  | some so =>
    obtain ⟨_, o, e, _⟩ := s.pv p so q
    rw [h] at e
    cases e
/-- new data -/
theorem Sit.new (s : Sit K Hb H P) {p : Addr} {o : HO} (h : H p = none) : Sit K (upd Hb p o) (upd H p o) P ∧ Gw Hb P H (upd Hb p o) P (upd H p o) := by
  obtain ⟨hb, hp⟩ := s.free h
  refine ⟨⟨fun a u e => ?_, fun a so e => ?_⟩, ⟨Gx.new hb, fun a u h1 h2 h3 => ?_⟩⟩
  · by_cases q : a = p
    · subst q
      rw [upd_same] at e ⊢
      exact e
    · rw [upd_ne q] at e ⊢
      exact s.ex a u e
  · have q : a ≠ p := ne_ofP e hp
    obtain ⟨h1, u, h2, h3⟩ := s.pv a so e
    exact ⟨by rw [upd_ne q]; exact h1, u, by rw [upd_ne q]; exact h2, h3.mono (Gx.new hb)⟩
  · have q : a ≠ p := ne_of_none h1 h
    exact ⟨by rw [upd_ne q]; exact h1, by rw [upd_ne q]; exact h2, h3⟩
/-- a new private object -/
theorem Sit.newP (s : Sit K Hb H P) {p : Addr} {o : HO} {so : SO} (h : H p = none) (r : SoR K Hb so o) : Sit K Hb (upd H p o) (updP P p so) ∧ Gw Hb P H Hb (updP P p so) (upd H p o) := by
  obtain ⟨hb, hp⟩ := s.free h
  refine ⟨⟨fun a u e => ?_, fun a so' e => ?_⟩, ⟨Gx.refl _, fun a u h1 h2 h3 => ?_⟩⟩
  · have q : a ≠ p := ne_of_none e hb
    rw [upd_ne q]
    exact s.ex a u e
  · by_cases q : a = p
    · subst q
      rw [updP_same] at e
      cases e
      exact ⟨hb, o, upd_same, r⟩
    · rw [updP_ne q] at e
      obtain ⟨h1, u, h2, h3⟩ := s.pv a so' e
      exact ⟨h1, u, by rw [upd_ne q]; exact h2, h3⟩
  · have q : a ≠ p := ne_of_none h1 h
    exact ⟨by rw [upd_ne q]; exact h1, h2, by rw [updP_ne q]; exact h3⟩
/-- a private object is changed -/
theorem Sit.mut (s : Sit K Hb H P) {p : Addr} {o : HO} {so so0 : SO} (h : P p = some so0) (r : SoR K Hb so o) : Sit K Hb (upd H p o) (updP P p so) ∧ Gw Hb P H Hb (updP P p so) (upd H p o) := by
  obtain ⟨hb, _⟩ := s.pv p so0 h
  refine ⟨⟨fun a u e => ?_, fun a so' e => ?_⟩, ⟨Gx.refl _, fun a u h1 h2 h3 => ?_⟩⟩
  · have q : a ≠ p := ne_of_none e hb
    rw [upd_ne q]
    exact s.ex a u e
  · by_cases q : a = p
    · subst q
      rw [updP_same] at e
      cases e
      exact ⟨hb, o, upd_same, r⟩
    · rw [updP_ne q] at e
      obtain ⟨h1, u, h2, h3⟩ := s.pv a so' e
      exact ⟨h1, u, by rw [upd_ne q]; exact h2, h3⟩
  · have q : a ≠ p := fun z => by
      subst z
      rw [h3] at h
      cases h
    exact ⟨by rw [upd_ne q]; exact h1, h2, by rw [updP_ne q]; exact h3⟩
/-- a private object becomes data -/
theorem Sit.pub (s : Sit K Hb H P) {p : Addr} {o : HO} {so : SO} (h : P p = some so) (ho : H p = some o) : Sit K (upd Hb p o) H (delP P p) ∧ Gw Hb P H (upd Hb p o) (delP P p) H := by
  obtain ⟨hb, _⟩ := s.pv p so h
  refine ⟨⟨fun a u e => ?_, fun a so' e => ?_⟩, ⟨Gx.new hb, fun a u h1 h2 h3 => ?_⟩⟩
  · by_cases q : a = p
    · subst q
      rw [upd_same] at e
      cases e
      exact ho
    · rw [upd_ne q] at e
      exact s.ex a u e
  · by_cases q : a = p
    · subst q
      unfold delP at e
      rw [if_pos rfl] at e
      cases e
    · rw [delP_ne q] at e
      obtain ⟨h1, u, h2, h3⟩ := s.pv a so' e
      exact ⟨by rw [upd_ne q]; exact h1, u, h2, h3.mono (Gx.new hb)⟩
  · have q : a ≠ p := fun z => by
      subst z
      rw [h3] at h
      cases h
    exact ⟨h1, by rw [upd_ne q]; exact h2, by rw [delP_ne q]; exact h3⟩
/-- private objects are forgotten -/
theorem Sit.drop (s : Sit K Hb H P) {P1 : Pst} (h : ∀ a so, P1 a = some so → P a = some so) : Sit K Hb H P1 := ⟨s.ex, fun a so e => s.pv a so (h a so e)⟩
theorem Gw.drop {Hb' H' : Hp} {P' P1 : Pst} (g : Gw Hb P H Hb' P' H') (h : ∀ a so, P1 a = some so → P' a = some so) : Gw Hb P H Hb' P1 H' :=
  ⟨g.ex, fun a o h1 h2 h3 => by
    obtain ⟨q1, q2, q3⟩ := g.fr a o h1 h2 h3
    refine ⟨q1, q2, ?_⟩
    cases q : P1 a with
    | none => rfl
    | some so =>
      rw [h a so q] at q3
      cases q3⟩
/-- an untracked-by-us object stands at D while the rest grows: D changes -/
theorem Sit.aside (s : Sit K Hb H P) {D : Addr} {o : HO} (h1 : Hb D = none) (h2 : P D = none) : Sit K Hb (upd H D o) P :=
  ⟨fun a u e => by rw [upd_ne (ne_of_none e h1)]; exact s.ex a u e, fun a so e => by
    obtain ⟨q1, u, q2, q3⟩ := s.pv a so e
    exact ⟨q1, u, by rw [upd_ne (ne_ofP e h2)]; exact q2, q3⟩⟩
end

/-! ### slots -/
abbrev Env := List (Option Wv)
def Gm (K : PySem.W.Frag) (Hb : Hp) (G : Env) (σ : L2.St) : Prop := G.length = σ.length ∧ ∀ (i : Nat) (w : Wv), G[i]? = some (some w) → ∃ v, σ[i]? = some (some v) ∧ Rl K Hb w v
section
variable {K : PySem.W.Frag} {Hb Hb' : Hp} {G : Env} {σ : L2.St}
theorem Gm.mono (g : Gm K Hb G σ) (e : Gx Hb Hb') : Gm K Hb' G σ := ⟨g.1, fun i w h => let ⟨v, h1, h2⟩ := g.2 i w h; ⟨v, h1, h2.mono e⟩⟩
theorem Gm.set (g : Gm K Hb G σ) (i : Nat) {w : Wv} {v : V} (r : Rl K Hb w v) : Gm K Hb (G.set i (some w)) (σ.set i (some v)) := by
  refine ⟨by rw [List.length_set, List.length_set]; exact g.1, fun j w' h => ?_⟩
  by_cases q : j = i
  · subst q
    have hl : j < G.length := by
      have := (List.getElem?_eq_some_iff.mp h).1
      rw [List.length_set] at this
      exact this
    rw [List.getElem?_set_self hl] at h
    cases h
    exact ⟨v, by rw [List.getElem?_set_self (g.1 ▸ hl)], r⟩
  · rw [List.getElem?_set_ne (Ne.symm q)] at h
    obtain ⟨v', h1, h2⟩ := g.2 j w' h
    exact ⟨v', by rw [List.getElem?_set_ne (Ne.symm q)]; exact h1, h2⟩
end
def wipeW (G : Env) : List Nat → Env
  | [] => G
  | i :: r => (wipeW G r).set i none
end Fc
namespace Fc
open PySem PySem.Spec PyProof.Rows L2

abbrev WE := Env → Pst → (Wv → Pst → Prop) → Prop
abbrev WT := Env → Pst → (Bool → Pst → Prop) → Prop
abbrev WA := Env → Pst → (List Wv → Pst → Prop) → Prop
abbrev WO := Env → Pst → (Option Int → Pst → Prop) → Prop
structure WD where
  nx : Env → Pst → Prop
  rt : Wv → Pst → Prop
  bk : Env → Pst → Prop := fun _ _ => False
  ct : Env → Pst → Prop := fun _ _ => False
abbrev WS := WD → Env → Pst → Prop
abbrev WG := Wv → Env → Pst → (Env → Pst → Prop) → Prop
abbrev WGs := List Wv → Env → Pst → (Env → Pst → Prop) → Prop

/-- what follows, on the heap's side -/
def Ko (K : PySem.W.Frag) (Hb : Hp) (P : Pst) (H : Hp) (Po : Wv → Pst → Prop) (Q : VK) : Prop := ∀ w P' v Hb' H', Po w P' → Gw Hb P H Hb' P' H' → Sit K Hb' H' P' → Rl K Hb' w v → Q v H'
def KoT (K : PySem.W.Frag) (Hb : Hp) (P : Pst) (H : Hp) (Po : Bool → Pst → Prop) (Q : Bool → Hp → Prop) : Prop := ∀ b P' Hb' H', Po b P' → Gw Hb P H Hb' P' H' → Sit K Hb' H' P' → Q b H'
def KoA (K : PySem.W.Frag) (Hb : Hp) (P : Pst) (H : Hp) (Po : List Wv → Pst → Prop) (Q : List V → Hp → Prop) : Prop := ∀ ws P' vs Hb' H', Po ws P' → Gw Hb P H Hb' P' H' → Sit K Hb' H' P' → RlA K Hb' ws vs → Q vs H'
def KoO (K : PySem.W.Frag) (Hb : Hp) (P : Pst) (H : Hp) (Po : Option Int → Pst → Prop) (Q : Option Int → Hp → Prop) : Prop := ∀ o P' Hb' H', Po o P' → Gw Hb P H Hb' P' H' → Sit K Hb' H' P' → Q o H'
def KoG (K : PySem.W.Frag) (Hb : Hp) (P : Pst) (H : Hp) (Po : Env → Pst → Prop) (Q : L2.St → Hp → Prop) : Prop := ∀ G' P' σ' Hb' H', Po G' P' → Gw Hb P H Hb' P' H' → Sit K Hb' H' P' → Gm K Hb' G' σ' → Q σ' H'
structure KoS (K : PySem.W.Frag) (Hb : Hp) (P : Pst) (H : Hp) (D : WD) (E : Ends) : Prop where
  nx : KoG K Hb P H D.nx E.nx
  rt : Ko K Hb P H D.rt E.rt
  bk : KoG K Hb P H D.bk E.bk
  ct : KoG K Hb P H D.ct E.ct

structure De (K : PySem.W.Frag) (t : TE) (d : WE) : Prop where
  run : ∀ {G P Po}, d G P Po → ∀ {σ Hb H}, Gm K Hb G σ → Sit K Hb H P → ∀ {Q : VK}, Ko K Hb P H Po Q → t σ H Q
structure DT (K : PySem.W.Frag) (t : TT) (d : WT) : Prop where
  run : ∀ {G P Po}, d G P Po → ∀ {σ Hb H}, Gm K Hb G σ → Sit K Hb H P → ∀ {Q : Bool → Hp → Prop}, KoT K Hb P H Po Q → t σ H Q
structure DA (K : PySem.W.Frag) (t : TA) (d : WA) : Prop where
  run : ∀ {G P Po}, d G P Po → ∀ {σ Hb H}, Gm K Hb G σ → Sit K Hb H P → ∀ {Q : List V → Hp → Prop}, KoA K Hb P H Po Q → t σ H Q
structure DO (K : PySem.W.Frag) (t : TO) (d : WO) : Prop where
  run : ∀ {G P Po}, d G P Po → ∀ {σ Hb H}, Gm K Hb G σ → Sit K Hb H P → ∀ {Q : Option Int → Hp → Prop}, KoO K Hb P H Po Q → t σ H Q
structure DS (K : PySem.W.Frag) (t : TS) (d : WS) : Prop where
  run : ∀ {G P D}, d D G P → ∀ {σ Hb H}, Gm K Hb G σ → Sit K Hb H P → ∀ {E : Ends}, KoS K Hb P H D E → t E σ H
structure DG (K : PySem.W.Frag) (t : TG) (d : WG) : Prop where
  run : ∀ {w G P Po}, d w G P Po → ∀ {v σ Hb H}, Rl K Hb w v → Gm K Hb G σ → Sit K Hb H P → ∀ {Q : L2.St → Hp → Prop}, KoG K Hb P H Po Q → t v σ H Q
structure DGs (K : PySem.W.Frag) (t : TGs) (d : WGs) : Prop where
  run : ∀ {ws G P Po}, d ws G P Po → ∀ {vs σ Hb H}, RlA K Hb ws vs → Gm K Hb G σ → Sit K Hb H P → ∀ {Q : L2.St → Hp → Prop}, KoG K Hb P H Po Q → t vs σ H Q

section
variable {K : PySem.W.Frag} {Hb H Hb1 H1 : Hp} {P P1 : Pst}
theorem Ko.go {Po : Wv → Pst → Prop} {Q : VK} (k : Ko K Hb P H Po Q) (g : Gw Hb P H Hb1 P1 H1) : Ko K Hb1 P1 H1 Po Q := fun w P' v Hb' H' p g' s r => k w P' v Hb' H' p (g.trans g') s r
theorem KoT.go {Po : Bool → Pst → Prop} {Q : Bool → Hp → Prop} (k : KoT K Hb P H Po Q) (g : Gw Hb P H Hb1 P1 H1) : KoT K Hb1 P1 H1 Po Q := fun w P' Hb' H' p g' s => k w P' Hb' H' p (g.trans g') s
theorem KoA.go {Po : List Wv → Pst → Prop} {Q : List V → Hp → Prop} (k : KoA K Hb P H Po Q) (g : Gw Hb P H Hb1 P1 H1) : KoA K Hb1 P1 H1 Po Q := fun w P' v Hb' H' p g' s r => k w P' v Hb' H' p (g.trans g') s r
theorem KoO.go {Po : Option Int → Pst → Prop} {Q : Option Int → Hp → Prop} (k : KoO K Hb P H Po Q) (g : Gw Hb P H Hb1 P1 H1) : KoO K Hb1 P1 H1 Po Q := fun w P' Hb' H' p g' s => k w P' Hb' H' p (g.trans g') s
theorem KoG.go {Po : Env → Pst → Prop} {Q : L2.St → Hp → Prop} (k : KoG K Hb P H Po Q) (g : Gw Hb P H Hb1 P1 H1) : KoG K Hb1 P1 H1 Po Q := fun w P' v Hb' H' p g' s r => k w P' v Hb' H' p (g.trans g') s r
theorem KoS.go {D : WD} {E : Ends} (k : KoS K Hb P H D E) (g : Gw Hb P H Hb1 P1 H1) : KoS K Hb1 P1 H1 D E := ⟨k.nx.go g, k.rt.go g, k.bk.go g, k.ct.go g⟩
theorem Ko.here {Po : Wv → Pst → Prop} {Q : VK} (k : Ko K Hb P H Po Q) (s : Sit K Hb H P) {w : Wv} {v : V} (p : Po w P) (r : Rl K Hb w v) : Q v H := k w P v Hb H p Gw.refl s r
theorem KoT.here {Po : Bool → Pst → Prop} {Q : Bool → Hp → Prop} (k : KoT K Hb P H Po Q) (s : Sit K Hb H P) {b : Bool} (p : Po b P) : Q b H := k b P Hb H p Gw.refl s
theorem KoA.here {Po : List Wv → Pst → Prop} {Q : List V → Hp → Prop} (k : KoA K Hb P H Po Q) (s : Sit K Hb H P) {ws : List Wv} {vs : List V} (p : Po ws P) (r : RlA K Hb ws vs) : Q vs H := k ws P vs Hb H p Gw.refl s r
theorem KoG.here {Po : Env → Pst → Prop} {Q : L2.St → Hp → Prop} (k : KoG K Hb P H Po Q) (s : Sit K Hb H P) {G : Env} {σ : L2.St} (p : Po G P) (r : Gm K Hb G σ) : Q σ H := k G P σ Hb H p Gw.refl s r
/-- a new tuple, a new list -/
theorem Ko.tup {Po : Wv → Pst → Prop} {Q : VK} (k : Ko K Hb P H Po Q) (s : Sit K Hb H P) {ws : List Wv} {vs : List V} (r : RlA K Hb ws vs) (p : Po (.tup ws) P) {a : Addr} (ha : H a = none) : Q (.ref a) (upd H a (.tup vs)) := by
  obtain ⟨s1, g1⟩ := s.new (o := .tup vs) ha
  exact k _ _ _ _ _ p g1 s1 (.tup upd_same (r.mono g1.ex))
theorem Ko.lst {Po : Wv → Pst → Prop} {Q : VK} (k : Ko K Hb P H Po Q) (s : Sit K Hb H P) {ws : List Wv} {vs : List V} (r : RlA K Hb ws vs) (p : Po (.lst ws) P) {a : Addr} (ha : H a = none) : Q (.ref a) (upd H a (.lst vs)) := by
  obtain ⟨s1, g1⟩ := s.new (o := .lst vs) ha
  exact k _ _ _ _ _ p g1 s1 (.lst upd_same (r.mono g1.ex))
/-- a new private object -/
theorem Ko.priv {Po : Wv → Pst → Prop} {Q : VK} (k : Ko K Hb P H Po Q) (s : Sit K Hb H P) {so : SO} {o : HO} (r : SoR K Hb so o) (p : ∀ a, P a = none → Po (.r a) (updP P a so)) {a : Addr} (ha : H a = none) : Q (.ref a) (upd H a o) := by
  obtain ⟨s1, g1⟩ := s.newP ha r
  exact k _ _ _ _ _ (p a (s.free ha).2) g1 s1 (.r a)
end

/-- an option's value -/
def OptP {α : Type} (o : Option α) (k : α → Prop) : Prop := ∃ x, o = some x ∧ k x
@[simp] theorem optP_some {α : Type} {x : α} {k : α → Prop} : OptP (some x) k = k x := propext ⟨fun ⟨y, e, q⟩ => (by cases e; exact q), fun q => ⟨x, rfl, q⟩⟩
@[simp] theorem optP_none {α : Type} {k : α → Prop} : OptP (none : Option α) k = False := propext ⟨fun ⟨y, e, _⟩ => (by cases e), fun q => q.elim⟩

section
variable {K : PySem.W.Frag}
/-! ### names, constants -/
def dVar (i : Nat) : WE := fun G P Po => OptP ((G[i]?).bind id) fun w => Po w P
theorem slot_of {G : Env} {i : Nat} {w : Wv} (h : (G[i]?).bind id = some w) : G[i]? = some (some w) := by
  cases q : G[i]? with
  | none => rw [q] at h; cases h
  | some o => rw [q] at h; cases o with
    | none => cases h
    | some u => cases h; rfl
theorem de_var (i : Nat) : De K (tVar i) (dVar i) := ⟨fun ⟨w, h, p⟩ σ Hb H g s Q k => by
  obtain ⟨v, e, r⟩ := g.2 i w (slot_of h)
  exact ⟨v, e, k.here s p r⟩⟩
/-- the name's list becomes data -/
def asLst : Option SO → Option (List Wv)
  | some (.lst ws) => some ws
  | _ => none
theorem asLst_ok {o : Option SO} {ws : List Wv} (h : asLst o = some ws) : o = some (.lst ws) := by
  cases o with
  | none => cases h
  | some so => cases so with
    | lst us => cases h; rfl
    | dic _ => cases h
    | fdic _ _ => cases h
    | ins _ _ _ => cases h
def pubW (P : Pst) (w : Wv) (Po : Wv → Pst → Prop) : Prop := ∃ a, w = .r a ∧ OptP (asLst (P a)) fun ws => Po (.lst ws) (delP P a)
def dPub (d : WE) : WE := fun G P Po => d G P fun w P1 => pubW P1 w Po
theorem de_pub {t : TE} {d : WE} (h : De K t d) : De K t (dPub d) := ⟨fun hd σ Hb H g s Q k => h.run hd g s fun w P' v Hb' H' p gw s' r => by
  obtain ⟨a, rfl, ws, e, q⟩ := p
  cases r
  have e1 := asLst_ok e
  obtain ⟨hb, o, ho, so⟩ := s'.pv a _ e1
  cases so with
  | lst ra =>
    obtain ⟨s2, g2⟩ := s'.pub e1 ho
    exact k _ _ _ _ _ q (gw.trans g2) s2 (.lst upd_same (ra.mono g2.ex))⟩
def dC (w : Wv) : WE := fun _ P Po => Po w P
theorem de_int (i : Int) : De K (tC (.int i)) (dC (.int i)) := ⟨fun p _ _ _ _ s _ k => k.here s p (.int i)⟩
theorem de_bl (b : Bool) : De K (tC (.bl b)) (dC (.bl b)) := ⟨fun p _ _ _ _ s _ k => k.here s p (.bl b)⟩
theorem de_non : De K (tC .non) (dC .non) := ⟨fun p _ _ _ _ s _ k => k.here s p .non⟩
theorem de_str {x : Str} {l : List Nat} (e : x = S l) : De K (tC (.str x)) (dC (.str l)) := ⟨fun p _ _ _ _ s _ k => by subst e; exact k.here s p (.str l)⟩
/-- a built-in class as a value -/
theorem de_ty (t : Tg) : De K (tC (.ty (nmT t))) (dC (.ty t)) := ⟨fun p _ _ _ _ s _ k => k.here s p (.ty t)⟩

/-! ### operators by values -/
def RdOp (K : PySem.W.Frag) (r : R2) (f : Pst → Wv → Wv → Option Wv) : Prop := ∀ {Hb H P x y vx vy w}, Sit K Hb H P → Rl K Hb x vx → Rl K Hb y vy → f P x y = some w → ∀ {Po : Wv → Pst → Prop} {Q : VK}, Ko K Hb P H Po Q → Po w P → r vx vy H Q
def dOp (f : Pst → Wv → Wv → Option Wv) (da db : WE) : WE := fun G P Po => da G P fun x P1 => db G P1 fun y P2 => OptP (f P2 x y) fun w => Po w P2
theorem de_op {r : R2} {f : Pst → Wv → Wv → Option Wv} {ta tb : TE} {da db : WE} (hr : RdOp K r f) (ha : De K ta da) (hb : De K tb db) : De K (tOp r ta tb) (dOp f da db) :=
  ⟨fun hd σ Hb H g s Q k => ha.run hd g s fun x P1 vx Hb1 H1 p1 g1 s1 r1 => hb.run p1 (g.mono g1.ex) s1 fun y P2 vy Hb2 H2 p2 g2 s2 r2 => by
    obtain ⟨w, e, q⟩ := p2
    exact hr s2 (r1.mono g2.ex) r2 e (k.go (g1.trans g2)) q⟩
def RdUn (K : PySem.W.Frag) (r : V → Hp → VK → Prop) (f : Pst → Wv → Option Wv) : Prop := ∀ {Hb H P x vx w}, Sit K Hb H P → Rl K Hb x vx → f P x = some w → ∀ {Po : Wv → Pst → Prop} {Q : VK}, Ko K Hb P H Po Q → Po w P → r vx H Q
def dUn (f : Pst → Wv → Option Wv) (da : WE) : WE := fun G P Po => da G P fun x P1 => OptP (f P1 x) fun w => Po w P1
theorem de_un {r : V → Hp → VK → Prop} {f : Pst → Wv → Option Wv} {ta : TE} {da : WE} (hr : RdUn K r f) (ha : De K ta da) : De K (tUn r ta) (dUn f da) :=
  ⟨fun hd σ Hb H g s Q k => ha.run hd g s fun x P1 vx Hb1 H1 p1 g1 s1 r1 => by
    obtain ⟨w, e, q⟩ := p1
    exact hr s1 r1 e (k.go g1) q⟩
/-- two ints -/
def fI (f : Int → Int → Option Wv) : Pst → Wv → Wv → Option Wv := fun _ x y => match x, y with
  | .int i, .int j => f i j
  | _, _ => none
theorem fI_ok {f : Int → Int → Option Wv} {P : Pst} {x y w : Wv} (h : fI f P x y = some w) : ∃ i j, x = .int i ∧ y = .int j ∧ f i j = some w := by
  unfold fI at h
  split at h
  · exact ⟨_, _, rfl, rfl, h⟩
  · cases h
theorem rd_I0 {g : Int → Int → V} {f : Int → Int → Wv} (e : ∀ i j H, Rl K H (f i j) (g i j)) : RdOp K (rI0 g) (fI fun i j => some (f i j)) := fun s rx ry h Po Q k p => by
  obtain ⟨i, j, rfl, rfl, h2⟩ := fI_ok h
  cases rx
  cases ry
  cases h2
  exact ⟨i, j, rfl, rfl, k.here s p (e i j _)⟩
theorem rd_I {C : Int → Int → Prop} [∀ i j, Decidable (C i j)] {g : Int → Int → V} {f : Int → Int → Wv} (e : ∀ i j H, Rl K H (f i j) (g i j)) : RdOp K (rI C g) (fI fun i j => if C i j then some (f i j) else none) := fun s rx ry h Po Q k p => by
  obtain ⟨i, j, rfl, rfl, h2⟩ := fI_ok h
  cases rx
  cases ry
  split at h2
  · rename_i c
    cases h2
    exact ⟨i, j, rfl, rfl, c, k.here s p (e i j _)⟩
  · cases h2
def fAdd : Pst → Wv → Wv → Option Wv := fI fun i j => some (.int (i + j))
theorem rd_add : RdOp K (rI0 fun i j => V.int (i + j)) fAdd := rd_I0 fun i j _ => .int _
def fSub : Pst → Wv → Wv → Option Wv := fI fun i j => some (.int (i - j))
theorem rd_sub : RdOp K (rI0 fun i j => V.int (i - j)) fSub := rd_I0 fun i j _ => .int _
def fLt : Pst → Wv → Wv → Option Wv := fI fun i j => some (.bl (decide (i < j)))
theorem rd_lt : RdOp K (rI0 fun i j => V.bl (decide (i < j))) fLt := rd_I0 fun i j _ => .bl _
def fLe : Pst → Wv → Wv → Option Wv := fI fun i j => some (.bl (decide (i ≤ j)))
theorem rd_le : RdOp K (rI0 fun i j => V.bl (decide (i ≤ j))) fLe := rd_I0 fun i j _ => .bl _
def fGt : Pst → Wv → Wv → Option Wv := fI fun i j => some (.bl (decide (j < i)))
theorem rd_gt : RdOp K (rI0 fun i j => V.bl (decide (j < i))) fGt := rd_I0 fun i j _ => .bl _
def fGe : Pst → Wv → Wv → Option Wv := fI fun i j => some (.bl (decide (j ≤ i)))
theorem rd_ge : RdOp K (rI0 fun i j => V.bl (decide (j ≤ i))) fGe := rd_I0 fun i j _ => .bl _
def fMod : Pst → Wv → Wv → Option Wv := fI fun i j => if 0 < j then some (.int (i % j)) else none
theorem rd_mod : RdOp K (rI (fun _ j => 0 < j) fun i j => V.int (i % j)) fMod := rd_I (C := fun _ j => 0 < j) fun i j _ => .int _
instance (i j : Int) : Decidable (CDiv i j) := by unfold CDiv; infer_instance
instance (i j : Int) : Decidable (CMul i j) := by unfold CMul; infer_instance
instance (i j : Int) : Decidable (CPow i j) := by unfold CPow; infer_instance
def fDiv : Pst → Wv → Wv → Option Wv := fI fun i j => if CDiv i j then some (.int (i / j)) else none
theorem rd_fdiv : RdOp K (rI CDiv fun i j => V.int (i / j)) fDiv := rd_I fun i j _ => .int _
def fMul : Pst → Wv → Wv → Option Wv := fI fun i j => if CMul i j then some (.int (i * j)) else none
theorem rd_mul : RdOp K (rI CMul fun i j => V.int (i * j)) fMul := rd_I fun i j _ => .int _
def fPow : Pst → Wv → Wv → Option Wv := fI fun i j => if CPow i j then some (.int (i ^ j.toNat)) else none
theorem rd_pow : RdOp K (rI CPow fun i j => V.int (i ^ j.toNat)) fPow := rd_I fun i j _ => .int _
def negW (_ : Pst) : Wv → Option Wv
  | .int i => some (.int (-i))
  | _ => none
theorem rd_neg : RdUn K (rU fun i => V.int (-i)) negW := fun {Hb H P x vx w} s rx h Po Q k p => by
  cases rx with
  | int i =>
    cases h
    exact ⟨_, rfl, k.here s p (.int _)⟩
  | _ => cases h
/-- texts -/
def fS (f : List Nat → List Nat → Option Wv) : Pst → Wv → Wv → Option Wv := fun _ x y => match x, y with
  | .str i, .str j => f i j
  | _, _ => none
theorem fS_ok {f : List Nat → List Nat → Option Wv} {P : Pst} {x y w : Wv} (h : fS f P x y = some w) : ∃ i j, x = .str i ∧ y = .str j ∧ f i j = some w := by
  unfold fS at h
  split at h
  · exact ⟨_, _, rfl, rfl, h⟩
  · cases h
def rAddStr : R2 := fun x y H Q => ∃ i j, x = .str i ∧ y = .str j ∧ i.length + j.length ≤ sizeLine ∧ Q (.str (i ++ j)) H
theorem op_addStr {X : Cx} : OpR X (binaryOp .Add) rAddStr := op_add_str
def fAddS : Pst → Wv → Wv → Option Wv := fS fun i j => if i.length + j.length ≤ sizeLine then some (.str (i ++ j)) else none
theorem rd_addStr : RdOp K rAddStr fAddS := fun s rx ry h Po Q k p => by
  obtain ⟨i, j, rfl, rfl, h2⟩ := fS_ok h
  cases rx
  cases ry
  split at h2
  · rename_i c
    cases h2
    refine ⟨S i, S j, rfl, rfl, c, ?_⟩
    rw [S_append]
    exact k.here s p (.str _)
  · cases h2
/-- scalars: == -/
def eqW : Wv → Wv → Option Bool
  | .non, .non => some true
  | .non, .int _ => some false
  | .int _, .non => some false
  | .non, .bl _ => some false
  | .bl _, .non => some false
  | .non, .str _ => some false
  | .str _, .non => some false
  | .int i, .int j => some (decide (i = j))
  | .str i, .str j => some (decide (i = j))
  | .bl i, .bl j => some (decide (i = j))
  | _, _ => none
end
end Fc
namespace Fc
open PySem PySem.Spec PyProof.Rows L2
section
variable {K : PySem.W.Frag} {Hb H : Hp} {P : Pst}
/-! ### == of scalars, is, in -/
theorem eqW_ok {x y : Wv} {vx vy : V} {b : Bool} (rx : Rl K Hb x vx) (ry : Rl K Hb y vy) (h : eqW x y = some b) : scal vx vy = true ∧ decide (vx = vy) = b := by
  cases rx with
  | non => cases ry with
    | non => cases h; exact ⟨rfl, decide_eq_true rfl⟩
    | int _ => cases h; exact ⟨rfl, decide_eq_false fun e => by cases e⟩
    | bl _ => cases h; exact ⟨rfl, decide_eq_false fun e => by cases e⟩
    | str _ => cases h; exact ⟨rfl, decide_eq_false fun e => by cases e⟩
    | _ => cases h
  | int i => cases ry with
    | non => cases h; exact ⟨rfl, decide_eq_false fun e => by cases e⟩
    | int j => cases h; exact ⟨rfl, decide_eq_decide.mpr ⟨fun e => V.int.inj e, fun e => congrArg V.int e⟩⟩
    | _ => cases h
  | bl i => cases ry with
    | non => cases h; exact ⟨rfl, decide_eq_false fun e => by cases e⟩
    | bl j => cases h; exact ⟨rfl, decide_eq_decide.mpr ⟨fun e => V.bl.inj e, fun e => congrArg V.bl e⟩⟩
    | _ => cases h
  | str i => cases ry with
    | non => cases h; exact ⟨rfl, decide_eq_false fun e => by cases e⟩
    | str j => cases h; exact ⟨rfl, decide_eq_decide.mpr ⟨fun e => S_inj (V.str.inj e), fun e => congrArg (fun z => V.str (S z)) e⟩⟩
    | _ => cases h
  | _ => cases h
def fEq : Pst → Wv → Wv → Option Wv := fun _ x y => (eqW x y).map .bl
def fNe : Pst → Wv → Wv → Option Wv := fun _ x y => (eqW x y).map fun b => .bl (!b)
theorem rd_eq : RdOp K rEq fEq := fun {Hb H P x y vx vy w} s rx ry h Po Q k p => by
  unfold fEq at h
  cases e : eqW x y with
  | none => rw [e] at h; cases h
  | some b =>
    rw [e] at h
    cases h
    obtain ⟨h1, h2⟩ := eqW_ok rx ry e
    exact ⟨h1, by rw [h2]; exact k.here s p (.bl _)⟩
theorem rd_ne : RdOp K rNe fNe := fun {Hb H P x y vx vy w} s rx ry h Po Q k p => by
  unfold fNe at h
  cases e : eqW x y with
  | none => rw [e] at h; cases h
  | some b =>
    rw [e] at h
    cases h
    obtain ⟨h1, h2⟩ := eqW_ok rx ry e
    exact ⟨h1, by rw [h2]; exact k.here s p (.bl _)⟩
def isNon : Wv → Bool
  | .non => true
  | _ => false
theorem isNon_ok {x : Wv} {vx : V} (rx : Rl K Hb x vx) : decide (vx = .non) = isNon x := by
  cases rx with
  | non => rfl
  | _ => exact decide_eq_false (fun e => by cases e)
def fIsN (n : Bool) : Pst → Wv → Wv → Option Wv := fun _ x y => match y with
  | .non => some (.bl (if n then !isNon x else isNon x))
  | _ => none
theorem rd_isN : RdOp K rIsN (fIsN false) := fun {Hb H P x y vx vy w} s rx ry h Po Q k p => by
  cases ry with
  | non =>
    cases h
    exact ⟨rfl, by rw [isNon_ok rx]; exact k.here s p (.bl _)⟩
  | _ => cases h
theorem rd_notN : RdOp K rNotN (fIsN true) := fun {Hb H P x y vx vy w} s rx ry h Po Q k p => by
  cases ry with
  | non =>
    cases h
    exact ⟨rfl, by rw [isNon_ok rx]; exact k.here s p (.bl _)⟩
  | _ => cases h
def fIsB : Pst → Wv → Wv → Option Wv := fun _ x y => match x, y with
  | .bl a, .bl b => some (.bl (decide (a = b)))
  | _, _ => none
theorem rd_isB : RdOp K rIsB fIsB := fun {Hb H P x y vx vy w} s rx ry h Po Q k p => by
  unfold fIsB at h
  split at h
  · cases rx
    cases ry
    cases h
    exact ⟨_, _, rfl, rfl, k.here s p (.bl _)⟩
  · cases h
/-- one sign in a text -/
def fInS (n : Bool) : Pst → Wv → Wv → Option Wv := fun _ x y => match x, y with
  | .str [c], .str z => some (.bl (if n then !decide (c ∈ z) else decide (c ∈ z)))
  | _, _ => none
theorem fInS_ok {n : Bool} {P : Pst} {x y w : Wv} (h : fInS n P x y = some w) : ∃ c z, x = .str [c] ∧ y = .str z ∧ w = .bl (if n then !decide (c ∈ z) else decide (c ∈ z)) := by
  unfold fInS at h
  split at h
  · cases h; exact ⟨_, _, rfl, rfl, rfl⟩
  · cases h
theorem rd_inS : RdOp K rInS (fInS false) := fun s rx ry h Po Q k p => by
  obtain ⟨c, z, rfl, rfl, rfl⟩ := fInS_ok h
  cases rx
  cases ry
  exact ⟨c, S z, rfl, rfl, k.here s p (.bl _)⟩
theorem rd_notInS : RdOp K rNotInS (fInS true) := fun s rx ry h Po Q k p => by
  obtain ⟨c, z, rfl, rfl, rfl⟩ := fInS_ok h
  cases rx
  cases ry
  exact ⟨c, S z, rfl, rfl, k.here s p (.bl _)⟩

/-! ### sequences -/
/-- the items of a list (data, private, the script) or a tuple -/
def seqP (P : Pst) : Wv → Option (List Wv)
  | .tup ws => some ws
  | .lst ws => some ws
  | .scr ns => some (ns.map .int)
  | .r a => asLst (P a)
  | _ => none
theorem seqP_ok (s : Sit K Hb H P) {w : Wv} {v : V} {ws : List Wv} (r : Rl K Hb w v) (h : seqP P w = some ws) : ∃ p vs, v = .ref p ∧ (SqL K H p vs ∨ SqT K H p vs) ∧ RlA K Hb ws vs := by
  cases r with
  | tup e ra => cases h; exact ⟨_, _, rfl, .inr (SqT.of (s.ex _ _ e)), ra⟩
  | lst e ra => cases h; exact ⟨_, _, rfl, .inl (SqL.of (s.ex _ _ e)), ra⟩
  | scr e => cases h; exact ⟨_, _, rfl, .inl (s.ex.seq e), RlA.ints _⟩
  | r a =>
    have e1 : asLst (P a) = some ws := h
    obtain ⟨_, o, ho, so⟩ := s.pv a _ (asLst_ok e1)
    cases so with
    | lst ra => exact ⟨_, _, rfl, .inl (SqL.of ho), ra⟩
  | _ => cases h
/-- a list that is tracked -/
def lstP (P : Pst) : Wv → Option (List Wv)
  | .lst ws => some ws
  | .r a => asLst (P a)
  | _ => none
theorem lstP_ok (s : Sit K Hb H P) {w : Wv} {v : V} {ws : List Wv} (r : Rl K Hb w v) (h : lstP P w = some ws) : ∃ p vs, v = .ref p ∧ H p = some (.lst vs) ∧ RlA K Hb ws vs := by
  cases r with
  | lst e ra => cases h; exact ⟨_, _, rfl, s.ex _ _ e, ra⟩
  | r a =>
    have e1 : asLst (P a) = some ws := h
    obtain ⟨_, o, ho, so⟩ := s.pv a _ (asLst_ok e1)
    cases so with
    | lst ra => exact ⟨_, _, rfl, ho, ra⟩
  | _ => cases h
def strsOf : List Wv → Option (List (List Nat))
  | [] => some []
  | .str l :: r => (strsOf r).map fun ls => l :: ls
  | _ :: _ => none
theorem strsOf_ok : ∀ {ws : List Wv} {ls : List (List Nat)}, strsOf ws = some ls → ws = ls.map Wv.str
  | [], _, h => by cases h; rfl
  | .str l :: r, ls, h => by
    unfold strsOf at h
    cases e : strsOf r with
    | none => rw [e] at h; cases h
    | some l2 =>
      rw [e] at h
      cases h
      rw [strsOf_ok e]
      rfl
  | .ty _ :: _, _, h => by cases h
  | .non :: _, _, h => by cases h
  | .bl _ :: _, _, h => by cases h
  | .int _ :: _, _, h => by cases h
  | .tup _ :: _, _, h => by cases h
  | .lst _ :: _, _, h => by cases h
  | .scr _ :: _, _, h => by cases h
  | .r _ :: _, _, h => by cases h
@[simp] theorem strsOf_map (ls : List (List Nat)) : strsOf (ls.map Wv.str) = some ls := by
  induction ls with
  | nil => rfl
  | cons l r ih =>
    show (strsOf (r.map Wv.str)).map _ = _
    rw [ih]
    rfl
def intsOf : List Wv → Option (List Int)
  | [] => some []
  | .int l :: r => (intsOf r).map fun ls => l :: ls
  | _ :: _ => none
theorem intsOf_ok : ∀ {ws : List Wv} {ls : List Int}, intsOf ws = some ls → ws = ls.map Wv.int
  | [], _, h => by cases h; rfl
  | .int l :: r, ls, h => by
    unfold intsOf at h
    cases e : intsOf r with
    | none => rw [e] at h; cases h
    | some l2 =>
      rw [e] at h
      cases h
      rw [intsOf_ok e]
      rfl
  | .ty _ :: _, _, h => by cases h
  | .non :: _, _, h => by cases h
  | .bl _ :: _, _, h => by cases h
  | .str _ :: _, _, h => by cases h
  | .tup _ :: _, _, h => by cases h
  | .lst _ :: _, _, h => by cases h
  | .scr _ :: _, _, h => by cases h
  | .r _ :: _, _, h => by cases h
@[simp] theorem intsOf_map (ls : List Int) : intsOf (ls.map Wv.int) = some ls := by
  induction ls with
  | nil => rfl
  | cons l r ih =>
    show (intsOf (r.map Wv.int)).map _ = _
    rw [ih]
    rfl
def blsOf : List Wv → Option (List Bool)
  | [] => some []
  | .bl l :: r => (blsOf r).map fun ls => l :: ls
  | _ :: _ => none
theorem blsOf_ok : ∀ {ws : List Wv} {ls : List Bool}, blsOf ws = some ls → ws = ls.map Wv.bl
  | [], _, h => by cases h; rfl
  | .bl l :: r, ls, h => by
    unfold blsOf at h
    cases e : blsOf r with
    | none => rw [e] at h; cases h
    | some l2 =>
      rw [e] at h
      cases h
      rw [blsOf_ok e]
      rfl
  | .ty _ :: _, _, h => by cases h
  | .non :: _, _, h => by cases h
  | .int _ :: _, _, h => by cases h
  | .str _ :: _, _, h => by cases h
  | .tup _ :: _, _, h => by cases h
  | .lst _ :: _, _, h => by cases h
  | .scr _ :: _, _, h => by cases h
  | .r _ :: _, _, h => by cases h
@[simp] theorem blsOf_map (ls : List Bool) : blsOf (ls.map Wv.bl) = some ls := by
  induction ls with
  | nil => rfl
  | cons l r ih =>
    show (blsOf (r.map Wv.bl)).map _ = _
    rw [ih]
    rfl
theorem bls_of : ∀ {ns : List Bool} {vs : List V}, RlA K H (ns.map Wv.bl) vs → vs = ns.map V.bl
  | [], _, .nil => rfl
  | n :: ns, _, .cons r t => by
    cases r
    rw [bls_of t]
    rfl
theorem inV_strs (l : List Nat) (ls : List (List Nat)) : inV (.str (S l)) ((ls.map S).map V.str) = decide (l ∈ ls) := by
  induction ls with
  | nil => rfl
  | cons x r ih =>
    show (eqV (.str (S x)) (.str (S l)) || inV (.str (S l)) ((r.map S).map V.str)) = _
    rw [ih]
    have e : eqV (.str (S x)) (.str (S l)) = decide (x = l) := by
      show (S x == S l) = _
      rw [Bool.eq_iff_iff]
      simp only [beq_iff_eq, decide_eq_true_eq]
      exact ⟨S_inj, fun e => by rw [e]⟩
    rw [e, Bool.eq_iff_iff]
    simp only [Bool.or_eq_true, decide_eq_true_eq, List.mem_cons]
    exact ⟨fun h => h.imp Eq.symm id, fun h => h.imp Eq.symm id⟩
theorem inV_ints (l : Int) (ls : List Int) : inV (.int l) (ls.map V.int) = decide (l ∈ ls) := by
  induction ls with
  | nil => rfl
  | cons x r ih =>
    show (eqV (.int x) (.int l) || inV (.int l) (r.map V.int)) = _
    rw [ih]
    have e : eqV (.int x) (.int l) = decide (x = l) := by
      show (x == l) = _
      rw [Bool.eq_iff_iff]
      simp
    rw [e, Bool.eq_iff_iff]
    simp only [Bool.or_eq_true, decide_eq_true_eq, List.mem_cons]
    exact ⟨fun h => h.imp Eq.symm id, fun h => h.imp Eq.symm id⟩
theorem flat_strs (ls : List Str) : (ls.map V.str).all flatV = true := by
  induction ls with
  | nil => rfl
  | cons x r ih => exact ih
theorem flat_ints (ls : List Int) : (ls.map V.int).all flatV = true := by
  induction ls with
  | nil => rfl
  | cons x r ih => exact ih
/-- x in a sequence of texts | of ints -/
def inW (P : Pst) (x y : Wv) : Option Bool := match x with
  | .str l => ((seqP P y).bind strsOf).map fun ls => decide (l ∈ ls)
  | .int i => ((seqP P y).bind intsOf).map fun ls => decide (i ∈ ls)
  | _ => none
def fIn (n : Bool) : Pst → Wv → Wv → Option Wv := fun P x y => (inW P x y).map fun b => .bl (if n then !b else b)
theorem rd_in {n : Bool} : RdOp K (rIn K n) (fIn n) := fun {Hb H P x y vx vy w} s rx ry h Po Q k p => by
  unfold fIn at h
  cases e : inW P x y with
  | none => rw [e] at h; cases h
  | some b =>
    rw [e] at h
    cases h
    cases rx with
    | str l =>
      unfold inW at e
      cases e1 : seqP P y with
      | none => simp only [e1] at e; cases e
      | some ws =>
        simp only [e1, Option.bind_some] at e
        cases e2 : strsOf ws with
        | none => simp only [e2] at e; cases e
        | some ls =>
          simp only [e2, Option.map_some, Option.some.injEq] at e
          subst e
          have e3 := strsOf_ok e2
          subst e3
          obtain ⟨a, vs, rfl, hq, ra⟩ := seqP_ok s ry e1
          have e4 := ra.strs_of
          subst e4
          exact ⟨a, _, rfl, hq, rfl, flat_strs _, by rw [inV_strs]; exact k.here s p (.bl _)⟩
    | int i =>
      unfold inW at e
      cases e1 : seqP P y with
      | none => simp only [e1] at e; cases e
      | some ws =>
        simp only [e1, Option.bind_some] at e
        cases e2 : intsOf ws with
        | none => simp only [e2] at e; cases e
        | some ls =>
          simp only [e2, Option.map_some, Option.some.injEq] at e
          subst e
          have e3 := intsOf_ok e2
          subst e3
          obtain ⟨a, vs, rfl, hq, ra⟩ := seqP_ok s ry e1
          have e4 := ra.ints_of
          subst e4
          exact ⟨a, _, rfl, hq, rfl, flat_ints _, by rw [inV_ints]; exact k.here s p (.bl _)⟩
    | _ => cases e
/-- x[i] -/
def ixW (P : Pst) (x y : Wv) : Option Wv := match x, y with
  | .str z, .int i => if z.length ≤ sizeLine then (atI z i).map fun c => .str [c] else none
  | x, .int i => (seqP P x).bind fun ws => atI ws i
  | _, _ => none
theorem atI_rel {ws : List Wv} {vs : List V} {i : Int} {w : Wv} (r : RlA K Hb ws vs) (h : atI ws i = some w) : ∃ v, atI vs i = some v ∧ Rl K Hb w v := by
  unfold atI at h ⊢
  rw [← r.len]
  cases e : ixN ws.length i with
  | none => rw [e] at h; cases h
  | some j =>
    rw [e] at h
    exact r.get h
theorem rd_ix : RdOp K (rIx K) ixW := fun {Hb H P x y vx vy w} s rx ry h Po Q k p => by
  cases ry with
  | int i =>
    by_cases hs : ∃ z, x = .str z
    · obtain ⟨z, rfl⟩ := hs
      cases rx
      unfold ixW at h
      simp only at h
      split at h
      · rename_i hz
        cases e : atI z i with
        | none => rw [e] at h; cases h
        | some c =>
          rw [e] at h
          cases h
          exact .inr (.inr ⟨S z, i, c, rfl, rfl, hz, e, k.here s p (.str [c])⟩)
      · cases h
    · have h1 : ((seqP P x).bind fun ws => atI ws i) = some w := by
        rw [← h]
        cases x <;> first | rfl | exact absurd ⟨_, rfl⟩ hs
      cases e1 : seqP P x with
      | none => rw [e1] at h1; cases h1
      | some ws =>
        rw [e1] at h1
        obtain ⟨a, vs, rfl, hq, ra⟩ := seqP_ok s rx e1
        obtain ⟨v, ev, rv⟩ := atI_rel ra h1
        rcases hq with hq | hq
        · exact .inl ⟨a, vs, i, v, rfl, rfl, hq, ev, k.here s p rv⟩
        · exact .inr (.inl ⟨a, vs, i, v, rfl, rfl, hq, ev, k.here s p rv⟩)
  | _ => cases x <;> cases h
/-- list + list -/
def fCat : Pst → Wv → Wv → Option Wv := fun P x y => (lstP P x).bind fun a => (lstP P y).bind fun b => if a.length + b.length ≤ sizeLine then some (.lst (a ++ b)) else none
theorem rd_cat : RdOp K rCat fCat := fun {Hb H P x y vx vy w} s rx ry h Po Q k p => by
  unfold fCat at h
  cases e1 : lstP P x with
  | none => rw [e1] at h; cases h
  | some a =>
    cases e2 : lstP P y with
    | none => rw [e1, e2] at h; cases h
    | some b =>
      rw [e1, e2] at h
      simp only [Option.bind_some] at h
      split at h
      · rename_i hz
        cases h
        obtain ⟨pa, va, rfl, ha, ra⟩ := lstP_ok s rx e1
        obtain ⟨pb, vb, rfl, hb, rb⟩ := lstP_ok s ry e2
        exact ⟨pa, pb, va, vb, rfl, rfl, ha, hb, by rw [← ra.len, ← rb.len]; exact hz, fun q hq => k.lst s (ra.append rb) p hq⟩
      · cases h
/-- list * int -/
def repW (n : Nat) (ws : List Wv) : List Wv := (List.replicate n ws).flatten
theorem RlA.rep {ws : List Wv} {vs : List V} (r : RlA K Hb ws vs) : ∀ n, RlA K Hb (repW n ws) (List.replicate n vs).flatten
  | 0 => .nil
  | n + 1 => by
    unfold repW
    rw [List.replicate_succ, List.replicate_succ, List.flatten_cons, List.flatten_cons]
    exact r.append (RlA.rep r n)
def fRep : Pst → Wv → Wv → Option Wv := fun P x y => match y with
  | .int i => (lstP P x).bind fun a => if -(2 ^ 63) ≤ i ∧ i < 2 ^ 63 ∧ a.length * i.toNat ≤ sizeLine then some (.lst (repW i.toNat a)) else none
  | _ => none
theorem rd_rep : RdOp K rRep fRep := fun {Hb H P x y vx vy w} s rx ry h Po Q k p => by
  unfold fRep at h
  split at h
  · cases ry
    cases e1 : lstP P x with
    | none => rw [e1] at h; cases h
    | some a =>
      rw [e1] at h
      simp only [Option.bind_some] at h
      split at h
      · rename_i hz
        cases h
        obtain ⟨pa, va, rfl, ha, ra⟩ := lstP_ok s rx e1
        exact ⟨pa, _, va, rfl, rfl, ha, hz.1, hz.2.1, by rw [← ra.len]; exact hz.2.2, fun q hq => k.lst s (ra.rep _) p hq⟩
      · cases h
  · cases h
/-- tuple + tuple -/
def fCatT : Pst → Wv → Wv → Option Wv := fun _ x y => match x, y with
  | .tup a, .tup b => if a.length + b.length ≤ sizeLine then some (.tup (a ++ b)) else none
  | _, _ => none
theorem rd_catT : RdOp K (rCatA K) fCatT := fun {Hb H P x y vx vy w} s rx ry h Po Q k p => by
  unfold fCatT at h
  split at h
  · rename_i a b
    split at h
    · rename_i hz
      cases h
      cases rx with
      | tup ea ra =>
        cases ry with
        | tup eb rb =>
          refine ⟨_, _, _, _, rfl, rfl, SqT.of (s.ex _ _ ea), SqT.of (s.ex _ _ eb), by rw [← ra.len, ← rb.len]; exact hz, fun e => ?_, fun _ e => ?_, fun _ _ q hq => k.tup s (ra.append rb) p hq⟩
          · subst e
            cases ra
            exact k.here s p (.tup eb rb)
          · subst e
            cases rb
            rw [List.append_nil] at p
            exact k.here s p (.tup ea ra)
    · cases h
  · cases h
/-! ### slices -/
def cutW {α : Type} (xs : List α) (lo hi : Option Int) : List α := (xs.drop (HT.sIx xs.length 0 lo)).take (HT.sIx xs.length xs.length hi - HT.sIx xs.length 0 lo)
theorem cutW_rel {ws : List Wv} {vs : List V} (r : RlA K Hb ws vs) (lo hi : Option Int) : RlA K Hb (cutW ws lo hi) (cutV vs lo hi) := by
  unfold cutW cutV
  rw [← r.len]
  exact (r.drop _).take _
theorem do_none : DO K tNoPart (fun _ P Po => Po none P) := ⟨fun p _ _ _ _ s _ k => k none _ _ _ p Gw.refl s⟩
def dPart (d : WE) : WO := fun G P Po => d G P fun w P1 => match w with
  | .int i => Po (some i) P1
  | _ => False
theorem do_some {t : TE} {d : WE} (h : De K t d) : DO K (tPart t) (dPart d) := ⟨fun hd σ Hb H g s Q k => h.run hd g s fun w P1 v Hb1 H1 p g1 s1 r => by
  cases r with
  | int i => exact ⟨i, rfl, k (some i) _ _ _ p g1 s1⟩
  | _ => exact p.elim⟩
def dNoPart : WO := fun _ P Po => Po none P
def RdSl (K : PySem.W.Frag) (r : V → Option Int → Option Int → Hp → VK → Prop) (f : Pst → Wv → Option Int → Option Int → Option Wv) : Prop := ∀ {Hb H P x vx lo hi w}, Sit K Hb H P → Rl K Hb x vx → f P x lo hi = some w → ∀ {Po : Wv → Pst → Prop} {Q : VK}, Ko K Hb P H Po Q → Po w P → r vx lo hi H Q
def dSl (f : Pst → Wv → Option Int → Option Int → Option Wv) (d : WE) (dl dh : WO) : WE := fun G P Po => d G P fun x P1 => dl G P1 fun lo P2 => dh G P2 fun hi P3 => OptP (f P3 x lo hi) fun w => Po w P3
theorem de_sl {r : V → Option Int → Option Int → Hp → VK → Prop} {f : Pst → Wv → Option Int → Option Int → Option Wv} {te : TE} {tl th : TO} {d : WE} {dl dh : WO} (hr : RdSl K r f) (h : De K te d) (hl : DO K tl dl) (hh : DO K th dh) : De K (tSl r te tl th) (dSl f d dl dh) :=
  ⟨fun hd σ Hb H g s Q k => h.run hd g s fun x P1 vx Hb1 H1 p1 g1 s1 r1 => hl.run p1 (g.mono g1.ex) s1 fun lo P2 Hb2 H2 p2 g2 s2 => hh.run p2 ((g.mono g1.ex).mono g2.ex) s2 fun hi P3 Hb3 H3 p3 g3 s3 => by
    obtain ⟨w, e, q⟩ := p3
    exact hr s3 ((r1.mono g2.ex).mono g3.ex) e (k.go ((g1.trans g2).trans g3)) q⟩
def fSlS : Pst → Wv → Option Int → Option Int → Option Wv := fun _ x lo hi => match x with
  | .str z => if z.length ≤ sizeLine then some (.str (cutW z lo hi)) else none
  | _ => none
theorem rd_slS : RdSl K rSlS fSlS := fun {Hb H P x vx lo hi w} s rx h Po Q k p => by
  unfold fSlS at h
  split at h
  · split at h
    · rename_i hz
      cases h
      cases rx
      exact ⟨S _, rfl, hz, k.here s p (.str _)⟩
    · cases h
  · cases h
def fSlL : Pst → Wv → Option Int → Option Int → Option Wv := fun P x lo hi => (lstP P x).map fun ws => .lst (cutW ws lo hi)
theorem rd_slL : RdSl K (rSlL K) fSlL := fun {Hb H P x vx lo hi w} s rx h Po Q k p => by
  unfold fSlL at h
  cases e1 : lstP P x with
  | none => rw [e1] at h; cases h
  | some a =>
    rw [e1] at h
    cases h
    obtain ⟨pa, va, rfl, ha, ra⟩ := lstP_ok s rx e1
    exact ⟨pa, va, rfl, SqL.of ha, fun q hq => k.lst s (cutW_rel ra lo hi) p hq⟩
def fSlT : Pst → Wv → Option Int → Option Int → Option Wv := fun _ x lo hi => match x with
  | .tup ws => some (.tup (cutW ws lo hi))
  | _ => none
theorem rd_slT : RdSl K (rSlA K) fSlT := fun {Hb H P x vx lo hi w} s rx h Po Q k p => by
  cases x with
  | tup ws =>
    cases h
    cases rx with
    | tup ea ra =>
      refine ⟨_, _, rfl, SqT.of (s.ex _ _ ea), fun e => ?_, fun _ q hq => k.tup s (cutW_rel ra lo hi) p hq⟩
      have e2 : cutW ws lo hi = ws := by
        unfold cutW
        rw [ra.len, e.1, e.2, List.drop_zero, Nat.sub_zero, ← ra.len]
        exact List.take_length
      rw [e2] at p
      exact k.here s p (.tup ea ra)
  | _ => cases h
end
end Fc
namespace Fc
open PySem PySem.Spec PyProof.Rows L2
section
variable {K : PySem.W.Frag}
/-! ### chains, tests -/
def blP (w : Wv) (k : Bool → Prop) : Prop := match w with
  | .bl b => k b
  | _ => False
@[simp] theorem blP_bl {b : Bool} {k : Bool → Prop} : blP (.bl b) k = k b := rfl
def dChain (f f' : Pst → Wv → Wv → Option Wv) (da db dc : WE) : WE := fun G P Po => da G P fun x P1 => db G P1 fun y P2 => OptP (f P2 x y) fun z => blP z fun b => if b = true then dc G P2 fun u P3 => OptP (f' P3 y u) fun w => Po w P3 else Po (.bl false) P2
theorem de_chain {r r' : R2} {f f' : Pst → Wv → Wv → Option Wv} {ta tb tc : TE} {da db dc : WE} (hr : RdOp K r f) (hr' : RdOp K r' f') (ha : De K ta da) (hb : De K tb db) (hc : De K tc dc) : De K (tChain r r' ta tb tc) (dChain f f' da db dc) :=
  ⟨fun {G P Po} hd σ Hb H g s Q k => ha.run hd g s fun x P1 vx Hb1 H1 p1 g1 s1 r1 => hb.run p1 (g.mono g1.ex) s1 fun y P2 vy Hb2 H2 p2 g2 s2 r2 => by
    obtain ⟨z, e, q⟩ := p2
    refine hr s2 (r1.mono g2.ex) r2 e (Po := fun z P2' => blP z fun b => if b = true then dc G P2' fun u P3 => OptP (f' P3 y u) fun w => Po w P3 else Po (.bl false) P2') (fun z P2' vz Hb3 H3 p3 g3 s3 r3 => ?_) q
    cases r3 with
    | bl b =>
      have p3 : if b = true then _ else _ := p3
      cases b with
      | true =>
        refine ⟨true, rfl, ?_⟩
        rw [if_pos rfl] at p3 ⊢
        refine hc.run p3 (((g.mono g1.ex).mono g2.ex).mono g3.ex) s3 fun u P4 vu Hb4 H4 p4 g4 s4 r4 => ?_
        obtain ⟨w, e4, q4⟩ := p4
        exact hr' s4 ((r2.mono g3.ex).mono g4.ex) r4 e4 (k.go (((g1.trans g2).trans g3).trans g4)) q4
      | false =>
        refine ⟨false, rfl, ?_⟩
        rw [if_neg Bool.false_ne_true] at p3 ⊢
        exact (k.go ((g1.trans g2).trans g3)).here s3 p3 (.bl false)
    | _ => exact p3.elim⟩
def dTest (d : WE) : WT := fun G P Po => d G P fun w P1 => blP w fun b => Po b P1
theorem dt_test {t : TE} {d : WE} (h : De K t d) : DT K (tTest t) (dTest d) := ⟨fun hd σ Hb H g s Q k => h.run hd g s fun w P1 v Hb1 H1 p g1 s1 r => by
  cases r with
  | bl b => exact ⟨b, rfl, (k.go g1).here s1 p⟩
  | _ => exact p.elim⟩
theorem dt_B {t : TE} {d : WE} (h : De K t d) : DT K (tB t) (dTest d) := ⟨fun hd σ Hb H g s Q k => h.run hd g s fun w P1 v Hb1 H1 p g1 s1 r => by
  cases r with
  | bl b => exact ⟨b, rfl, (k.go g1).here s1 p⟩
  | _ => exact p.elim⟩
def dAnd (a b : WT) : WT := fun G P Po => a G P fun c P1 => if c = true then b G P1 Po else Po false P1
def dOr (a b : WT) : WT := fun G P Po => a G P fun c P1 => if c = true then Po true P1 else b G P1 Po
def dNot (a : WT) : WT := fun G P Po => a G P fun c P1 => Po (!c) P1
theorem dt_and {t u : TT} {a b : WT} (h1 : DT K t a) (h2 : DT K u b) : DT K (tAnd t u) (dAnd a b) := ⟨fun hd σ Hb H g s Q k => h1.run hd g s fun c P1 Hb1 H1 p g1 s1 => by
  cases c with
  | true =>
    rw [if_pos rfl] at p ⊢
    exact h2.run p (g.mono g1.ex) s1 (k.go g1)
  | false =>
    rw [if_neg Bool.false_ne_true] at p ⊢
    exact (k.go g1).here s1 p⟩
theorem dt_or {t u : TT} {a b : WT} (h1 : DT K t a) (h2 : DT K u b) : DT K (tOr t u) (dOr a b) := ⟨fun hd σ Hb H g s Q k => h1.run hd g s fun c P1 Hb1 H1 p g1 s1 => by
  cases c with
  | false =>
    rw [if_neg Bool.false_ne_true] at p ⊢
    exact h2.run p (g.mono g1.ex) s1 (k.go g1)
  | true =>
    rw [if_pos rfl] at p ⊢
    exact (k.go g1).here s1 p⟩
theorem dt_not {t : TT} {a : WT} (h1 : DT K t a) : DT K (tNot t) (dNot a) := ⟨fun hd σ Hb H g s Q k => h1.run hd g s fun c P1 Hb1 H1 p g1 s1 => (k.go g1).here s1 p⟩
def dAndV (a b : WE) : WE := fun G P Po => a G P fun w P1 => blP w fun c => if c = true then b G P1 Po else Po (.bl false) P1
def dOrV (a b : WE) : WE := fun G P Po => a G P fun w P1 => blP w fun c => if c = true then Po (.bl true) P1 else b G P1 Po
def dNotV (a : WE) : WE := fun G P Po => a G P fun w P1 => blP w fun c => Po (.bl (!c)) P1
theorem de_andV {t u : TE} {a b : WE} (h1 : De K t a) (h2 : De K u b) : De K (tAndV t u) (dAndV a b) := ⟨fun hd σ Hb H g s Q k => h1.run hd g s fun w P1 v Hb1 H1 p g1 s1 r => by
  cases r with
  | bl c =>
    refine ⟨c, rfl, ?_⟩
    have p : if c = true then _ else _ := p
    cases c with
    | true =>
      rw [if_pos rfl] at p ⊢
      exact h2.run p (g.mono g1.ex) s1 (k.go g1)
    | false =>
      rw [if_neg Bool.false_ne_true] at p ⊢
      exact (k.go g1).here s1 p (.bl false)
  | _ => exact p.elim⟩
theorem de_orV {t u : TE} {a b : WE} (h1 : De K t a) (h2 : De K u b) : De K (tOrV t u) (dOrV a b) := ⟨fun hd σ Hb H g s Q k => h1.run hd g s fun w P1 v Hb1 H1 p g1 s1 r => by
  cases r with
  | bl c =>
    refine ⟨c, rfl, ?_⟩
    have p : if c = true then _ else _ := p
    cases c with
    | false =>
      rw [if_neg Bool.false_ne_true] at p ⊢
      exact h2.run p (g.mono g1.ex) s1 (k.go g1)
    | true =>
      rw [if_pos rfl] at p ⊢
      exact (k.go g1).here s1 p (.bl true)
  | _ => exact p.elim⟩
theorem de_notV {t : TE} {a : WE} (h1 : De K t a) : De K (tNotV t) (dNotV a) := ⟨fun hd σ Hb H g s Q k => h1.run hd g s fun w P1 v Hb1 H1 p g1 s1 r => by
  cases r with
  | bl c => exact ⟨c, rfl, (k.go g1).here s1 p (.bl _)⟩
  | _ => exact p.elim⟩
def dIf (c : WT) (a b : WE) : WE := fun G P Po => c G P fun k P1 => if k = true then a G P1 Po else b G P1 Po
theorem de_if {t : TT} {ta tb : TE} {c : WT} {a b : WE} (h : DT K t c) (h1 : De K ta a) (h2 : De K tb b) : De K (tIf t ta tb) (dIf c a b) := ⟨fun hd σ Hb H g s Q k => h.run hd g s fun c P1 Hb1 H1 p g1 s1 => by
  cases c with
  | true =>
    rw [if_pos rfl] at p ⊢
    exact h1.run p (g.mono g1.ex) s1 (k.go g1)
  | false =>
    rw [if_neg Bool.false_ne_true] at p ⊢
    exact h2.run p (g.mono g1.ex) s1 (k.go g1)⟩

/-! ### arguments, displays -/
def dNil : WA := fun _ P Po => Po [] P
def dCons (a : WE) (b : WA) : WA := fun G P Po => a G P fun w P1 => b G P1 fun ws P2 => Po (w :: ws) P2
theorem da_nil : DA K tNil dNil := ⟨fun p _ _ _ _ s _ k => k.here s p .nil⟩
theorem da_cons {t : TE} {u : TA} {a : WE} {b : WA} (h1 : De K t a) (h2 : DA K u b) : DA K (tCons t u) (dCons a b) := ⟨fun hd σ Hb H g s Q k => h1.run hd g s fun w P1 v Hb1 H1 p g1 s1 r => h2.run p (g.mono g1.ex) s1 fun ws P2 vs Hb2 H2 p2 g2 s2 r2 => k _ _ _ _ _ p2 (g1.trans g2) s2 (.cons (r.mono g2.ex) r2)⟩
theorem sz1000 {n : Nat} (h : n ≤ 1000) : n ≤ sizeLine := Nat.le_trans h (by decide)
def dTup (a : WA) : WE := fun G P Po => a G P fun ws P1 => ws.length ≤ 1000 ∧ Po (.tup ws) P1
def dLst (a : WA) : WE := fun G P Po => a G P fun ws P1 => ws.length ≤ 1000 ∧ Po (.lst ws) P1
def dLstN (a : WA) : WE := fun G P Po => a G P fun ws P1 => ws.length ≤ 1000 ∧ ∀ q, P1 q = none → Po (.r q) (updP P1 q (.lst ws))
theorem de_tup {t : TA} {a : WA} (h : DA K t a) : De K (tTup t) (dTup a) := ⟨fun hd σ Hb H g s Q k => h.run hd g s fun ws P1 vs Hb1 H1 p g1 s1 r => ⟨by rw [← r.len]; exact sz1000 p.1, fun q hq => (k.go g1).tup s1 r p.2 hq⟩⟩
theorem de_lst {t : TA} {a : WA} (h : DA K t a) : De K (tLst t) (dLst a) := ⟨fun hd σ Hb H g s Q k => h.run hd g s fun ws P1 vs Hb1 H1 p g1 s1 r => ⟨by rw [← r.len]; exact sz1000 p.1, fun q hq => (k.go g1).lst s1 r p.2 hq⟩⟩
theorem de_lstN {t : TA} {a : WA} (h : DA K t a) : De K (tLst t) (dLstN a) := ⟨fun hd σ Hb H g s Q k => h.run hd g s fun ws P1 vs Hb1 H1 p g1 s1 r => ⟨by rw [← r.len]; exact sz1000 p.1, fun q hq => (k.go g1).priv s1 (.lst r) p.2 hq⟩⟩

/-! ### calls of built-ins -/
def RdC (K : PySem.W.Frag) (r : List V → Hp → VK → Prop) (f : Pst → List Wv → Option Wv) : Prop := ∀ {Hb H P xs vs w}, Sit K Hb H P → RlA K Hb xs vs → f P xs = some w → ∀ {Po : Wv → Pst → Prop} {Q : VK}, Ko K Hb P H Po Q → Po w P → r vs H Q
def dCB (f : Pst → List Wv → Option Wv) (a : WA) : WE := fun G P Po => a G P fun ws P1 => OptP (f P1 ws) fun w => Po w P1
theorem de_cb {r : List V → Hp → VK → Prop} {f : Pst → List Wv → Option Wv} {t : TA} {a : WA} (hr : RdC K r f) (h : DA K t a) : De K (tCB r t) (dCB f a) := ⟨fun hd σ Hb H g s Q k => h.run hd g s fun ws P1 vs Hb1 H1 p g1 s1 r1 => by
  obtain ⟨w, e, q⟩ := p
  exact hr s1 r1 e (k.go g1) q⟩
/-- .. whose answer is a new private object -/
def RdCN (K : PySem.W.Frag) (r : List V → Hp → VK → Prop) (f : Pst → List Wv → Option SO) : Prop := ∀ {Hb H P xs vs so}, Sit K Hb H P → RlA K Hb xs vs → f P xs = some so → ∀ {Po : Wv → Pst → Prop} {Q : VK}, Ko K Hb P H Po Q → (∀ q, P q = none → Po (.r q) (updP P q so)) → r vs H Q
def dCBN (f : Pst → List Wv → Option SO) (a : WA) : WE := fun G P Po => a G P fun ws P1 => OptP (f P1 ws) fun so => ∀ q, P1 q = none → Po (.r q) (updP P1 q so)
theorem de_cbN {r : List V → Hp → VK → Prop} {f : Pst → List Wv → Option SO} {t : TA} {a : WA} (hr : RdCN K r f) (h : DA K t a) : De K (tCB r t) (dCBN f a) := ⟨fun hd σ Hb H g s Q k => h.run hd g s fun ws P1 vs Hb1 H1 p g1 s1 r1 => by
  obtain ⟨w, e, q⟩ := p
  exact hr s1 r1 e (k.go g1) q⟩
/-- one argument -/
def f1 {α : Type} (f : Pst → Wv → Option α) : Pst → List Wv → Option α := fun P xs => match xs with
  | [x] => f P x
  | _ => none
theorem f1_ok {α : Type} {f : Pst → Wv → Option α} {P : Pst} {xs : List Wv} {w : α} (h : f1 f P xs = some w) : ∃ x, xs = [x] ∧ f P x = some w := by
  unfold f1 at h
  split at h
  · exact ⟨_, rfl, h⟩
  · cases h
/-- a private dict -/
def asDic : Option SO → Option (List (List Nat × Wv))
  | some (.dic ks) => some ks
  | some (.fdic _ ks) => some ks
  | _ => none
def dicP (P : Pst) : Wv → Option (List (List Nat × Wv))
  | .r a => asDic (P a)
  | _ => none
theorem dicP_ok {Hb H : Hp} {P : Pst} (s : Sit K Hb H P) {w : Wv} {v : V} {ks : List (List Nat × Wv)} (r : Rl K Hb w v) (h : dicP P w = some ks) : ∃ p kv, v = .ref p ∧ Rd H p (.dK kv) ∧ RlD K Hb ks kv ∧ NdK ks := by
  cases r with
  | r a =>
    have e1 : asDic (P a) = some ks := h
    cases e2 : P a with
    | none => rw [e2] at e1; cases e1
    | some so =>
      obtain ⟨_, o, ho, sr⟩ := s.pv a so e2
      rw [e2] at e1
      cases sr with
      | dic rd n => cases e1; exact ⟨a, _, rfl, .inl ho, rd, n⟩
      | fdic rd n => cases e1; exact ⟨a, _, rfl, .inr ⟨_, ho⟩, rd, n⟩
      | _ => cases e1
  | _ => cases h
def dicM (P : Pst) : Wv → Option (Addr × List (List Nat × Wv))
  | .r a => match P a with
    | some (.dic ks) => some (a, ks)
    | _ => none
  | _ => none
theorem dicM_ok {Hb H : Hp} {P : Pst} (s : Sit K Hb H P) {w : Wv} {v : V} {a : Addr} {ks : List (List Nat × Wv)} (r : Rl K Hb w v) (h : dicM P w = some (a, ks)) : w = .r a ∧ P a = some (.dic ks) ∧ v = .ref a ∧ (∃ kv, H a = some (.dK kv) ∧ RlD K Hb ks kv) ∧ NdK ks := by
  cases r with
  | r b =>
    unfold dicM at h
    simp only at h
    cases e2 : P b with
    | none => rw [e2] at h; cases h
    | some so =>
      obtain ⟨_, o, ho, sr⟩ := s.pv b so e2
      rw [e2] at h
      cases sr with
      | dic rd n => cases h; exact ⟨rfl, e2, rfl, ⟨_, ho, rd⟩, n⟩
      | _ => cases h
  | _ => cases h
theorem RlD.len {Hb : Hp} {ks : List (List Nat × Wv)} {kv : List (Key × V)} (r : RlD K Hb ks kv) : ks.length = kv.length := Paired.length r
/-- len -/
def rLenQ (K : PySem.W.Frag) : List V → Hp → VK → Prop := fun xs H Q => ((∃ p ys, xs = [.ref p] ∧ (SqL K H p ys ∨ SqT K H p ys) ∧ Q (.int ys.length) H) ∨ (∃ z, xs = [.str z] ∧ z.length ≤ sizeLine ∧ Q (.int z.length) H))
theorem call_lenQ {X : Cx} : CallR X (.builtin "len") (rLenQ X.K) := CallR.or call_len_seq call_len_str
def lenW (P : Pst) (w : Wv) : Option Nat := match w with
  | .str z => if z.length ≤ sizeLine then some z.length else none
  | w => (seqP P w).map List.length
def fLen : Pst → List Wv → Option Wv := f1 fun P x => (lenW P x).map fun n => .int (n : Int)
theorem rd_len : RdC K (rLenQ K) fLen := fun {Hb H P xs vs w} s r h Po Q k p => by
  obtain ⟨x, e0, h2⟩ := f1_ok h
  subst e0
  clear h
  have h := h2
  clear h2
  cases r with
  | cons rx rn =>
    cases rn
    by_cases hs : ∃ z, x = .str z
    · obtain ⟨z, rfl⟩ := hs
      cases rx
      unfold lenW at h
      simp only at h
      split at h
      · rename_i hz
        cases h
        exact .inr ⟨S z, rfl, hz, k.here s p (.int _)⟩
      · cases h
    · have h1 : ((seqP P x).map List.length).map (fun n => Wv.int (n : Int)) = some w := by
        rw [← h]
        unfold lenW
        cases x <;> first | rfl | exact absurd ⟨_, rfl⟩ hs
      cases e1 : seqP P x with
      | none => rw [e1] at h1; cases h1
      | some ws =>
        rw [e1] at h1
        cases h1
        obtain ⟨a, vs, rfl, hq, ra⟩ := seqP_ok s rx e1
        exact .inl ⟨a, vs, rfl, hq, by rw [← ra.len]; exact k.here s p (.int _)⟩
/-- isinstance -/
def tyW (P : Pst) : Wv → Option Tg
  | .non => some .non
  | .bl _ => some .bl
  | .int _ => some .int
  | .str _ => some .str
  | .tup _ => some .tup
  | .lst _ => some .lst
  | .r a => match P a with
    | some (.lst _) => some .lst
    | some (.dic _) => some .dic
    | _ => none
  | _ => none
theorem tyW_ok {Hb H : Hp} {P : Pst} (s : Sit K Hb H P) {w : Wv} {v : V} {t : Tg} (r : Rl K Hb w v) (h : tyW P w = some t) : TyX K H v (.type (nmT t)) := by
  cases r with
  | non => cases h; exact .base .non
  | bl b => cases h; exact .base (.bl b)
  | int b => cases h; exact .base (.int b)
  | str b => cases h; exact .base (.str _)
  | tup e _ => cases h; exact .base (.tup (s.ex _ _ e))
  | lst e _ => cases h; exact .base (.lst (s.ex _ _ e))
  | r a =>
    unfold tyW at h
    simp only at h
    cases e2 : P a with
    | none => rw [e2] at h; cases h
    | some so =>
      obtain ⟨_, o, ho, sr⟩ := s.pv a so e2
      rw [e2] at h
      cases sr with
      | lst _ => cases h; exact .base (.lst ho)
      | dic _ _ => cases h; exact .base (.dK ho)
      | _ => cases h
  | _ => cases h
def isB (a b : Tg) : Bool := decide (a = b) || (decide (a = .bl) && decide (b = .int))
theorem kit_tab : ∀ a b : Tg, kitB (nmT a) (nmT b) = (if b = .non then kitB (nmT a) (nmT b) else some (isB a b)) := by
  intro a b
  cases a <;> cases b <;> decide +kernel
def fIsi : Pst → List Wv → Option Wv := fun P xs => match xs with
  | [x, .ty t] => if t = .non then none else (tyW P x).map fun a => .bl (isB a t)
  | _ => none
theorem rd_isi : RdC K (rIsi K) fIsi := fun {Hb H P xs vs w} s r h Po Q k p => by
  unfold fIsi at h
  split at h
  · rename_i x t
    split at h
    · cases h
    · rename_i ht
      cases e : tyW P x with
      | none => rw [e] at h; cases h
      | some a =>
        rw [e] at h
        cases h
        cases r with
        | cons rx r2 => cases r2 with
          | cons rt rn =>
            cases rn
            cases rt
            refine ⟨_, _, _, _, isB a t, rfl, .ty _, tyW_ok s rx e, kit_ty ?_, k.here s p (.bl _)⟩
            rw [kit_tab, if_neg ht]
  · cases h
def fIsi2 : Pst → List Wv → Option Wv := fun P xs => match xs with
  | [x, .tup [.ty t, .ty u]] => if t = .non ∨ u = .non then none else (tyW P x).map fun a => .bl (isB a t || isB a u)
  | _ => none
theorem rd_isi2 : RdC K (rIsiT K) fIsi2 := fun {Hb H P xs vs w} s r h Po Q k p => by
  unfold fIsi2 at h
  split at h
  · rename_i x t u
    split at h
    · cases h
    · rename_i ht
      have ht1 : ¬ t = .non := fun z => ht (.inl z)
      have hu1 : ¬ u = .non := fun z => ht (.inr z)
      cases e : tyW P x with
      | none => rw [e] at h; cases h
      | some a =>
        rw [e] at h
        cases h
        cases r with
        | cons rx r2 => cases r2 with
          | cons rt rn =>
            cases rn
            cases rt with
            | tup ht ra => cases ra with
              | cons r1 ra => cases ra with
                | cons r3 rn =>
                  cases rn
                  cases r1
                  cases r3
                  refine ⟨_, _, _, _, [.type (nmT t), .type (nmT u)], isB a t || isB a u, rfl, s.ex _ _ ht, .cons (.ty _) (.cons (.ty _) .nil), tyW_ok s rx e, ?_, k.here s p (.bl _)⟩
                  have k1 : PySem.W.kitOne K (.type (nmT a)) (.type (nmT t)) = some (isB a t) := kit_ty (by rw [kit_tab, if_neg ht1])
                  have k2 : PySem.W.kitOne K (.type (nmT a)) (.type (nmT u)) = some (isB a u) := kit_ty (by rw [kit_tab, if_neg hu1])
                  refine kitAny_cons k1 (fun e1 => kitAny_cons k2 (fun e2 => ?_) fun e2 => ?_) fun e1 => ?_
                  · rw [e1, e2]; rfl
                  · rw [e2, Bool.or_true]
                  · rw [e1, Bool.true_or]
  · cases h
/-- all -/
def fAll : Pst → List Wv → Option Wv := f1 fun P x => ((lstP P x).bind blsOf).map fun bs => .bl (bs.all id)
theorem rd_all : RdC K (rAll K) fAll := fun {Hb H P xs vs w} s r h Po Q k p => by
  obtain ⟨x, e0, h2⟩ := f1_ok h
  subst e0
  clear h
  have h := h2
  clear h2
  cases r with
  | cons rx rn =>
    cases rn
    cases e1 : lstP P x with
    | none => rw [e1] at h; cases h
    | some ws =>
      rw [e1] at h
      simp only [Option.bind_some] at h
      cases e2 : blsOf ws with
      | none => rw [e2] at h; cases h
      | some bs =>
        rw [e2] at h
        cases h
        have e3 := blsOf_ok e2
        subst e3
        obtain ⟨a, va, rfl, hq, ra⟩ := lstP_ok s rx e1
        have e4 := bls_of ra
        subst e4
        exact ⟨a, bs, rfl, SqL.of hq, k.here s p (.bl _)⟩
/-- int(n), int(b), int(text) -/
def rIntQ : List V → Hp → VK → Prop := fun xs H Q => (((∃ i, xs = [.int i] ∧ Q (.int i) H) ∨ ∃ k, xs = [.bl k] ∧ Q (.int (if k then 1 else 0)) H) ∨ (∃ a n, xs = [.str a] ∧ PySem.intText? a = some n ∧ a.length ≤ 640 ∧ Q (.int n) H))
theorem call_intQ {X : Cx} : CallR X (.type "int") rIntQ := CallR.or call_int1 call_int_str
def fInt : Pst → List Wv → Option Wv := f1 fun _ x => match x with
  | .int i => some (.int i)
  | .bl k => some (.int (if k then 1 else 0))
  | .str l => if l.length ≤ 640 then (PySem.intText? (S l)).map .int else none
  | _ => none
theorem rd_int : RdC K rIntQ fInt := fun {Hb H P xs vs w} s r h Po Q k p => by
  obtain ⟨x, e0, h2⟩ := f1_ok h
  subst e0
  clear h
  have h := h2
  clear h2
  cases r with
  | cons rx rn =>
    cases rn
    cases rx with
    | int i => cases h; exact .inl (.inl ⟨i, rfl, k.here s p (.int _)⟩)
    | bl i => cases h; exact .inl (.inr ⟨i, rfl, k.here s p (.int _)⟩)
    | str l =>
      simp only at h
      split at h
      · rename_i hz
        cases e : PySem.intText? (S l) with
        | none => rw [e] at h; cases h
        | some n =>
          rw [e] at h
          cases h
          exact .inr ⟨S l, n, rfl, e, hz, k.here s p (.int _)⟩
      · cases h
    | _ => cases h
/-- list(xs): data | private; tuple(xs) -/
def rListQ (K : PySem.W.Frag) : List V → Hp → VK → Prop := fun xs H Q => ∃ p ys, xs = [.ref p] ∧ (SqL K H p ys ∨ SqT K H p ys) ∧ ∀ l, H l = none → Q (.ref l) (upd H l (.lst ys))
theorem call_listQ {X : Cx} : CallR X (.type "list") (rListQ X.K) := call_list_of
def fList : Pst → List Wv → Option Wv := f1 fun P x => (seqP P x).map .lst
theorem rd_list : RdC K (rListQ K) fList := fun {Hb H P xs vs w} s r h Po Q k p => by
  obtain ⟨x, e0, h2⟩ := f1_ok h
  subst e0
  clear h
  have h := h2
  clear h2
  cases r with
  | cons rx rn =>
    cases rn
    cases e1 : seqP P x with
    | none => rw [e1] at h; cases h
    | some ws =>
      rw [e1] at h
      cases h
      obtain ⟨a, va, rfl, hq, ra⟩ := seqP_ok s rx e1
      exact ⟨a, va, rfl, hq, fun l hl => k.lst s ra p hl⟩
def fListN : Pst → List Wv → Option SO := f1 fun P x => (seqP P x).map .lst
theorem rd_listN : RdCN K (rListQ K) fListN := fun {Hb H P xs vs w} s r h Po Q k p => by
  obtain ⟨x, e0, h2⟩ := f1_ok h
  subst e0
  clear h
  have h := h2
  clear h2
  cases r with
  | cons rx rn =>
    cases rn
    cases e1 : seqP P x with
    | none => rw [e1] at h; cases h
    | some ws =>
      rw [e1] at h
      cases h
      obtain ⟨a, va, rfl, hq, ra⟩ := seqP_ok s rx e1
      exact ⟨a, va, rfl, hq, fun l hl => k.priv s (.lst ra) p hl⟩
def rTupQ (K : PySem.W.Frag) : List V → Hp → VK → Prop := fun xs H Q => ∃ p ys, xs = [.ref p] ∧ ((SqL K H p ys ∧ ∀ l, H l = none → Q (.ref l) (upd H l (.tup ys))) ∨ (SqT K H p ys ∧ Q (.ref p) H))
theorem call_tupQ {X : Cx} : CallR X (.type "tuple") (rTupQ X.K) := call_tuple_of
def fTup : Pst → List Wv → Option Wv := f1 fun P x => (lstP P x).map .tup
theorem rd_tup : RdC K (rTupQ K) fTup := fun {Hb H P xs vs w} s r h Po Q k p => by
  obtain ⟨x, e0, h2⟩ := f1_ok h
  subst e0
  clear h
  have h := h2
  clear h2
  cases r with
  | cons rx rn =>
    cases rn
    cases e1 : lstP P x with
    | none => rw [e1] at h; cases h
    | some ws =>
      rw [e1] at h
      cases h
      obtain ⟨a, va, rfl, hq, ra⟩ := lstP_ok s rx e1
      exact ⟨a, va, rfl, .inl ⟨SqL.of hq, fun l hl => k.tup s ra p hl⟩⟩
end
end Fc
namespace Fc
open PySem PySem.Spec PyProof.Rows L2
section
variable {K : PySem.W.Frag}
/-! ### methods of texts -/
def RdM1 (K : PySem.W.Frag) (r : V → List V → Hp → VK → Prop) (f : Pst → List Nat → Wv → Option Wv) : Prop := ∀ {Hb H P l y vy w}, Sit K Hb H P → Rl K Hb y vy → f P l y = some w → ∀ {Po : Wv → Pst → Prop} {Q : VK}, Ko K Hb P H Po Q → Po w P → r (.str (S l)) [vy] H Q
def strP (w : Wv) (k : List Nat → Prop) : Prop := match w with
  | .str l => k l
  | _ => False
@[simp] theorem strP_str {l : List Nat} {k : List Nat → Prop} : strP (.str l) k = k l := rfl
def dM1 (f : Pst → List Nat → Wv → Option Wv) (a b : WE) : WE := fun G P Po => a G P fun x P1 => strP x fun l => b G P1 fun y P2 => OptP (f P2 l y) fun w => Po w P2
theorem de_m1 {r : V → List V → Hp → VK → Prop} {f : Pst → List Nat → Wv → Option Wv} {t u : TE} {a b : WE} (hr : RdM1 K r f) (h1 : De K t a) (h2 : De K u b) : De K (tM1 r t u) (dM1 f a b) := ⟨fun hd σ Hb H g s Q k => h1.run hd g s fun x P1 vx Hb1 H1 p1 g1 s1 r1 => by
  cases r1 with
  | str l =>
    refine ⟨⟨_, rfl⟩, ?_⟩
    refine h2.run p1 (g.mono g1.ex) s1 fun y P2 vy Hb2 H2 p2 g2 s2 r2 => ?_
    obtain ⟨w, e, q⟩ := p2
    exact hr s2 r2 e (k.go (g1.trans g2)) q
  | _ => exact p1.elim⟩
def rPartQ : V → List V → Hp → VK → Prop := fun x xs H Q => ∃ a b, x = .str a ∧ xs = [.str b] ∧ (b.length == 0) = false ∧ a.length ≤ sizeLine ∧ ∀ p, H p = none → Q (.ref p) (upd H p (.tup [.str (Txt.partition a b).1, .str (Txt.partition a b).2.1, .str (Txt.partition a b).2.2]))
def partL (z s : List Nat) : List Wv := [.str (Txt.partition (S z) (S s)).1.cps.toList, .str (Txt.partition (S z) (S s)).2.1.cps.toList, .str (Txt.partition (S z) (S s)).2.2.cps.toList]
def fPart : Pst → List Nat → Wv → Option Wv := fun _ z y => match y with
  | .str s => if s ≠ [] ∧ z.length ≤ sizeLine then some (.tup (partL z s)) else none
  | _ => none
theorem rl_strE {Hb : Hp} (x : Str) : Rl K Hb (.str x.cps.toList) (.str x) := by
  have h := Rl.str (K := K) (H := Hb) x.cps.toList
  rw [S_eta] at h
  exact h
theorem rd_part : RdM1 K rPartQ fPart := fun {Hb H P l y vy w} s r h Po Q k p => by
  unfold fPart at h
  split at h
  · rename_i z
    split at h
    · rename_i hz
      cases h
      cases r
      refine ⟨S l, S z, rfl, rfl, ?_, hz.2, fun q hq => k.tup s ?_ p hq⟩
      · cases z with
        | nil => exact absurd rfl hz.1
        | cons a r => rfl
      · exact .cons (rl_strE _) (.cons (rl_strE _) (.cons (rl_strE _) .nil))
    · cases h
  · cases h
def rJoinQ (K : PySem.W.Frag) : V → List V → Hp → VK → Prop := fun x xs H Q => ∃ a p, ∃ ys : List Str, x = .str a ∧ xs = [.ref p] ∧ (SqL K H p (ys.map V.str) ∨ SqT K H p (ys.map V.str)) ∧ (ys.map (·.length)).sum + ys.length * a.length ≤ 16777216 ∧ Q (.str (Txt.join a ys)) H
def joinW (s : List Nat) (ls : List (List Nat)) : List Nat := (Txt.join (S s) (ls.map S)).cps.toList
def fJoin : Pst → List Nat → Wv → Option Wv := fun P z y => ((seqP P y).bind strsOf).bind fun ls => if (ls.map List.length).sum + ls.length * z.length ≤ 16777216 then some (.str (joinW z ls)) else none
theorem rd_join : RdM1 K (rJoinQ K) fJoin := fun {Hb H P l y vy w} s r h Po Q k p => by
  unfold fJoin at h
  cases e1 : seqP P y with
  | none => rw [e1] at h; cases h
  | some ws =>
    rw [e1] at h
    simp only [Option.bind_some] at h
    cases e2 : strsOf ws with
    | none => rw [e2] at h; cases h
    | some ls =>
      rw [e2] at h
      simp only [Option.bind_some] at h
      split at h
      · rename_i hz
        cases h
        have e3 := strsOf_ok e2
        subst e3
        obtain ⟨a, vs, rfl, hq, ra⟩ := seqP_ok s r e1
        have e4 := ra.strs_of
        subst e4
        refine ⟨S l, a, ls.map S, rfl, rfl, hq, ?_, k.here s p (rl_strE _)⟩
        rw [List.map_map, List.length_map]
        exact hz
      · cases h
def rStartQ : V → List V → Hp → VK → Prop := fun x xs H Q => ∃ a b, x = .str a ∧ xs = [.str b] ∧ Q (.bl (Txt.startswith a b)) H
theorem mt_startQ {X : Cx} : MtR X "str.startswith" rStartQ := mt_startswith
def fStart : Pst → List Nat → Wv → Option Wv := fun _ z y => match y with
  | .str s => some (.bl (Txt.startswith (S z) (S s)))
  | _ => none
theorem rd_start : RdM1 K rStartQ fStart := fun {Hb H P l y vy w} s r h Po Q k p => by
  unfold fStart at h
  split at h
  · cases h
    cases r
    exact ⟨S l, S _, rfl, rfl, k.here s p (.bl _)⟩
  · cases h

/-! ### fields -/
def fldW (C : Addr) (i : Nat) (P : Pst) : Wv → Option Wv
  | .r a => match P a with
    | some (.ins C' _ fs) => if C' = C then fs.lookup i else none
    | _ => none
  | _ => none
theorem RlF.look {Hb : Hp} {i : Nat} {w : Wv} : ∀ {fs : List (Nat × Wv)} {fv : List (Str × V)}, RlF K Hb fs fv → fs.lookup i = some w → ∃ v, fv.lookup (nm i) = some v ∧ Rl K Hb w v
  | _, _, .nil, h => by cases h
  | p :: fs, q :: fv, .cons r t, h => by
    obtain ⟨j, u⟩ := p
    obtain ⟨n, v⟩ := q
    obtain ⟨r1, r2, r3⟩ := r
    simp only at r1 r2 r3
    subst r2
    by_cases e : i = j
    · subst e
      simp only [List.lookup, beq_self_eq_true, Option.some.injEq] at h
      subst h
      exact ⟨v, by simp only [List.lookup, beq_self_eq_true], r3⟩
    · have hb : (i == j) = false := beq_eq_false_iff_ne.mpr e
      simp only [List.lookup, hb] at h
      obtain ⟨v', h1, h2⟩ := RlF.look t h
      refine ⟨v', ?_, h2⟩
      have hi : i < 17 := by
        have gen : ∀ {gs : List (Nat × Wv)} {gv : List (Str × V)}, RlF K Hb gs gv → gs.lookup i = some w → i < 17 := by
          intro gs gv rr
          unfold RlF at rr
          induction rr with
          | nil => intro hh; cases hh
          | @cons a b l1 l2 ra _ ih =>
            intro hh
            obtain ⟨ja, ua⟩ := a
            by_cases ee : i = ja
            · subst ee
              exact ra.1
            · have hb2 : (i == ja) = false := beq_eq_false_iff_ne.mpr ee
              simp only [List.lookup, hb2] at hh
              exact ih hh
        exact gen t h
      have hne : (nm i == nm j) = false := beq_eq_false_iff_ne.mpr fun z => e (nm_inj i hi j r1 z)
      simp only [List.lookup, hne]
      exact h1
theorem fldW_ok {C : Addr} {i : Nat} {Hb H : Hp} {P : Pst} (s : Sit K Hb H P) {x w : Wv} {vx : V} (r : Rl K Hb x vx) (h : fldW C i P x = some w) : ∃ a dx fs fv v, x = .r a ∧ vx = .ref a ∧ P a = some (.ins C dx fs) ∧ H a = some (.ins C dx fv) ∧ RlF K Hb fs fv ∧ fv.lookup (nm i) = some v ∧ Rl K Hb w v := by
  cases r with
  | r a =>
    unfold fldW at h
    simp only at h
    cases e2 : P a with
    | none => rw [e2] at h; cases h
    | some so =>
      obtain ⟨_, o, ho, sr⟩ := s.pv a so e2
      rw [e2] at h
      cases sr with
      | ins rf =>
        simp only at h
        split at h
        · rename_i ec
          subst ec
          obtain ⟨v, h1, h2⟩ := rf.look h
          exact ⟨a, _, _, _, v, rfl, rfl, e2, ho, rf, h1, h2⟩
        · cases h
      | _ => cases h
  | _ => cases h
def dFld (C : Addr) (i : Nat) (d : WE) : WE := fun G P Po => d G P fun x P1 => OptP (fldW C i P1 x) fun w => Po w P1
theorem de_fld {t : TE} {d : WE} {f : Str} (C : Addr) (i : Nat) (hC : Cls K C) (hn : NoAttr K C f) (h : De K t d) (hf : f = nm i := by rfl) : De K (tFld K t f) (dFld C i d) := ⟨fun hd σ Hb H g s Q k => h.run hd g s fun x P1 vx Hb1 H1 p1 g1 s1 r1 => by
  obtain ⟨w, e, q⟩ := p1
  subst hf
  obtain ⟨a, dx, fs, fv, v, rfl, rfl, _, ho, _, hl, rw_⟩ := fldW_ok s1 r1 e
  exact ⟨a, C, dx, fv, v, rfl, ho, hC, hn, hl, (k.go g1).here s1 q rw_⟩⟩
def putN (f : Nat) (v : Wv) : List (Nat × Wv) → List (Nat × Wv)
  | [] => [(f, v)]
  | (g, x) :: r => if g = f then (g, v) :: r else (g, x) :: putN f v r
theorem RlF.put {Hb : Hp} {i : Nat} (hi : i < 17) {w : Wv} {v : V} (rw_ : Rl K Hb w v) : ∀ {fs : List (Nat × Wv)} {fv : List (Str × V)}, RlF K Hb fs fv → RlF K Hb (putN i w fs) (putF (nm i) v fv)
  | _, _, .nil => .cons ⟨hi, rfl, rw_⟩ .nil
  | p :: fs, q :: fv, .cons r t => by
    obtain ⟨j, u⟩ := p
    obtain ⟨n, v0⟩ := q
    obtain ⟨r1, r2, r3⟩ := r
    simp only at r1 r2 r3
    subst r2
    unfold putN putF
    by_cases e : j = i
    · subst e
      rw [if_pos rfl, if_pos rfl]
      exact .cons ⟨hi, rfl, rw_⟩ t
    · rw [if_neg e, if_neg fun z => e (nm_inj j r1 i hi z)]
      exact .cons ⟨r1, rfl, r3⟩ (RlF.put hi rw_ t)
def insOf (C : Addr) (P : Pst) : Wv → Option (Addr × Addr × List (Nat × Wv))
  | .r a => match P a with
    | some (.ins C' dx fs) => if C' = C then some (a, dx, fs) else none
    | _ => none
  | _ => none
theorem insOf_ok {C : Addr} {Hb H : Hp} {P : Pst} (s : Sit K Hb H P) {x : Wv} {vx : V} {a dx : Addr} {fs : List (Nat × Wv)} (r : Rl K Hb x vx) (h : insOf C P x = some (a, dx, fs)) : x = .r a ∧ vx = .ref a ∧ P a = some (.ins C dx fs) ∧ ∃ fv, H a = some (.ins C dx fv) ∧ RlF K Hb fs fv := by
  cases r with
  | r b =>
    unfold insOf at h
    simp only at h
    cases e2 : P b with
    | none => rw [e2] at h; cases h
    | some so =>
      obtain ⟨_, o, ho, sr⟩ := s.pv b so e2
      rw [e2] at h
      cases sr with
      | ins rf =>
        simp only at h
        split at h
        · rename_i ec
          subst ec
          cases h
          exact ⟨rfl, rfl, e2, _, ho, rf⟩
        · cases h
      | _ => cases h
  | _ => cases h
theorem RlF.len {Hb : Hp} {fs : List (Nat × Wv)} {fv : List (Str × V)} (r : RlF K Hb fs fv) : fs.length = fv.length := Paired.length r
/-- o.f = e -/
def dSFld (C : Addr) (i : Nat) (da dv : WE) : WS := fun D G P => dv G P fun y P1 => da G P1 fun x P2 => OptP (insOf C P2 x) fun q => q.2.2.length < 1000 ∧ D.nx G (updP P2 q.1 (.ins C q.2.1 (putN i y q.2.2)))
theorem ds_fld {ta tv : TE} {da dv : WE} {f : Str} (C : Addr) (i : Nat) (hC : Cls K C) (hn : NoAttr K C f) (ha : De K ta da) (hv : De K tv dv) (hf : f = nm i := by rfl) (hi : i < 17 := by decide) : DS K (sFld K ta tv f) (dSFld C i da dv) := ⟨fun hd σ Hb H g s E k => hv.run hd g s fun y P1 vy Hb1 H1 p1 g1 s1 r1 => ha.run p1 (g.mono g1.ex) s1 fun x P2 vx Hb2 H2 p2 g2 s2 r2 => by
  obtain ⟨⟨a, dx, fs⟩, e, hl, q⟩ := p2
  subst hf
  obtain ⟨rfl, rfl, hp, fv, ho, rf⟩ := insOf_ok s2 r2 e
  obtain ⟨s3, g3⟩ := s2.mut hp (SoR.ins (C := C) (dx := dx) (rf.put hi (r1.mono g2.ex)))
  exact ⟨a, C, dx, fv, rfl, ho, hC, hn, by rw [← rf.len]; exact hl, k.nx _ _ _ _ _ q ((g1.trans g2).trans g3) s3 (((g.mono g1.ex).mono g2.ex).mono g3.ex)⟩⟩
/-- o.f op= e -/
def RdIn (K : PySem.W.Frag) (rd : V → V → Hp → VK → Prop) (f : Wv → Wv → Option Wv) : Prop := ∀ {Hb : Hp} {x y vx vy w}, Rl K Hb x vx → Rl K Hb y vy → f x y = some w → ∃ v, Rl K Hb w v ∧ ∀ {H} {Q : VK}, Q v H → rd vx vy H Q
def dSFldAug (C : Addr) (i : Nat) (f : Wv → Wv → Option Wv) (da dv : WE) : WS := fun D G P => da G P fun x P1 => OptP (fldW C i P1 x) fun v0 => dv G P1 fun y P2 => OptP (f v0 y) fun z => OptP (insOf C P2 x) fun q => q.2.2.length < 1000 ∧ D.nx G (updP P2 q.1 (.ins C q.2.1 (putN i z q.2.2)))
theorem ds_fldaug {ta tv : TE} {rd : V → V → Hp → VK → Prop} {fo : Wv → Wv → Option Wv} {da dv : WE} {f : Str} (C : Addr) (i : Nat) (hC : Cls K C) (hn : NoAttr K C f) (hr : RdIn K rd fo) (ha : De K ta da) (hv : De K tv dv) (hf : f = nm i := by rfl) (hi : i < 17 := by decide) : DS K (sFldAug K ta tv rd f) (dSFldAug C i fo da dv) := ⟨fun hd σ Hb H g s E k => ha.run hd g s fun x P1 vx Hb1 H1 p1 g1 s1 r1 => by
  obtain ⟨v0, e0, p1⟩ := p1
  subst hf
  obtain ⟨a, dx, fs, fv, u, rfl, rfl, hp, ho, rf, hl, r0⟩ := fldW_ok s1 r1 e0
  refine ⟨a, C, dx, fv, u, rfl, ho, hC, hn, hl, ?_⟩
  refine hv.run p1 (g.mono g1.ex) s1 fun y P2 vy Hb2 H2 p2 g2 s2 r2 => ?_
  obtain ⟨z, ez, ⟨b, dx2, fs2⟩, e2, hl2, q⟩ := p2
  obtain ⟨vz, rz, hrd⟩ := hr (r0.mono g2.ex) r2 ez
  obtain ⟨hb, _, hp2, fv2, ho2, rf2⟩ := insOf_ok s2 (Rl.r a) e2
  cases hb
  obtain ⟨s3, g3⟩ := s2.mut hp2 (SoR.ins (C := C) (dx := dx2) (rf2.put hi rz))
  exact hrd ⟨dx2, fv2, ho2, by rw [← rf2.len]; exact hl2, k.nx _ _ _ _ _ q ((g1.trans g2).trans g3) s3 (((g.mono g1.ex).mono g2.ex).mono g3.ex)⟩⟩
def augI : Wv → Wv → Option Wv
  | .int i, .int j => some (.int (i + j))
  | _, _ => none
theorem rd_augI : RdIn K rAdd augI := fun {Hb x y vx vy w} rx ry h => by
  unfold augI at h
  split at h
  · cases h
    cases rx
    cases ry
    exact ⟨_, .int _, fun q => ⟨_, _, rfl, rfl, q⟩⟩
  · cases h
def augS : Wv → Wv → Option Wv
  | .str i, .str j => if i.length + j.length ≤ sizeLine then some (.str (i ++ j)) else none
  | _, _ => none
theorem rd_augS : RdIn K rAddS augS := fun {Hb x y vx vy w} rx ry h => by
  unfold augS at h
  split at h
  · split at h
    · rename_i hz
      cases h
      cases rx
      cases ry
      refine ⟨_, .str _, fun {H Q} q => ⟨S _, S _, rfl, rfl, hz, ?_⟩⟩
      rw [S_append]
      exact q
    · cases h
  · cases h

/-! ### calls of defs -/
abbrev WSp := List Wv → Pst → (Wv → Pst → Prop) → Prop
def spOf (K : PySem.W.Frag) (s : WSp) : Sp := fun vs H Q _ => ∃ Hb P ws Po, RlA K Hb ws vs ∧ Sit K Hb H P ∧ s ws P Po ∧ Ko K Hb P H Po Q
def dCall (s : WSp) (a : WA) : WE := fun G P Po => a G P fun ws P1 => s ws P1 Po
theorem de_call {sp : WSp} {E : XK} {t : TA} {a : WA} (h : DA K t a) : De K (tCall (spOf K sp) [] E t) (dCall sp a) := ⟨fun hd σ Hb H g s Q k => h.run hd g s fun ws P1 vs Hb1 H1 p g1 s1 r1 => by
  rw [List.append_nil]
  exact ⟨Hb1, P1, ws, _, r1, s1, p, k.go g1⟩⟩
def dMeth (C : Addr) (sp : WSp) (o : WE) (a : WA) : WE := fun G P Po => o G P fun x P1 => OptP (insOf C P1 x) fun _ => a G P1 fun ws P2 => sp (x :: ws) P2 Po
theorem RlF.noName {Hb : Hp} {m : Str} (hm : ∀ i, i < 17 → m ≠ nm i) : ∀ {fs : List (Nat × Wv)} {fv : List (Str × V)}, RlF K Hb fs fv → fv.lookup m = none
  | _, _, .nil => rfl
  | p :: fs, q :: fv, .cons r t => by
    obtain ⟨n, v0⟩ := q
    obtain ⟨r1, r2, r3⟩ := r
    simp only at r2
    subst r2
    have hne : (m == nm p.1) = false := beq_eq_false_iff_ne.mpr (hm p.1 r1)
    simp only [List.lookup, hne]
    exact RlF.noName hm t
theorem de_meth {C : Addr} {m : Str} {sp : WSp} {E : XK} {to : TE} {t : TA} {o : WE} {a : WA} (ho : De K to o) (h : DA K t a) (hm : ∀ i, i < 17 → m ≠ nm i := by decide +kernel) : De K (tMeth C m (spOf K sp) [] E to t) (dMeth C sp o a) := ⟨fun hd σ Hb H g s Q k => ho.run hd g s fun x P1 vx Hb1 H1 p1 g1 s1 r1 => by
  obtain ⟨⟨b, dx, fs⟩, e, p1⟩ := p1
  obtain ⟨rfl, rfl, hp, fv, hH, rf⟩ := insOf_ok s1 r1 e
  refine ⟨b, dx, fv, rfl, hH, rf.noName hm, ?_⟩
  refine h.run p1 (g.mono g1.ex) s1 fun ws P2 vs Hb2 H2 p2 g2 s2 r2 => ?_
  rw [List.append_nil]
  exact ⟨Hb2, P2, .r b :: ws, _, .cons (.r b) r2, s2, p2, k.go (g1.trans g2)⟩⟩
def dMake (C : Addr) (sp : WSp) (a : WA) : WE := fun G P Po => a G P fun ws P1 => ∀ x dx, P1 x = none → sp (.r x :: ws) (updP P1 x (.ins C dx [])) fun w P2 => w = .non ∧ Po (.r x) P2
theorem de_make {C : Addr} {sp : WSp} {E : XK} {t : TA} {a : WA} (h : DA K t a) : De K (tMake C (spOf K sp) [] E t) (dMake C sp a) := ⟨fun hd σ Hb H g s Q k => h.run hd g s fun ws P1 vs Hb1 H1 p g1 s1 r1 => by
  intro x dx hx hdx hne
  rw [List.append_nil]
  obtain ⟨hb, hP⟩ := s1.free hx
  obtain ⟨hbd, hPd⟩ := s1.free hdx
  have s2 : Sit K Hb1 (upd H1 dx (.own x)) P1 := s1.aside hbd hPd
  have hx2 : upd H1 dx (.own x) x = none := by rw [upd_ne (Ne.symm hne)]; exact hx
  have g2 : Gw Hb1 P1 H1 Hb1 P1 (upd H1 dx (.own x)) := ⟨Gx.refl _, fun b o h1 h2 h3 => ⟨by rw [upd_ne (ne_of_none h1 hdx)]; exact h1, h2, h3⟩⟩
  obtain ⟨s3, g3⟩ := s2.newP (o := .ins C dx []) (so := .ins C dx []) hx2 (.ins .nil)
  refine ⟨Hb1, updP P1 x (.ins C dx []), .r x :: ws, _, .cons (.r x) r1, s3, p x dx hP, fun w P' v Hb' H' p' g' s' r' => ?_⟩
  obtain ⟨rfl, p'⟩ := p'
  cases r'
  exact ⟨rfl, k _ _ _ _ _ p' (((g1.trans g2).trans g3).trans g') s' (.r x)⟩⟩
end
end Fc
namespace Fc
open PySem PySem.Spec PyProof.Rows L2
section
variable {K : PySem.W.Frag}
/-! ### methods that change a list -/
def lstM (P : Pst) : Wv → Option (Addr × List Wv)
  | .r a => match P a with
    | some (.lst ws) => some (a, ws)
    | _ => none
  | _ => none
theorem lstM_ok {Hb H : Hp} {P : Pst} (s : Sit K Hb H P) {w : Wv} {v : V} {a : Addr} {ws : List Wv} (r : Rl K Hb w v) (h : lstM P w = some (a, ws)) : w = .r a ∧ v = .ref a ∧ P a = some (.lst ws) ∧ ∃ vs, H a = some (.lst vs) ∧ RlA K Hb ws vs := by
  cases r with
  | r b =>
    unfold lstM at h
    simp only at h
    cases e2 : P b with
    | none => rw [e2] at h; cases h
    | some so =>
      obtain ⟨_, o, ho, sr⟩ := s.pv b so e2
      rw [e2] at h
      cases sr with
      | lst ra => cases h; exact ⟨rfl, rfl, e2, _, ho, ra⟩
      | _ => cases h
  | _ => cases h
theorem Gw.tyL {Hb H Hb' H' : Hp} {P P' : Pst} : True := trivial
/-- xs.append(e) -/
def dApp (o a : WE) : WE := fun G P Po => o G P fun x P1 => (∃ b so, x = .r b ∧ P1 b = some (.lst so)) ∧ a G P1 fun y P2 => OptP (lstM P2 x) fun q => q.2.length < 1000000 ∧ Po .non (updP P2 q.1 (.lst (q.2 ++ [y])))
theorem de_app {to te : TE} {o a : WE} (h1 : De K to o) (h2 : De K te a) : De K (tBM K "list" rAppend to (tCons te tNil)) (dApp o a) := ⟨fun hd σ Hb H g s Q k => h1.run hd g s fun x P1 vx Hb1 H1 p1 g1 s1 r1 => by
  obtain ⟨⟨b, so, rfl, hb⟩, p1⟩ := p1
  cases r1
  obtain ⟨_, u, hu, su⟩ := s1.pv b _ hb
  cases su with
  | lst ra =>
    refine ⟨Or.inl ⟨rfl, _, SqL.of hu⟩, ?_⟩
    refine h2.run p1 (g.mono g1.ex) s1 fun y P2 vy Hb2 H2 p2 g2 s2 r2 => ?_
    obtain ⟨⟨a, ws⟩, e, hl, q⟩ := p2
    obtain ⟨hb2, _, hp, vs, hH, rv⟩ := lstM_ok s2 (Rl.r b) e
    cases hb2
    obtain ⟨s3, g3⟩ := s2.mut hp (SoR.lst (rv.append (.cons r2 .nil)))
    exact ⟨b, vs, vy, rfl, rfl, hH, by rw [← rv.len]; exact Nat.lt_of_lt_of_le hl (by decide), k _ _ _ _ _ q ((g1.trans g2).trans g3) s3 .non⟩⟩
/-- xs.extend(ys) -/
def dExt (o a : WE) : WE := fun G P Po => o G P fun x P1 => (∃ b so, x = .r b ∧ P1 b = some (.lst so)) ∧ a G P1 fun y P2 => OptP (lstM P2 x) fun q => OptP (lstP P2 y) fun zs => q.2.length + zs.length < 1000000 ∧ Po .non (updP P2 q.1 (.lst (q.2 ++ zs)))
theorem de_ext {to te : TE} {o a : WE} (h1 : De K to o) (h2 : De K te a) : De K (tBM K "list" rExtend to (tCons te tNil)) (dExt o a) := ⟨fun hd σ Hb H g s Q k => h1.run hd g s fun x P1 vx Hb1 H1 p1 g1 s1 r1 => by
  obtain ⟨⟨b, so, rfl, hb⟩, p1⟩ := p1
  cases r1
  obtain ⟨_, u, hu, su⟩ := s1.pv b _ hb
  cases su with
  | lst ra =>
    refine ⟨Or.inl ⟨rfl, _, SqL.of hu⟩, ?_⟩
    refine h2.run p1 (g.mono g1.ex) s1 fun y P2 vy Hb2 H2 p2 g2 s2 r2 => ?_
    obtain ⟨⟨a, ws⟩, e, zs, ez, hl, q⟩ := p2
    obtain ⟨hb2, _, hp, vs, hH, rv⟩ := lstM_ok s2 (Rl.r b) e
    cases hb2
    obtain ⟨c, vz, rfl, hc, rz⟩ := lstP_ok s2 r2 ez
    obtain ⟨s3, g3⟩ := s2.mut hp (SoR.lst (rv.append rz))
    exact ⟨b, c, vs, vz, rfl, rfl, hH, hc, by rw [← rv.len, ← rz.len]; exact Nat.le_of_lt (Nat.lt_of_lt_of_le hl (by decide)), k _ _ _ _ _ q ((g1.trans g2).trans g3) s3 .non⟩⟩
/-- xs.pop(i) -/
def dPopAt (o a : WE) : WE := fun G P Po => o G P fun x P1 => (∃ b so, x = .r b ∧ P1 b = some (.lst so)) ∧ a G P1 fun y P2 => ∃ i : Nat, y = .int (i : Int) ∧ OptP (lstM P2 x) fun q => q.2.length < 1000000 ∧ OptP (q.2[i]?) fun z => Po z (updP P2 q.1 (.lst (q.2.eraseIdx i)))
theorem de_popAt {to te : TE} {o a : WE} (h1 : De K to o) (h2 : De K te a) : De K (tBM K "list" rPopAt to (tCons te tNil)) (dPopAt o a) := ⟨fun hd σ Hb H g s Q k => h1.run hd g s fun x P1 vx Hb1 H1 p1 g1 s1 r1 => by
  obtain ⟨⟨b, so, rfl, hb⟩, p1⟩ := p1
  cases r1
  obtain ⟨_, u, hu, su⟩ := s1.pv b _ hb
  cases su with
  | lst ra =>
    refine ⟨Or.inl ⟨rfl, _, SqL.of hu⟩, ?_⟩
    refine h2.run p1 (g.mono g1.ex) s1 fun y P2 vy Hb2 H2 p2 g2 s2 r2 => ?_
    obtain ⟨i, rfl, ⟨a, ws⟩, e, hz, z, ez, q⟩ := p2
    cases r2
    obtain ⟨hb2, _, hp, vs, hH, rv⟩ := lstM_ok s2 (Rl.r b) e
    cases hb2
    obtain ⟨v, ev, rz⟩ := rv.get ez
    have hi : i < ws.length := (List.getElem?_eq_some_iff.mp ez).1
    obtain ⟨s3, g3⟩ := s2.mut hp (SoR.lst (rv.erase i))
    refine ⟨b, vs, (i : Int), i, v, rfl, rfl, hH, by omega, by have : ws.length < 1000000 := hz; omega, ?_, ev, k _ _ _ _ _ q ((g1.trans g2).trans g3) s3 rz⟩
    rw [← rv.len]
    unfold seqIndex?
    simp only [Int.natCast_nonneg, if_true]
    first
      | (rw [if_pos (by omega)]; simp)
      | (simp; omega)⟩

/-! ### dicts -/
def dDnew : WE := fun _ P Po => ∀ q, P q = none → Po (.r q) (updP P q (.dic []))
theorem de_dnew : De K tDNewK dDnew := ⟨fun p _ _ _ _ s _ k q hq => k.priv s (.dic .nil List.nodup_nil) p hq⟩
def lookD : List (List Nat × Wv) → List Nat → Option Wv
  | [], _ => none
  | (x, w) :: r, l => if x = l then some w else lookD r l
def putD : List (List Nat × Wv) → List Nat → Wv → List (List Nat × Wv)
  | [], l, w => [(l, w)]
  | (x, u) :: r, l, w => if x = l then (x, w) :: r else (x, u) :: putD r l w
theorem RlD.look {Hb : Hp} {l : List Nat} : ∀ {ks : List (List Nat × Wv)} {kv : List (Key × V)}, RlD K Hb ks kv → (lookD ks l = none ∧ valV kv (Sum.inr (S l)) = none) ∨ ∃ w v, lookD ks l = some w ∧ valV kv (Sum.inr (S l)) = some v ∧ Rl K Hb w v
  | _, _, .nil => .inl ⟨rfl, rfl⟩
  | p :: ks, q :: kv, .cons r t => by
    obtain ⟨x, w⟩ := p
    obtain ⟨y, v⟩ := q
    obtain ⟨r1, r2⟩ := r
    simp only at r1 r2
    subst r1
    by_cases e : x = l
    · subst e
      exact .inr ⟨w, v, if_pos rfl, valV_pos rfl, r2⟩
    · have hne : ¬ ((Sum.inr (S x) : Key) = Sum.inr (S l)) := fun z => e (S_inj (Sum.inr.inj z))
      have e1 : lookD ((x, w) :: ks) l = lookD ks l := if_neg e
      rw [e1, valV_neg hne]
      exact RlD.look t
theorem RlD.any {Hb : Hp} {l : List Nat} {ks : List (List Nat × Wv)} {kv : List (Key × V)} (r : RlD K Hb ks kv) : (kv.any fun p => decide (p.1 = (Sum.inr (S l) : Key))) = (lookD ks l).isSome := by
  rw [valV_any]
  rcases r.look (l := l) with ⟨h1, h2⟩ | ⟨w, v, h1, h2, _⟩
  · rw [h1, h2]
    rfl
  · rw [h1, h2]
    rfl
theorem putD_none {l : List Nat} {w : Wv} : ∀ {ks : List (List Nat × Wv)}, lookD ks l = none → putD ks l w = ks ++ [(l, w)]
  | [], _ => rfl
  | (x, u) :: r, h => by
    unfold lookD at h
    split at h
    · cases h
    · rename_i hx
      unfold putD
      rw [if_neg hx, putD_none h]
      rfl
theorem lookD_none {l : List Nat} : ∀ {ks : List (List Nat × Wv)}, lookD ks l = none ↔ l ∉ ks.map (·.1)
  | [] => by simp [lookD]
  | (x, u) :: r => by
    unfold lookD
    by_cases h : x = l
    · subst h
      simp
    · rw [if_neg h, lookD_none, List.map_cons, List.mem_cons, not_or]
      exact ⟨fun q => ⟨fun z => h z.symm, q⟩, fun q => q.2⟩
theorem putD_keys {l : List Nat} {w : Wv} : ∀ {ks : List (List Nat × Wv)}, (putD ks l w).map (·.1) = if (lookD ks l).isSome then ks.map (·.1) else ks.map (·.1) ++ [l]
  | [] => rfl
  | (x, u) :: r => by
    unfold putD lookD
    by_cases h : x = l
    · rw [if_pos h, if_pos h]
      rfl
    · rw [if_neg h, if_neg h, List.map_cons, putD_keys]
      cases (lookD r l).isSome <;> rfl
theorem putD_nd {l : List Nat} {w : Wv} {ks : List (List Nat × Wv)} (n : NdK ks) : NdK (putD ks l w) := by
  unfold NdK
  rw [putD_keys]
  cases e : lookD ks l with
  | some u => exact n
  | none =>
    show (ks.map (·.1) ++ [l]).Nodup
    refine List.nodup_append.mpr ⟨n, by simp, fun a ha b hb => ?_⟩
    have hb2 : b = l := by simpa using hb
    intro z
    rw [z, hb2] at ha
    exact lookD_none.mp e ha
theorem RlD.put {Hb : Hp} {l : List Nat} {w : Wv} {v : V} (rw_ : Rl K Hb w v) : ∀ {ks : List (List Nat × Wv)} {kv : List (Key × V)}, RlD K Hb ks kv → NdK ks → RlD K Hb (putD ks l w) (putK kv (Sum.inr (S l)) v)
  | ks, kv, r, nd => by
    unfold putK
    rw [r.any]
    cases e : lookD ks l with
    | none =>
      rw [if_neg (by simp), putD_none e]
      have app : ∀ {a : List (List Nat × Wv)} {b : List (Key × V)}, RlD K Hb a b → RlD K Hb (a ++ [(l, w)]) (b ++ [((Sum.inr (S l) : Key), v)]) := by
        intro a b rr
        unfold RlD at rr ⊢
        induction rr with
        | nil => exact .cons ⟨rfl, rw_⟩ .nil
        | cons p _ ih => exact .cons p ih
      exact app r
    | some u =>
      rw [if_pos (by simp)]
      have go : ∀ {a : List (List Nat × Wv)} {b : List (Key × V)}, RlD K Hb a b → NdK a → lookD a l ≠ none → RlD K Hb (putD a l w) (b.map fun kv => if kv.1 = (Sum.inr (S l) : Key) then (kv.1, v) else kv) := by
        intro a b rr
        unfold RlD at rr ⊢
        induction rr with
        | nil => intro _ h; exact absurd rfl h
        | @cons p q l1 l2 hp _ ih =>
          intro nda h
          obtain ⟨x, u⟩ := p
          obtain ⟨y, v0⟩ := q
          obtain ⟨r1, r2⟩ := hp
          simp only at r1 r2
          subst r1
          unfold putD
          rw [List.map_cons]
          by_cases ex : x = l
          · subst ex
            rw [if_pos rfl, if_pos rfl]
            refine .cons ⟨rfl, rw_⟩ ?_
            have hnot : x ∉ l1.map (·.1) := (List.nodup_cons.mp nda).1
            have same : l2.map (fun kv => if kv.1 = (Sum.inr (S x) : Key) then (kv.1, v) else kv) = l2 := by
              rename_i rt
              clear ih nda h
              induction rt with
              | nil => rfl
              | @cons p2 q2 m1 m2 hp2 _ ih2 =>
                rw [List.map_cons, ih2 (fun z => hnot (List.mem_cons_of_mem _ z))]
                obtain ⟨x2, u2⟩ := p2
                obtain ⟨y2, v2⟩ := q2
                obtain ⟨s1, s2⟩ := hp2
                simp only at s1
                subst s1
                rw [if_neg]
                intro z
                have z2 : S x2 = S x := Sum.inr.inj z
                exact hnot (by rw [← S_inj z2]; exact List.mem_cons_self)
            rw [same]
            assumption
          · rw [if_neg ex, if_neg (fun z => ex (S_inj (Sum.inr.inj z)))]
            refine .cons ⟨rfl, r2⟩ (ih (List.nodup_cons.mp nda).2 ?_)
            intro z
            apply h
            unfold lookD
            rw [if_neg ex]
            exact z
      exact go r nd (by rw [e]; simp)
def dDGet (dd dk : WE) : WE := fun G P Po => dd G P fun x P1 => dk G P1 fun y P2 => strP y fun l => OptP (dicP P2 x) fun ks => OptP (lookD ks l) fun w => Po w P2
theorem de_dget {td tk : TE} {dd dk : WE} (h1 : De K td dd) (h2 : De K tk dk) : De K (tDGet td tk) (dDGet dd dk) := ⟨fun hd σ Hb H g s Q k => h1.run hd g s fun x P1 vx Hb1 H1 p1 g1 s1 r1 => h2.run p1 (g.mono g1.ex) s1 fun y P2 vy Hb2 H2 p2 g2 s2 r2 => by
  cases r2 with
  | str l =>
    obtain ⟨ks, e1, w, e2, q⟩ := p2
    obtain ⟨a, kv, rfl, hr, rd, nd⟩ := dicP_ok s2 (r1.mono g2.ex) e1
    rcases rd.look (l := l) with ⟨h3, _⟩ | ⟨w2, v, h3, h4, r3⟩
    · rw [h3] at e2; cases e2
    · rw [h3] at e2
      cases e2
      exact ⟨a, v, rfl, .inl ⟨kv, Sum.inr (S l), hr, rfl, h4.symm⟩, (k.go (g1.trans g2)).here s2 q r3⟩
  | _ => exact p2.elim⟩
def dDIn (n : Bool) (dk dd : WE) : WE := fun G P Po => dk G P fun y P1 => dd G P1 fun x P2 => strP y fun l => OptP (dicP P2 x) fun ks => Po (.bl (if n then !(lookD ks l).isSome else (lookD ks l).isSome)) P2
theorem de_din {td tk : TE} {dd dk : WE} (h2 : De K tk dk) (h1 : De K td dd) : De K (tDIn tk td) (dDIn false dk dd) := ⟨fun hd σ Hb H g s Q k => h2.run hd g s fun y P1 vy Hb1 H1 p1 g1 s1 r1 => h1.run p1 (g.mono g1.ex) s1 fun x P2 vx Hb2 H2 p2 g2 s2 r2 => by
  cases r1 with
  | str l =>
    obtain ⟨ks, e1, q⟩ := p2
    obtain ⟨a, kv, rfl, hr, rd, nd⟩ := dicP_ok s2 r2 e1
    rcases rd.look (l := l) with ⟨h3, h4⟩ | ⟨w2, v, h3, h4, r3⟩
    · refine ⟨a, none, rfl, .inl ⟨kv, Sum.inr (S l), hr, rfl, h4.symm⟩, ?_⟩
      rw [h3] at q
      exact (k.go (g1.trans g2)).here s2 q (.bl _)
    · refine ⟨a, some v, rfl, .inl ⟨kv, Sum.inr (S l), hr, rfl, h4.symm⟩, ?_⟩
      rw [h3] at q
      exact (k.go (g1.trans g2)).here s2 q (.bl _)
  | _ => exact p2.elim⟩
theorem de_dnotin {td tk : TE} {dd dk : WE} (h2 : De K tk dk) (h1 : De K td dd) : De K (tDNotIn tk td) (dDIn true dk dd) := ⟨fun hd σ Hb H g s Q k => h2.run hd g s fun y P1 vy Hb1 H1 p1 g1 s1 r1 => h1.run p1 (g.mono g1.ex) s1 fun x P2 vx Hb2 H2 p2 g2 s2 r2 => by
  cases r1 with
  | str l =>
    obtain ⟨ks, e1, q⟩ := p2
    obtain ⟨a, kv, rfl, hr, rd, nd⟩ := dicP_ok s2 r2 e1
    rcases rd.look (l := l) with ⟨h3, h4⟩ | ⟨w2, v, h3, h4, r3⟩
    · refine ⟨a, none, rfl, .inl ⟨kv, Sum.inr (S l), hr, rfl, h4.symm⟩, ?_⟩
      rw [h3] at q
      exact (k.go (g1.trans g2)).here s2 q (.bl _)
    · refine ⟨a, some v, rfl, .inl ⟨kv, Sum.inr (S l), hr, rfl, h4.symm⟩, ?_⟩
      rw [h3] at q
      exact (k.go (g1.trans g2)).here s2 q (.bl _)
  | _ => exact p2.elim⟩
def dDPut (dd dk dv : WE) : WS := fun D G P => dv G P fun w P1 => dd G P1 fun x P2 => dk G P2 fun y P3 => strP y fun l => OptP (dicM P3 x) fun q => q.2.length < 1000 ∧ D.nx G (updP P3 q.1 (.dic (putD q.2 l w)))
theorem ds_dput {td tk tv : TE} {dd dk dv : WE} (h1 : De K td dd) (h2 : De K tk dk) (h3 : De K tv dv) : DS K (sDPut td tk tv) (dDPut dd dk dv) := ⟨fun hd σ Hb H g s E k => h3.run hd g s fun w P1 vw Hb1 H1 p1 g1 s1 r1 => h1.run p1 (g.mono g1.ex) s1 fun x P2 vx Hb2 H2 p2 g2 s2 r2 => h2.run p2 ((g.mono g1.ex).mono g2.ex) s2 fun y P3 vy Hb3 H3 p3 g3 s3 r3 => by
  cases r3 with
  | str l =>
    obtain ⟨⟨a, ks⟩, e1, hz, q⟩ := p3
    obtain ⟨_, hp, hv, ⟨kv, hH, rd⟩, nd⟩ := dicM_ok s3 (r2.mono g3.ex) e1
    obtain ⟨s4, g4⟩ := s3.mut hp (SoR.dic (rd.put (l := l) ((r1.mono g2.ex).mono g3.ex) nd) (putD_nd nd))
    refine ⟨a, _, hv, DPut.k (k := Sum.inr (S l)) hH (by rw [← rd.len]; exact Nat.lt_of_lt_of_le hz (by decide)), k.nx _ _ _ _ _ q (((g1.trans g2).trans g3).trans g4) s4 ((((g.mono g1.ex).mono g2.ex).mono g3.ex).mono g4.ex)⟩
  | _ => exact p3.elim⟩
/-- dict(d) -/
def rDictD : List V → Hp → VK → Prop := fun xs H Q => ∃ (a : Addr) (kvs : List (Key × V)), xs = [.ref a] ∧ Rd H a (.dK kvs) ∧ ∀ p, H p = none → Q (.ref p) (upd H p (.dK kvs))
theorem call_dictDQ {X : Cx} : CallR X (.type "dict") rDictD := call_dictD
def fDictD : Pst → List Wv → Option SO := f1 fun P x => (dicP P x).map .dic
theorem rd_dictD : RdCN K rDictD fDictD := fun {Hb H P xs vs w} s r h Po Q k p => by
  obtain ⟨x, e0, h2⟩ := f1_ok h
  subst e0
  cases r with
  | cons rx rn =>
    cases rn
    cases e1 : dicP P x with
    | none => rw [e1] at h2; cases h2
    | some ks =>
      rw [e1] at h2
      cases h2
      obtain ⟨a, kv, rfl, hr, rd, nd⟩ := dicP_ok s rx e1
      exact ⟨a, kv, rfl, hr, fun q hq => k.priv s (.dic rd nd) p hq⟩
/-- list(d): the keys -/
def rListD : List V → Hp → VK → Prop := fun xs H Q => ∃ (a : Addr) (kvs : List (Key × V)), xs = [.ref a] ∧ Rd H a (.dK kvs) ∧ ∀ p, H p = none → Q (.ref p) (upd H p (.lst (kvs.map fun kv => kV kv.1)))
theorem call_listDQ {X : Cx} (hc : X.calm = true) : CallR X (.type "list") rListD := call_listD hc
def keysW (ks : List (List Nat × Wv)) : List Wv := ks.map fun p => .str p.1
theorem RlD.keys {Hb : Hp} {ks : List (List Nat × Wv)} {kv : List (Key × V)} (r : RlD K Hb ks kv) : RlA K Hb (keysW ks) (kv.map fun kv => kV kv.1) := by
  unfold RlD at r
  induction r with
  | nil => exact .nil
  | @cons p q l1 l2 hp _ ih =>
    obtain ⟨x, u⟩ := p
    obtain ⟨y, v⟩ := q
    obtain ⟨h1, _⟩ := hp
    simp only at h1
    subst h1
    exact .cons (.str x) ih
def fListD : Pst → List Wv → Option Wv := f1 fun P x => (dicP P x).map fun ks => .lst (keysW ks)
theorem rd_listD : RdC K rListD fListD := fun {Hb H P xs vs w} s r h Po Q k p => by
  obtain ⟨x, e0, h2⟩ := f1_ok h
  subst e0
  cases r with
  | cons rx rn =>
    cases rn
    cases e1 : dicP P x with
    | none => rw [e1] at h2; cases h2
    | some ks =>
      rw [e1] at h2
      cases h2
      obtain ⟨a, kv, rfl, hr, rd, nd⟩ := dicP_ok s rx e1
      exact ⟨a, kv, rfl, hr, fun q hq => k.lst s rd.keys p hq⟩
end
end Fc
namespace Fc
open PySem PySem.Spec PyProof.Rows L2
theorem wipe_get (σ : L2.St) (k : Nat) : ∀ vs : List Nat, (wipe σ vs)[k]? = if k ∈ vs then (if k < σ.length then some none else none) else σ[k]?
  | [] => by simp [wipe]
  | v :: vs => by
    unfold wipe
    by_cases h : v = k
    · subst h
      rw [if_pos List.mem_cons_self]
      by_cases hl : v < σ.length
      · rw [if_pos hl, List.getElem?_set_self (by rw [wipe_length]; exact hl)]
      · rw [if_neg hl, List.getElem?_eq_none]
        rw [List.length_set, wipe_length]
        omega
    · rw [List.getElem?_set_ne h, wipe_get σ k vs]
      have e : (k ∈ v :: vs) = (k ∈ vs) := by
        simp only [List.mem_cons, eq_iff_iff]
        exact ⟨fun q => q.resolve_left fun z => h z.symm, .inr⟩
      simp only [e]
theorem wipe_set {σ : L2.St} {i : Nat} {x : Option V} {vs : List Nat} (h : i ∈ vs) : wipe (σ.set i x) vs = wipe σ vs := by
  refine List.ext_getElem? fun k => ?_
  rw [wipe_get, wipe_get, List.length_set]
  by_cases hk : k ∈ vs
  · rw [if_pos hk, if_pos hk]
  · rw [if_neg hk, if_neg hk, List.getElem?_set_ne]
    intro z
    exact hk (z ▸ h)
theorem wipe_wipe (σ : L2.St) (vs : List Nat) : wipe (wipe σ vs) vs = wipe σ vs := by
  refine List.ext_getElem? fun k => ?_
  rw [wipe_get, wipe_get, wipe_length]
  by_cases hk : k ∈ vs
  · rw [if_pos hk, if_pos hk]
  · rw [if_neg hk, if_neg hk]
section
variable {K : PySem.W.Frag}
theorem Gm.wipe {Hb : Hp} {G : Env} {σ : L2.St} (g : Gm K Hb G σ) : ∀ vs : List Nat, Gm K Hb (wipeW G vs) (L2.wipe σ vs)
  | [] => g
  | v :: vs => by
    obtain ⟨h1, h2⟩ := Gm.wipe g vs
    unfold wipeW L2.wipe
    refine ⟨by rw [List.length_set, List.length_set]; exact h1, fun i w h => ?_⟩
    by_cases q : i = v
    · subst q
      have hl : i < (wipeW G vs).length := by
        have := (List.getElem?_eq_some_iff.mp h).1
        rw [List.length_set] at this
        exact this
      rw [List.getElem?_set_self hl] at h
      cases h
    · rw [List.getElem?_set_ne (Ne.symm q)] at h ⊢
      exact h2 i w h

/-! ### targets; js: the slots that they store -/
structure DGt (K : PySem.W.Frag) (t : TG) (d : WG) (js : List Nat) : Prop where
  run : ∀ {w G P Po}, d w G P Po → ∀ {v σ Hb H}, Rl K Hb w v → Gm K Hb G σ → Sit K Hb H P → ∀ {Q : L2.St → Hp → Prop}, (∀ G' P' σ' Hb' H', Po G' P' → (∀ vs : List Nat, (∀ j ∈ js, j ∈ vs) → wipe σ' vs = wipe σ vs) → Gw Hb P H Hb' P' H' → Sit K Hb' H' P' → Gm K Hb' G' σ' → Q σ' H') → t v σ H Q
structure DGts (K : PySem.W.Frag) (t : TGs) (d : WGs) (js : List Nat) : Prop where
  run : ∀ {ws G P Po}, d ws G P Po → ∀ {vs σ Hb H}, RlA K Hb ws vs → Gm K Hb G σ → Sit K Hb H P → ∀ {Q : L2.St → Hp → Prop}, (∀ G' P' σ' Hb' H', Po G' P' → (∀ us : List Nat, (∀ j ∈ js, j ∈ us) → wipe σ' us = wipe σ us) → Gw Hb P H Hb' P' H' → Sit K Hb' H' P' → Gm K Hb' G' σ' → Q σ' H') → t vs σ H Q
def gdName (i : Nat) : WG := fun w G P Po => Po (G.set i (some w)) P
theorem dg_name (i : Nat) : DGt K (gName i) (gdName i) [i] := ⟨fun p _ _ _ _ r g s _ k => k _ _ _ _ _ p (fun vs h => wipe_set (h i (by simp))) Gw.refl s (g.set i r)⟩
def gdNil : WGs := fun ws G P Po => ws = [] ∧ Po G P
def gdCons (a : WG) (b : WGs) : WGs := fun ws G P Po => match ws with
  | w :: r => a w G P fun G1 P1 => b r G1 P1 Po
  | [] => False
theorem dgs_nil : DGts K gNil gdNil [] := ⟨fun {ws G P Po} p {vs σ Hb H} r g s Q k => by
  obtain ⟨rfl, p⟩ := p
  cases r
  exact ⟨rfl, k _ _ _ _ _ p (fun _ _ => rfl) Gw.refl s g⟩⟩
theorem dgs_cons {t : TG} {u : TGs} {a : WG} {b : WGs} {js is : List Nat} (h1 : DGt K t a js) (h2 : DGts K u b is) : DGts K (gCons t u) (gdCons a b) (js ++ is) := ⟨fun {ws G P Po} p {vs σ Hb H} r g s Q k => by
  cases r with
  | nil => exact p.elim
  | cons rw_ rr =>
    refine ⟨_, _, rfl, h1.run p rw_ g s fun G1 P1 σ1 Hb1 H1 p1 e1 g1 s1 m1 => ?_⟩
    refine h2.run p1 (rr.mono g1.ex) m1 s1 fun G2 P2 σ2 Hb2 H2 p2 e2 g2 s2 m2 => ?_
    exact k _ _ _ _ _ p2 (fun us hu => (e2 us fun j hj => hu j (List.mem_append_right _ hj)).trans (e1 us fun j hj => hu j (List.mem_append_left _ hj))) (g1.trans g2) s2 m2⟩
def gdTup (n : Nat) (b : WGs) : WG := fun w G P Po => match w with
  | .tup ws => ws.length = n ∧ b ws G P Po
  | _ => False
theorem dg_tup {n : Nat} {t : TGs} {b : WGs} {js : List Nat} (h : DGts K t b js) : DGt K (gTup K n t) (gdTup n b) js := ⟨fun {w G P Po} p {v σ Hb H} r g s Q k => by
  cases r with
  | tup e ra => exact ⟨_, _, rfl, SqT.of (s.ex _ _ e), by rw [← ra.len]; exact p.1, h.run p.2 ra g s k⟩
  | _ => exact p.elim⟩
/-- xs[i] = v -/
def gdSub (a b : WE) : WG := fun v G P Po => a G P fun o P1 => b G P1 fun i P2 => match i with
  | .int k => OptP (lstM P2 o) fun q => OptP (ixN q.2.length k) fun j => Po G (updP P2 q.1 (.lst (q.2.set j v)))
  | _ => False
theorem dg_sub {to ti : TE} {a b : WE} (h1 : De K to a) (h2 : De K ti b) : DGt K (gSub to ti rSetL) (gdSub a b) [] := ⟨fun {w G P Po} p {v σ Hb H} r g s Q k => h1.run p g s fun o P1 vo Hb1 H1 p1 g1 s1 r1 => h2.run p1 (g.mono g1.ex) s1 fun i P2 vi Hb2 H2 p2 g2 s2 r2 => by
  cases r2 with
  | int n =>
    obtain ⟨⟨a, ws⟩, e, j, ej, q⟩ := p2
    obtain ⟨_, hv, hp, vs, hH, rv⟩ := lstM_ok s2 (r1.mono g2.ex) e
    obtain ⟨s3, g3⟩ := s2.mut hp (SoR.lst (rv.set ((r.mono g1.ex).mono g2.ex) j))
    exact ⟨a, vs, n, j, hv, rfl, hH, by rw [← rv.len]; exact ej, k _ _ _ _ _ q (fun _ _ => rfl) ((g1.trans g2).trans g3) s3 (((g.mono g1.ex).mono g2.ex).mono g3.ex)⟩
  | _ => exact p2.elim⟩

/-! ### statements -/
def dNext : WS := fun D G P => D.nx G P
def dSeq (a b : WS) : WS := fun D G P => a { D with nx := b D } G P
theorem ds_next : DS K tNext dNext := ⟨fun p _ _ _ g s _ k => k.nx.here s p g⟩
theorem ds_seq {t u : TS} {a b : WS} (h1 : DS K t a) (h2 : DS K u b) : DS K (tSeq t u) (dSeq a b) := ⟨fun {G P D} p {σ Hb H} g s E k => h1.run (D := { D with nx := b D }) p g s ⟨fun G' P' σ' Hb' H' p' g' s' m' => h2.run p' m' s' (k.go g'), k.rt, k.bk, k.ct⟩⟩
def dDrop (d : WE) : WS := fun D G P => d G P fun _ P1 => D.nx G P1
theorem ds_drop {t : TE} {d : WE} (h : De K t d) : DS K (tDrop t) (dDrop d) := ⟨fun p _ _ _ g s _ k => h.run p g s fun _ _ _ _ _ p1 g1 s1 _ => k.nx _ _ _ _ _ p1 g1 s1 (g.mono g1.ex)⟩
def dRet (d : WE) : WS := fun D G P => d G P fun w P1 => D.rt w P1
theorem ds_ret {t : TE} {d : WE} (h : De K t d) : DS K (tRet t) (dRet d) := ⟨fun p _ _ _ g s _ k => h.run p g s k.rt⟩
def dRetN : WS := fun D _ P => D.rt .non P
theorem ds_retN : DS K tRetN dRetN := ⟨fun p _ _ _ _ s _ k => k.rt.here s p .non⟩
def dNever : WS := fun _ _ _ => False
theorem ds_never : DS K tNever dNever := ⟨fun p => p.elim⟩
def dBreak : WS := fun D G P => D.bk G P
theorem ds_break : DS K tBreak dBreak := ⟨fun p _ _ _ g s _ k => k.bk.here s p g⟩
def dIfS (c : WT) (a b : WS) : WS := fun D G P => c G P fun k P1 => if k = true then a D G P1 else b D G P1
theorem ds_if {c : TT} {t u : TS} {dc : WT} {a b : WS} (h : DT K c dc) (h1 : DS K t a) (h2 : DS K u b) : DS K (tIfS c t u) (dIfS dc a b) := ⟨fun p _ _ _ g s _ k => h.run p g s fun c P1 Hb1 H1 p1 g1 s1 => by
  cases c with
  | true =>
    rw [if_pos rfl] at p1 ⊢
    exact h1.run p1 (g.mono g1.ex) s1 (k.go g1)
  | false =>
    rw [if_neg Bool.false_ne_true] at p1 ⊢
    exact h2.run p1 (g.mono g1.ex) s1 (k.go g1)⟩
def dAsg (d : WE) (gd : WG) : WS := fun D G P => d G P fun w P1 => gd w G P1 D.nx
theorem ds_asg {t : TE} {gt : TG} {d : WE} {gd : WG} {js : List Nat} (h1 : De K t d) (h2 : DGt K gt gd js) : DS K (tAsg t gt) (dAsg d gd) := ⟨fun p _ _ _ g s _ k => h1.run p g s fun w P1 v Hb1 H1 p1 g1 s1 r1 => h2.run p1 r1 (g.mono g1.ex) s1 fun G' P' σ' Hb' H' p' _ g' s' m' => k.nx _ _ _ _ _ p' (g1.trans g') s' m'⟩
def dPar (i j : Nat) (a : WA) : WS := fun D G P => a G P fun ws P1 => match ws with
  | [v, w] => D.nx ((G.set i (some v)).set j (some w)) P1
  | _ => False
theorem ds_par {i j : Nat} {t : TA} {a : WA} (h : DA K t a) : DS K (tPar i j t) (dPar i j a) := ⟨fun p _ _ _ g s _ k => h.run p g s fun ws P1 vs Hb1 H1 p1 g1 s1 r1 => by
  cases r1 with
  | nil => exact p1.elim
  | cons ra r2 => cases r2 with
    | nil => exact p1.elim
    | cons rb r3 => cases r3 with
      | nil => exact ⟨_, _, rfl, k.nx _ _ _ _ _ p1 g1 s1 (((g.mono g1.ex).set i ra).set j rb)⟩
      | cons _ _ => exact p1.elim⟩
def dPar3 (i j l : Nat) (a : WA) : WS := fun D G P => a G P fun ws P1 => match ws with
  | [u, v, w] => D.nx (((G.set i (some u)).set j (some v)).set l (some w)) P1
  | _ => False
theorem ds_par3 {i j l : Nat} {t : TA} {a : WA} (h : DA K t a) : DS K (tPar3 i j l t) (dPar3 i j l a) := ⟨fun p _ _ _ g s _ k => h.run p g s fun ws P1 vs Hb1 H1 p1 g1 s1 r1 => by
  cases r1 with
  | nil => exact p1.elim
  | cons ra r2 => cases r2 with
    | nil => exact p1.elim
    | cons rb r3 => cases r3 with
      | nil => exact p1.elim
      | cons rc r4 => cases r4 with
        | nil => exact ⟨_, _, _, rfl, k.nx _ _ _ _ _ p1 g1 s1 ((((g.mono g1.ex).set i ra).set j rb).set l rc)⟩
        | cons _ _ => exact p1.elim⟩

/-! ### what is walked -/
structure ItOk (K : PySem.W.Frag) (J : It) (ws : List Wv) (gd : Pst → Prop) (Hb1 : Hp) : Prop where
  go : ∀ i Hb H P, Gx Hb1 Hb → Sit K Hb H P → gd P → i < ws.length → J.go i H
  stop : ∀ Hb H P, Gx Hb1 Hb → Sit K Hb H P → gd P → J.stop ws.length H
  yld : ∀ i Hb H P x H', Gx Hb1 Hb → Sit K Hb H P → gd P → i < ws.length → J.yld i H x H' → ∃ w Hb', ws[i]? = some w ∧ Gw Hb P H Hb' P H' ∧ Sit K Hb' H' P ∧ Rl K Hb' w x
abbrev WI := Env → Pst → (List Wv → (Pst → Prop) → Pst → Prop) → Prop
structure DI (K : PySem.W.Frag) (t : TI) (d : WI) : Prop where
  run : ∀ {G P Pi}, d G P Pi → ∀ {σ Hb H}, Gm K Hb G σ → Sit K Hb H P → ∀ {R : It → Hp → Prop}, (∀ J ws gd P1 Hb1 H1, Pi ws gd P1 → ItOk K J ws gd Hb1 → Gw Hb P H Hb1 P1 H1 → Sit K Hb1 H1 P1 → R J H1) → t σ H R
def gdOf (w : Wv) (ws : List Wv) : Pst → Prop := match w with
  | .r a => fun P => P a = some (.lst ws)
  | _ => fun _ => True
def dIList (d : WE) : WI := fun G P Pi => d G P fun w P1 => OptP (lstP P1 w) fun ws => Pi ws (gdOf w ws) P1
theorem di_list {t : TE} {d : WE} (h : De K t d) : DI K (iList K t) (dIList d) := ⟨fun {G P Pi} p {σ Hb H} g s R k => h.run p g s fun w P1 v Hb1 H1 p1 g1 s1 r1 => by
  obtain ⟨ws, e, q⟩ := p1
  obtain ⟨a, vs, rfl, hH, ra⟩ := lstP_ok s1 r1 e
  have key : ∀ Hb2 H2 P2, Gx Hb1 Hb2 → Sit K Hb2 H2 P2 → gdOf w ws P2 → ∃ us, H2 a = some (.lst us) ∧ RlA K Hb2 ws us := fun Hb2 H2 P2 e2 s2 gd => by
    cases r1 with
    | lst ea rl =>
      have e3 : lstP P1 (.lst _) = some ws := e
      cases e3
      exact ⟨_, s2.ex _ _ (e2 _ _ ea), rl.mono e2⟩
    | r b =>
      have gd : P2 a = some (.lst ws) := gd
      obtain ⟨_, o, ho, so⟩ := s2.pv a _ gd
      cases so with
      | lst rl => exact ⟨_, ho, rl⟩
    | _ => cases e
  refine ⟨a, rfl, ⟨vs, SqL.of hH⟩, k (Itl K a) ws (gdOf w ws) P1 Hb1 H1 q ⟨fun i Hb2 H2 P2 e2 s2 gd hi => ?_, fun Hb2 H2 P2 e2 s2 gd => ?_, fun i Hb2 H2 P2 x H' e2 s2 gd hi y => ?_⟩ g1 s1⟩
  · obtain ⟨us, h1, h2⟩ := key Hb2 H2 P2 e2 s2 gd
    exact ⟨us, us[i]'(by rw [← h2.len]; exact hi), SqL.of h1, by simp⟩
  · obtain ⟨us, h1, h2⟩ := key Hb2 H2 P2 e2 s2 gd
    exact ⟨us, SqL.of h1, by rw [← h2.len]; exact Nat.le_refl _⟩
  · obtain ⟨us, h1, h2⟩ := key Hb2 H2 P2 e2 s2 gd
    obtain ⟨rfl, y2⟩ := y
    obtain ⟨w2, h3, h4⟩ := h2.getV (y2 us (SqL.of h1))
    exact ⟨w2, Hb2, h3, Gw.refl, s2, h4⟩⟩
def dITup (d : WE) : WI := fun G P Pi => d G P fun w P1 => match w with
  | .tup ws => Pi ws (fun _ => True) P1
  | _ => False
theorem di_tup {t : TE} {d : WE} (h : De K t d) : DI K (iTup K t) (dITup d) := ⟨fun {G P Pi} p {σ Hb H} g s R k => h.run p g s fun w P1 v Hb1 H1 p1 g1 s1 r1 => by
  cases r1 with
  | @tup a vs ws ea ra =>
    refine ⟨a, rfl, ⟨vs, SqT.of (s1.ex _ _ ea)⟩, k (Itt K a) ws (fun _ => True) P1 Hb1 H1 p1 ⟨fun i Hb2 H2 P2 e2 s2 gd hi => ?_, fun Hb2 H2 P2 e2 s2 gd => ?_, fun i Hb2 H2 P2 x H' e2 s2 gd hi y => ?_⟩ g1 s1⟩
    · exact ⟨vs, vs[i]'(by rw [← ra.len]; exact hi), SqT.of (s2.ex _ _ (e2 _ _ ea)), by simp⟩
    · exact ⟨vs, SqT.of (s2.ex _ _ (e2 _ _ ea)), by rw [← ra.len]; exact Nat.le_refl _⟩
    · obtain ⟨rfl, y2⟩ := y
      obtain ⟨w2, h3, h4⟩ := ra.getV (y2 vs (SqT.of (s2.ex _ _ (e2 _ _ ea))))
      exact ⟨w2, Hb2, h3, Gw.refl, s2, h4.mono e2⟩
  | _ => exact p1.elim⟩
def rngW (lo : Int) (n : Nat) : List Wv := (List.range n).map fun (k : Nat) => Wv.int (lo + (k : Int))
theorem rngW_get {lo : Int} {n i : Nat} (h : i < n) : (rngW lo n)[i]? = some (.int (lo + (i : Int))) := by
  unfold rngW
  rw [List.getElem?_map, List.getElem?_range h]
  rfl
theorem rngW_len {lo : Int} {n : Nat} : (rngW lo n).length = n := by simp [rngW]
theorem itr_ok {lo : Int} {n : Nat} {Hb1 : Hp} : ItOk K (Itr lo n) (rngW lo n) (fun _ => True) Hb1 :=
  ⟨fun i _ _ _ _ _ _ hi => by rw [rngW_len] at hi; exact hi, fun _ _ _ _ _ _ => by rw [rngW_len]; exact Nat.le_refl n, fun i Hb H P x H' _ s _ hi y => by
    rw [rngW_len] at hi
    obtain ⟨rfl, rfl⟩ := y
    exact ⟨_, Hb, rngW_get hi, Gw.refl, s, .int _⟩⟩
def dIRng1 (a : WA) : WI := fun G P Pi => a G P fun ws P1 => match ws with
  | [.int j] => j < 1000000 ∧ -1000000 ≤ j ∧ Pi (rngW 0 j.toNat) (fun _ => True) P1
  | _ => False
theorem di_rng1 {t : TA} {a : WA} (h : DA K t a) : DI K (iRng1 t) (dIRng1 a) := ⟨fun {G P Pi} p {σ Hb H} g s R k => h.run p g s fun ws P1 vs Hb1 H1 p1 g1 s1 r1 => by
  dsimp only at p1
  split at p1
  · rename_i j
    cases r1 with
    | cons rj rn =>
      cases rn
      cases rj
      exact ⟨j, rfl, by omega, by omega, k _ _ _ _ _ _ p1.2.2 itr_ok g1 s1⟩
  · exact p1.elim⟩
def dIRng2 (a : WA) : WI := fun G P Pi => a G P fun ws P1 => match ws with
  | [.int i, .int j] => i < 1000000 ∧ -1000000 ≤ i ∧ j < 1000000 ∧ -1000000 ≤ j ∧ Pi (rngW i (j - i).toNat) (fun _ => True) P1
  | _ => False
theorem di_rng2 {t : TA} {a : WA} (h : DA K t a) : DI K (iRng2 t) (dIRng2 a) := ⟨fun {G P Pi} p {σ Hb H} g s R k => h.run p g s fun ws P1 vs Hb1 H1 p1 g1 s1 r1 => by
  dsimp only at p1
  split at p1
  · rename_i i j
    cases r1 with
    | cons ri r2 =>
      cases r2 with
      | cons rj rn =>
        cases rn
        cases ri
        cases rj
        obtain ⟨h1, h2, h3, h4, q⟩ := p1
        exact ⟨i, j, rfl, ⟨by omega, by omega, by omega, by omega⟩, k _ _ _ _ _ _ q itr_ok g1 s1⟩
  · exact p1.elim⟩
def sgnW (l : List Nat) : List Wv := l.map fun c => .str [c]
def dIStr (d : WE) : WI := fun G P Pi => d G P fun w P1 => strP w fun l => Pi (sgnW l) (fun _ => True) P1
theorem di_str {t : TE} {d : WE} (h : De K t d) : DI K (iStr t) (dIStr d) := ⟨fun {G P Pi} p {σ Hb H} g s R k => h.run p g s fun w P1 v Hb1 H1 p1 g1 s1 r1 => by
  cases r1 with
  | str l =>
    have hl : (sgnW l).length = l.length := List.length_map _
    have hz : (S l).cps.size = l.length := rfl
    refine ⟨S l, rfl, k (Its (S l)) (sgnW l) (fun _ => True) P1 Hb1 H1 p1 ⟨fun i _ _ _ _ _ _ hi => ?_, fun _ _ _ _ _ _ => ?_, fun i Hb2 H2 P2 x H' e2 s2 gd hi y => ?_⟩ g1 s1⟩
    · show i < (S l).cps.size
      rw [hz, ← hl]
      exact hi
    · show (S l).cps.size ≤ (sgnW l).length
      rw [hz, hl]
      exact Nat.le_refl _
    · obtain ⟨rfl, c, hc, rfl⟩ := y
      have hc2 : l[i]? = some c := by
        have e : (S l).cps[i]? = l[i]? := by
          show l.toArray[i]? = l[i]?
          simp
        rw [← e]
        exact hc
      exact ⟨.str [c], Hb2, by unfold sgnW; rw [List.getElem?_map, hc2]; rfl, Gw.refl, s2, .str [c]⟩
  | _ => exact p1.elim⟩
def enumW (ws : List Wv) : List Wv := ws.zipIdx.map fun p => .tup [.int (p.2 : Int), p.1]
theorem enumW_get {ws : List Wv} {i : Nat} {w : Wv} (h : ws[i]? = some w) : (enumW ws)[i]? = some (.tup [.int (i : Int), w]) := by
  unfold enumW
  rw [List.getElem?_map, List.getElem?_zipIdx, h]
  simp
theorem enumW_len {ws : List Wv} : (enumW ws).length = ws.length := by simp [enumW]

/-! ### for -/
@[irreducible] def ForR (ws : List Wv) (gu : Pst → Prop) (gd : WG) (b : WS) (D : WD) (G : Env) (P1 : Pst) : Prop := ∃ I : Nat → Env → Pst → Prop, I 0 G P1 ∧ (∀ i G2 P2, I i G2 P2 → gu P2) ∧
  (∀ i w G2 P2, ws[i]? = some w → I i G2 P2 → gd w G2 P2 fun G3 P3 => b { D with nx := I (i + 1), ct := I (i + 1), bk := D.nx } G3 P3) ∧ ∀ G2 P2, I ws.length G2 P2 → D.nx G2 P2
def dFor (di : WI) (gd : WG) (b : WS) : WS := fun D G P => di G P fun ws gu P1 => ForR ws gu gd b D G P1
theorem ds_for {ti : TI} {tg : TG} {tb : TS} {di : WI} {gd : WG} {b : WS} {js : List Nat} (hi : DI K ti di) (hg : DGt K tg gd js) (hb : DS K tb b) : DS K (tFor ti tg tb) (dFor di gd b) := ⟨fun {G P D} p {σ Hb H} g s E k => hi.run p g s fun J ws gu P1 Hb1 H1 p1 it g1 s1 => by
  have p1 : ForR _ _ _ _ _ _ _ := p1
  unfold ForR at p1
  obtain ⟨I, h0, hgu, hs, hd⟩ := p1
  refine ⟨fun i m σ2 H2 => m = ws.length - i ∧ i ≤ ws.length ∧ ∃ G2 P2 Hb2, I i G2 P2 ∧ Gm K Hb2 G2 σ2 ∧ Sit K Hb2 H2 P2 ∧ Gw Hb P H Hb2 P2 H2 ∧ Gx Hb1 Hb2, ⟨ws.length, by simp, Nat.zero_le _, G, P1, Hb1, h0, g.mono g1.ex, s1, g1, Gx.refl _⟩, ?_⟩
  rintro i m σ2 H2 ⟨rfl, hle, G2, P2, Hb2, hI, m2, s2, g2, e2⟩
  by_cases hlt : i < ws.length
  · refine .inr ⟨it.go i Hb2 H2 P2 e2 s2 (hgu _ _ _ hI) hlt, fun σ3 H3 => i + 1 ≤ ws.length ∧ ∃ G3 P3 Hb3, I (i + 1) G3 P3 ∧ Gm K Hb3 G3 σ3 ∧ Sit K Hb3 H3 P3 ∧ Gw Hb P H Hb3 P3 H3 ∧ Gx Hb1 Hb3, ?_, ?_⟩
    · rintro σ3 H3 ⟨h1, rest⟩
      exact ⟨ws.length - (i + 1), by omega, rfl, h1, rest⟩
    · intro x H' y
      obtain ⟨w, Hb3, hw, g3, s3, r3⟩ := it.yld i Hb2 H2 P2 x H' e2 s2 (hgu _ _ _ hI) hlt y
      refine hg.run (hs i w G2 P2 hw hI) r3 (m2.mono g3.ex) s3 fun G4 P4 σ4 Hb4 H4 p4 _ g4 s4 m4 => ?_
      have gg : Gw Hb P H Hb4 P4 H4 := (g2.trans g3).trans g4
      have ee : Gx Hb1 Hb4 := (e2.trans g3.ex).trans g4.ex
      refine hb.run p4 m4 s4 ⟨?_, k.rt.go gg, k.nx.go gg, ?_⟩
      · intro G5 P5 σ5 Hb5 H5 p5 g5 s5 m5
        exact ⟨hlt, G5, P5, Hb5, p5, m5, s5, gg.trans g5, ee.trans g5.ex⟩
      · intro G5 P5 σ5 Hb5 H5 p5 g5 s5 m5
        exact ⟨hlt, G5, P5, Hb5, p5, m5, s5, gg.trans g5, ee.trans g5.ex⟩
  · have e : i = ws.length := by omega
    subst e
    exact .inl ⟨it.stop Hb2 H2 P2 e2 s2 (hgu _ _ _ hI), k.nx _ _ _ _ _ (hd G2 P2 hI) g2 s2 m2⟩⟩
/-! ### while -/
@[irreducible] def WhR (c : WT) (b : WS) (D : WD) (G : Env) (P : Pst) : Prop := ∃ (I : Env → Pst → Prop) (μ : Env → Pst → Nat), I G P ∧ ∀ G2 P2, I G2 P2 → c G2 P2 fun k P3 => if k = true then b { D with nx := fun G4 P4 => I G4 P4 ∧ μ G4 P4 < μ G2 P2, ct := fun G4 P4 => I G4 P4 ∧ μ G4 P4 < μ G2 P2, bk := D.nx } G2 P3 else D.nx G2 P3
def dWhile (c : WT) (b : WS) : WS := fun D G P => WhR c b D G P
theorem ds_while {tc : TT} {tb : TS} {c : WT} {b : WS} (hc : DT K tc c) (hb : DS K tb b) : DS K (tWhile tc tb) (dWhile c b) := ⟨fun {G P D} p {σ Hb H} g s E k => by
  have p : WhR _ _ _ _ _ := p
  unfold WhR at p
  obtain ⟨I, μ, h0, hs⟩ := p
  refine ⟨fun m σ2 H2 => ∃ G2 P2 Hb2, m = μ G2 P2 ∧ I G2 P2 ∧ Gm K Hb2 G2 σ2 ∧ Sit K Hb2 H2 P2 ∧ Gw Hb P H Hb2 P2 H2, ⟨μ G P, G, P, Hb, rfl, h0, g, s, Gw.refl⟩, ?_⟩
  rintro m σ2 H2 ⟨G2, P2, Hb2, rfl, hI, m2, s2, g2⟩
  refine hc.run (hs G2 P2 hI) m2 s2 fun q P3 Hb3 H3 p3 g3 s3 => ?_
  have gg : Gw Hb P H Hb3 P3 H3 := g2.trans g3
  cases q with
  | true =>
    rw [if_pos rfl] at p3 ⊢
    refine ⟨fun σ4 H4 => ∃ G4 P4 Hb4, (I G4 P4 ∧ μ G4 P4 < μ G2 P2) ∧ Gm K Hb4 G4 σ4 ∧ Sit K Hb4 H4 P4 ∧ Gw Hb P H Hb4 P4 H4, ?_, ?_⟩
    · rintro σ4 H4 ⟨G4, P4, Hb4, ⟨q1, q2⟩, m4, s4, g4⟩
      exact ⟨μ G4 P4, q2, G4, P4, Hb4, rfl, q1, m4, s4, g4⟩
    · refine hb.run p3 (m2.mono g3.ex) s3 ⟨?_, k.rt.go gg, k.nx.go gg, ?_⟩
      · intro G5 P5 σ5 Hb5 H5 p5 g5 s5 m5
        exact ⟨G5, P5, Hb5, p5, m5, s5, gg.trans g5⟩
      · intro G5 P5 σ5 Hb5 H5 p5 g5 s5 m5
        exact ⟨G5, P5, Hb5, p5, m5, s5, gg.trans g5⟩
  | false =>
    rw [if_neg Bool.false_ne_true] at p3 ⊢
    exact k.nx _ _ _ _ _ p3 gg s3 (m2.mono g3.ex)⟩
/-! ### comprehensions -/
def dYes : WT := fun _ P Po => Po true P
theorem dt_yes : DT K tYes dYes := ⟨fun p _ _ _ _ s _ k => k.here s p⟩
@[irreducible] def LcR (ws : List Wv) (gu : Pst → Prop) (gd : WG) (dt : WT) (de : WE) (G : Env) (P1 : Pst) (Po : Wv → Pst → Prop) : Prop := ∃ I : Nat → List Wv → Pst → Prop, I 0 [] P1 ∧ (∀ i acc P2, I i acc P2 → gu P2 ∧ acc.length < 100000) ∧
  (∀ i w acc P2, ws[i]? = some w → I i acc P2 → gd w G P2 fun G3 P3 => dt G3 P3 fun b P4 => if b = true then de G3 P4 fun y P5 => I (i + 1) (acc ++ [y]) P5 else I (i + 1) acc P4) ∧ ∀ acc P2, I ws.length acc P2 → Po (.lst acc) P2
def dLc (di : WI) (gd : WG) (dt : WT) (de : WE) (vs : List Nat) : WE := fun G P Po => di G P fun ws gu P1 => LcR ws gu gd dt de (wipeW G vs) P1 Po
theorem de_lc {ti : TI} {tg : TG} {tt : TT} {te : TE} {di : WI} {gd : WG} {dt : WT} {de : WE} {js vs : List Nat} (hi : DI K ti di) (hg : DGt K tg gd js) (ht : DT K tt dt) (he : De K te de) (hj : ∀ j ∈ js, j ∈ vs) : De K (tLc ti tg tt te vs) (dLc di gd dt de vs) := ⟨fun {G P Po} p {σ Hb H} g s Q k => hi.run p g s fun J ws gu P1 Hb1 H1 p1 it g1 s1 => by
  have p1 : LcR _ _ _ _ _ _ _ _ := p1
  unfold LcR at p1
  obtain ⟨I, h0, hgu, hs, hd⟩ := p1
  intro D hD
  obtain ⟨hbD, hPD⟩ := s1.free hD
  refine ⟨fun i m H2 => m = ws.length - i ∧ i ≤ ws.length ∧ ∃ acc us P2 Hb2, I i acc P2 ∧ Sit K Hb2 H2 P2 ∧ H2 D = some (.lst us) ∧ RlA K Hb2 acc us ∧ Hb2 D = none ∧ P2 D = none ∧ Gx Hb1 Hb2 ∧ Gw Hb P H Hb2 P2 H2, ⟨ws.length, by simp, Nat.zero_le _, [], [], P1, Hb1, h0, s1.aside hbD hPD, upd_same, .nil, hbD, hPD, Gx.refl _, g1.trans ⟨Gx.refl _, fun b o q1 q2 q3 => ⟨by rw [upd_ne (ne_of_none q1 hD)]; exact q1, q2, q3⟩⟩⟩, ?_⟩
  rintro i m H2 ⟨rfl, hle, acc, us, P2, Hb2, hI, s2, hD2, ra, hb2, hp2, e2, g2⟩
  by_cases hlt : i < ws.length
  · refine .inr ⟨it.go i Hb2 H2 P2 e2 s2 (hgu _ _ _ hI).1 hlt, fun H3 => i + 1 ≤ ws.length ∧ ∃ acc us P3 Hb3, I (i + 1) acc P3 ∧ Sit K Hb3 H3 P3 ∧ H3 D = some (.lst us) ∧ RlA K Hb3 acc us ∧ Hb3 D = none ∧ P3 D = none ∧ Gx Hb1 Hb3 ∧ Gw Hb P H Hb3 P3 H3, ?_, ?_⟩
    · rintro H3 ⟨h1, rest⟩
      exact ⟨ws.length - (i + 1), by omega, rfl, h1, rest⟩
    · intro x H' y
      obtain ⟨w, Hb3, hw, g3, s3, r3⟩ := it.yld i Hb2 H2 P2 x H' e2 s2 (hgu _ _ _ hI).1 hlt y
      obtain ⟨hD3, hb3, hp3⟩ := g3.fr D _ hD2 hb2 hp2
      have m0 : Gm K Hb3 (wipeW G vs) (wipe σ vs) := ((g.mono g1.ex).mono (e2.trans g3.ex)).wipe vs
      refine hg.run (hs i w acc P2 hw hI) r3 m0 s3 fun G4 P4 σ4 Hb4 H4 p4 w4 g4 s4 m4 => ?_
      obtain ⟨hD4, hb4, hp4⟩ := g4.fr D _ hD3 hb3 hp3
      refine ⟨(w4 vs hj).trans (wipe_wipe σ vs), ?_⟩
      refine ht.run p4 m4 s4 fun b P5 Hb5 H5 p5 g5 s5 => ?_
      obtain ⟨hD5, hb5, hp5⟩ := g5.fr D _ hD4 hb4 hp4
      have gg : Gw Hb P H Hb5 P5 H5 := ((g2.trans g3).trans g4).trans g5
      have ee : Gx Hb2 Hb5 := (g3.ex.trans g4.ex).trans g5.ex
      cases b with
      | true =>
        rw [if_pos rfl] at p5 ⊢
        refine he.run p5 (m4.mono g5.ex) s5 fun z P6 vz Hb6 H6 p6 g6 s6 r6 => ?_
        obtain ⟨hD6, hb6, hp6⟩ := g6.fr D _ hD5 hb5 hp5
        have g7 : Gw Hb P H Hb6 P6 (upd H6 D (.lst (us ++ [vz]))) := by
          have ga : Gw Hb P H Hb6 P6 H6 := gg.trans g6
          refine ⟨ga.ex, fun c o q1 q2 q3 => ?_⟩
          obtain ⟨z1, z2, z3⟩ := ga.fr c o q1 q2 q3
          refine ⟨?_, z2, z3⟩
          rw [upd_ne]
          · exact z1
          · intro hc
            obtain ⟨y1, _, _⟩ := g1.fr c o q1 q2 q3
            rw [hc, hD] at y1
            cases y1
        refine ⟨us, hD6, ?_, hlt, acc ++ [z], us ++ [vz], P6, Hb6, p6, s6.aside hb6 hp6, upd_same, (ra.mono (ee.trans g6.ex)).append (.cons r6 .nil), hb6, hp6, (e2.trans ee).trans g6.ex, g7⟩
        rw [← ra.len]
        exact Nat.lt_of_lt_of_le (hgu _ _ _ hI).2 (by decide)
      | false =>
        rw [if_neg Bool.false_ne_true] at p5 ⊢
        exact ⟨hlt, acc, us, P5, Hb5, p5, s5, hD5, ra.mono ee, hb5, hp5, e2.trans ee, gg⟩
  · have e : i = ws.length := by omega
    subst e
    refine .inl ⟨it.stop Hb2 H2 P2 e2 s2 (hgu _ _ _ hI).1, ?_⟩
    have s3 : Sit K (upd Hb2 D (.lst us)) H2 P2 := ⟨fun c o q => by
      by_cases hc : c = D
      · subst hc
        rw [upd_same] at q
        cases q
        exact hD2
      · rw [upd_ne hc] at q
        exact s2.ex c o q, fun c so q => by
      have hc : c ≠ D := ne_ofP q hp2
      obtain ⟨h1, o, h2, h3⟩ := s2.pv c so q
      exact ⟨by rw [upd_ne hc]; exact h1, o, h2, h3.mono (Gx.new hb2)⟩⟩
    have g3 : Gw Hb P H (upd Hb2 D (.lst us)) P2 H2 := ⟨g2.ex.trans (Gx.new hb2), fun c o q1 q2 q3 => by
      obtain ⟨z1, z2, z3⟩ := g2.fr c o q1 q2 q3
      refine ⟨z1, ?_, z3⟩
      rw [upd_ne]
      · exact z2
      · intro hc
        obtain ⟨y1, _, _⟩ := g1.fr c o q1 q2 q3
        rw [hc, hD] at y1
        cases y1⟩
    exact k _ _ _ _ _ (hd acc P2 hI) g3 s3 (.lst upd_same (ra.mono (Gx.new hb2)))⟩
end
end Fc
namespace Fc
open PySem PySem.Spec PyProof.Rows L2
/-! ### defs and their promises -/
def SubP (P1 P : Pst) : Prop := ∀ a so, P1 a = some so → P a = some so
theorem SubP.refl (P : Pst) : SubP P P := fun _ _ h => h
theorem SubP.new {P P' : Pst} {p : Addr} {so : SO} (h : P p = none) (s : SubP P P') : SubP P (updP P' p so) := fun a o e => by
  have q : a ≠ p := ne_ofP e h
  rw [updP_ne q]
  exact s a o e
theorem SubP.upd {P P' : Pst} {p : Addr} {so : SO} (s : SubP P P') : SubP (updP P p so) (updP P' p so) := fun a o e => by
  by_cases q : a = p
  · subst q
    rw [updP_same] at e ⊢
    exact e
  · rw [updP_ne q] at e ⊢
    exact s a o e
def finP (Po : Wv → Pst → Prop) (w : Wv) (P' : Pst) : Prop := ∃ P1, SubP P1 P' ∧ Po w P1
def finD (Po : Wv → Pst → Prop) : WD := ⟨fun _ P' => finP Po .non P', finP Po, fun _ _ => False, fun _ _ => False⟩
theorem fin_here {Po : Wv → Pst → Prop} {w : Wv} {P : Pst} (h : Po w P) : finP Po w P := ⟨P, SubP.refl P, h⟩
def startW (N : List Str) (ws : List Wv) : Env := ws.map some ++ List.replicate (N.length - ws.length) none
theorem start_gm {K : PySem.W.Frag} {Hb : Hp} {N : List Str} {ws : List Wv} {vs : List V} (r : RlA K Hb ws vs) : Gm K Hb (startW N ws) (L2.start N vs) := by
  unfold startW L2.start
  refine ⟨by rw [List.length_append, List.length_append, List.length_map, List.length_map, r.len, List.length_replicate, List.length_replicate], fun i w h => ?_⟩
  by_cases hi : i < ws.length
  · rw [List.getElem?_append_left (by rw [List.length_map]; exact hi), List.getElem?_map] at h
    cases e : ws[i]? with
    | none => rw [e] at h; cases h
    | some w2 =>
      rw [e] at h
      cases h
      obtain ⟨v, h1, h2⟩ := r.get e
      refine ⟨v, ?_, h2⟩
      rw [List.getElem?_append_left (by rw [List.length_map, ← r.len]; exact hi), List.getElem?_map, h1]
      rfl
  · rw [List.getElem?_append_right (by rw [List.length_map]; omega)] at h
    obtain ⟨_, h2⟩ := List.getElem?_eq_some_iff.mp h
    rw [List.getElem_replicate] at h2
    cases h2
section
variable {P : Program} {w : World} {K : PySem.W.Frag} {mg : Str → Option Value} {base : Heap}
theorem ko_fin {Hb H : Hp} {Ps : Pst} {Po : Wv → Pst → Prop} {Q : VK} (k : Ko K Hb Ps H Po Q) : Ko K Hb Ps H (finP Po) Q := fun w P' v Hb' H' p g s r => by
  obtain ⟨P1, sub, q⟩ := p
  exact k w P1 v Hb' H' q (g.drop sub) (s.drop sub) r
theorem fnW {x qual : Str} {st : Stmt} {f : Addr} {fd : FuncData} {N ps : List Str} {k : Nat} {s : WSp} (F : FunD K x qual (defArgs st) (defBody st) (defScope st) [] [] f fd) (S : FnScope N ps (defScope st)) (len : ∀ ws Ps Po, s ws Ps Po → ws.length = ps.length)
    (hbody : ∀ (cdv : Value) (A : Around) (outer : List PySem.Env) (sh : Shared) (H : Hp) (E : XK), Room k (A.deeper (envOfC qual (defScope st) sh.heap.objs.size f cdv)) →
      ∃ t d, PSs (cxOf CX0 P w K mg base N qual (defScope st) f cdv A outer sh H E).nox (defBody st) t ∧ DS K t d ∧ ∀ ws Ps Po, s ws Ps Po → d (finD Po) (startW N ws) Ps) : FnOk P w K mg base CX0 (k + 1) f fd ps (spOf K s) := by
  refine F.ok S (fun vs H Q E h => ?_) (fun cdv A outer sh H vs Q E hr h => ?_)
  · obtain ⟨Hb, Ps, ws, Po, r, _, h, _⟩ := h
    rw [← r.len]
    exact len ws Ps Po h
  · obtain ⟨Hb, Ps, ws, Po, r, sit, h, ko⟩ := h
    obtain ⟨t, d, h1, h2, h3⟩ := hbody cdv A outer sh H E hr
    refine ⟨t, h1.nox, ?_⟩
    refine h2.run (h3 ws Ps Po h) (start_gm r) sit ⟨?_, ko_fin ko, fun _ _ _ _ _ p => p.elim, fun _ _ _ _ _ p => p.elim⟩
    intro G' P' σ' Hb' H' p g s' m
    exact ko_fin ko .non P' .non Hb' H' p g s' .non
/-- a def of the module -/
structure Cl (P : Program) (w : World) (K : PySem.W.Frag) (mg : Str → Option Value) (base : Heap) (k : Nat) (x : Str) (s : WSp) : Prop where
  ex : ∃ (f : Addr) (fd : FuncData) (ps : List Str), FnOk P w K mg base CX0 k f fd ps (spOf K s) ∧ mg x = some (.ref f) ∧ PySem.W.keepIn K (.ref f) = true ∧ Binds K fd ps []
/-- a method -/
structure Mt (P : Program) (w : World) (K : PySem.W.Frag) (mg : Str → Option Value) (base : Heap) (k : Nat) (C : Addr) (m : Str) (s : WSp) : Prop where
  ex : ∃ (f : Addr) (fd : FuncData) (ps : List Str), Cls K C ∧ Meth K C m f ∧ FnOk P w K mg base CX0 k f fd ps (spOf K s) ∧ Binds K fd ps []
/-- a class made -/
structure Mq (P : Program) (w : World) (K : PySem.W.Frag) (mg : Str → Option Value) (base : Heap) (k : Nat) (x : Str) (C : Addr) (s : WSp) : Prop where
  ex : ∃ (f : Addr) (fd : FuncData) (ps : List Str), Mk K C f ∧ FnOk P w K mg base CX0 k f fd ps (spOf K s) ∧ mg x = some (.ref C) ∧ Binds K fd ps []
theorem cl_of {x : Str} {st : Stmt} {f : Addr} {fd : FuncData} {N ps : List Str} {k : Nat} {s : WSp} (F : FunD K x x (defArgs st) (defBody st) (defScope st) [] [] f fd) (m : mg x = some (.ref f)) (S : FnScope N ps (defScope st)) (len : ∀ ws Ps Po, s ws Ps Po → ws.length = ps.length)
    (b : ∀ (kV doc pm : Value) (an : Option Addr) (cdv ct : Value) (us : List Value), us.length = ps.length → bindArgs (PySem.W.fnOf x x (defArgs st) (defBody st) (defScope st) .none kV doc pm an cdv ct) ⟨us, []⟩ = pure (ps.zip us))
    (hbody : ∀ (cdv : Value) (A : Around) (outer : List PySem.Env) (sh : Shared) (H : Hp) (E : XK), Room k (A.deeper (envOfC x (defScope st) sh.heap.objs.size f cdv)) →
      ∃ t d, PSs (cxOf CX0 P w K mg base N x (defScope st) f cdv A outer sh H E).nox (defBody st) t ∧ DS K t d ∧ ∀ ws Ps Po, s ws Ps Po → d (finD Po) (startW N ws) Ps) : Cl P w K mg base (k + 1) x s :=
  ⟨f, fd, ps, fnW F S len hbody, m, F.kp, FunD.bindsN F b⟩
theorem mt_of {x qual : Str} {C : Addr} {st : Stmt} {f : Addr} {fd : FuncData} {N ps : List Str} {k : Nat} {s : WSp} (F : FunD K x qual (defArgs st) (defBody st) (defScope st) [] [] f fd) (c : Cls K C) (m : Meth K C x f) (S : FnScope N ps (defScope st)) (len : ∀ ws Ps Po, s ws Ps Po → ws.length = ps.length)
    (b : ∀ (kV doc pm : Value) (an : Option Addr) (cdv ct : Value) (us : List Value), us.length = ps.length → bindArgs (PySem.W.fnOf x qual (defArgs st) (defBody st) (defScope st) .none kV doc pm an cdv ct) ⟨us, []⟩ = pure (ps.zip us))
    (hbody : ∀ (cdv : Value) (A : Around) (outer : List PySem.Env) (sh : Shared) (H : Hp) (E : XK), Room k (A.deeper (envOfC qual (defScope st) sh.heap.objs.size f cdv)) →
      ∃ t d, PSs (cxOf CX0 P w K mg base N qual (defScope st) f cdv A outer sh H E).nox (defBody st) t ∧ DS K t d ∧ ∀ ws Ps Po, s ws Ps Po → d (finD Po) (startW N ws) Ps) : Mt P w K mg base (k + 1) C x s :=
  ⟨f, fd, ps, c, m, fnW F S len hbody, FunD.bindsN F b⟩
theorem mq_of {x qual : Str} {C : Addr} {st : Stmt} {f : Addr} {fd : FuncData} {N ps : List Str} {k : Nat} {s : WSp} (F : FunD K "__init__" qual (defArgs st) (defBody st) (defScope st) [] [] f fd) (m : mg x = some (.ref C)) (M : Mk K C f) (S : FnScope N ps (defScope st)) (len : ∀ ws Ps Po, s ws Ps Po → ws.length = ps.length)
    (b : ∀ (kV doc pm : Value) (an : Option Addr) (cdv ct : Value) (us : List Value), us.length = ps.length → bindArgs (PySem.W.fnOf "__init__" qual (defArgs st) (defBody st) (defScope st) .none kV doc pm an cdv ct) ⟨us, []⟩ = pure (ps.zip us))
    (hbody : ∀ (cdv : Value) (A : Around) (outer : List PySem.Env) (sh : Shared) (H : Hp) (E : XK), Room k (A.deeper (envOfC qual (defScope st) sh.heap.objs.size f cdv)) →
      ∃ t d, PSs (cxOf CX0 P w K mg base N qual (defScope st) f cdv A outer sh H E).nox (defBody st) t ∧ DS K t d ∧ ∀ ws Ps Po, s ws Ps Po → d (finD Po) (startW N ws) Ps) : Mq P w K mg base (k + 1) x C s :=
  ⟨f, fd, ps, M, fnW F S len hbody, m, FunD.bindsN F b⟩
end
section
variable {X : Cx} {k j : Nat} {C : Addr} {x m : Str} {s : WSp} {p pos apos : Pos} {e o : Expr} {es : List Expr} {ta : TE} {t : TA}
theorem pe_cl (c : Cl X.prog X.w X.K X.mg X.base k x s) (hr : Room j X.A) (hk : k ≤ j) (hg : Gl X x) (ha : PA X (e :: es) t)
    (hdb : (x == ("__debug__" : Str)) = false := by decide) (he : starEach (e :: es) X.env = (false, eval e X.env) :: starEach es X.env := by rfl) (hpl : (backTo pos (starEach es X.env)).any (·.1) = false := by rfl) :
    PE X (.Call (.Name x p) (e :: es) [] pos) (tCall (spOf X.K s) [] E0 t) := by
  obtain ⟨f, fd, ps, F, hm, kp, b⟩ := c.ex
  exact pe_call F (hr.mono hk) hg hm kp b .nil pass0 ha hdb he hpl
theorem pe_cl0 (c : Cl X.prog X.w X.K X.mg X.base k x s) (hr : Room j X.A) (hk : k ≤ j) (hg : Gl X x)
    (hdb : (x == ("__debug__" : Str)) = false := by decide) :
    PE X (.Call (.Name x p) [] [] pos) (tCall (spOf X.K s) [] E0 tNil) := by
  obtain ⟨f, fd, ps, F, hm, kp, b⟩ := c.ex
  exact pe_call0 F (hr.mono hk) hg hm kp b .nil pass0 hdb
theorem pe_mq (c : Mq X.prog X.w X.K X.mg X.base k x C s) (hr : Room j X.A) (hk : k + 1 ≤ j) (hg : Gl X x) (ha : PA X (e :: es) t)
    (hdb : (x == ("__debug__" : Str)) = false := by decide) (he : starEach (e :: es) X.env = (false, eval e X.env) :: starEach es X.env := by rfl) (hpl : (backTo pos (starEach es X.env)).any (·.1) = false := by rfl) :
    PE X (.Call (.Name x p) (e :: es) [] pos) (tMake C (spOf X.K s) [] E0 t) := by
  obtain ⟨f, fd, ps, M, F, hm, b⟩ := c.ex
  exact pe_make M F (hr.mono hk) hg hm b .nil pass0 ha hdb he hpl
theorem pe_mtd {pl : Sem Bool} (c : Mt X.prog X.w X.K X.mg X.base k C m s) (hr : Room j X.A) (hk : k ≤ j) (he : PE X o ta) (ha : PA X (e :: es) t)
    (hst : starEach (e :: es) X.env = (false, eval e X.env) :: starEach es X.env := by rfl) (hpl : (backTo pos (starEach es X.env)).any (·.1) = false := by rfl)
    (ht : eval (.Call (.Attribute o m apos) (e :: es) [] pos) X.env = (do
      let ov ← eval o X.env
      standAt apos.atName
      let (f, first) ← holding [ov] (getMethod ov m pl)
      callWith pos f first (backTo pos (starEach (e :: es) X.env)) (backToKw pos (keywordEach [] X.env))) := by rfl) :
    PE X (.Call (.Attribute o m apos) (e :: es) [] pos) (tMeth C m (spOf X.K s) [] E0 ta t) := by
  obtain ⟨f, fd, ps, hc, hm, F, b⟩ := c.ex
  exact pe_meth (pl := pl) he hc hm F (hr.mono hk) b .nil pass0 ha hst hpl ht
theorem pe_mtd0 {pl : Sem Bool} (c : Mt X.prog X.w X.K X.mg X.base k C m s) (hr : Room j X.A) (hk : k ≤ j) (he : PE X o ta)
    (ht : eval (.Call (.Attribute o m apos) [] [] pos) X.env = (do
      let ov ← eval o X.env
      standAt apos.atName
      let (f, first) ← holding [ov] (getMethod ov m pl)
      callWith pos f first (backTo pos (starEach [] X.env)) (backToKw pos (keywordEach [] X.env))) := by rfl) :
    PE X (.Call (.Attribute o m apos) [] [] pos) (tMeth C m (spOf X.K s) [] E0 ta tNil) := by
  obtain ⟨f, fd, ps, hc, hm, F, b⟩ := c.ex
  exact pe_meth0 (pl := pl) he hc hm F (hr.mono hk) b .nil pass0 ht
/-- a constant of the module -/
theorem pe_gs {z : Str} (hg : Gl X x) (h : ∃ t, X.mg x = some (.str z t)) (hd : (x == ("__debug__" : Str)) = false := by decide) : PE X (.Name x pos) (tC (.str z)) := by
  obtain ⟨t, h⟩ := h
  exact pe_glob hg h ⟨t, rfl⟩ hd
theorem pe_gi {i : Int} (hg : Gl X x) (h : ∃ t, X.mg x = some (.int i t)) (hd : (x == ("__debug__" : Str)) = false := by decide) : PE X (.Name x pos) (tC (.int i)) := by
  obtain ⟨t, h⟩ := h
  exact pe_glob hg h ⟨t, rfl⟩ hd
end
end Fc
namespace Fc
open PySem PySem.Spec PyProof.Rows L2
def cLT : List Nat := [97, 98, 99, 100, 101, 102, 103, 104, 105, 106, 107, 108, 109, 110, 111, 112, 113, 114, 115, 116, 117, 118, 119, 120, 121, 122]
def cAB : List Nat := [32, 33, 34, 35, 36, 38, 39, 40, 41, 42, 43, 44, 45, 46, 47, 48, 49, 50, 51, 52, 53, 54, 55, 56, 57, 58, 59, 60, 61, 62, 63, 64, 65, 66, 67, 68, 69, 70, 71, 72, 73, 74, 75, 76, 77, 78, 79, 80, 81, 82, 83, 84, 85, 86, 87, 88, 89, 90, 91, 92, 93, 94, 95, 96, 97, 98, 99, 100, 101, 102, 103, 104, 105, 106, 107, 108, 109, 110, 111, 112, 113, 114, 115, 116, 117, 118, 119, 120, 121, 122, 123, 124, 125, 126]
def cDG : List Nat := [48, 49, 50, 51, 52, 53, 54, 55, 56, 57]
theorem k0 : ("abcdefghijklmnopqrstuvwxyz" : Str) = S cLT := by decide +kernel
theorem k1 : ("-" : Str) = S [45] := by decide +kernel
theorem k2 : (" !\"#$&'()*+,-./0123456789:;<=>?@ABCDEFGHIJKLMNOPQRSTUVWXYZ[\\]^_`abcdefghijklmnopqrstuvwxyz{|}~" : Str) = S cAB := by decide +kernel
theorem k3 : (" " : Str) = S [32] := by decide +kernel
theorem k4 : ("'" : Str) = S [39] := by decide +kernel
theorem k5 : ("\"" : Str) = S [34] := by decide +kernel
theorem k6 : ("\\" : Str) = S [92] := by decide +kernel
theorem k7 : ("0123456789" : Str) = S cDG := by decide +kernel
theorem k8 : ("--" : Str) = S [45, 45] := by decide +kernel
theorem k9 : ("=" : Str) = S [61] := by decide +kernel
theorem k10 : ("int" : Str) = S [105, 110, 116] := by decide +kernel
theorem k11 : ("choice" : Str) = S [99, 104, 111, 105, 99, 101] := by decide +kernel
theorem k12 : ("word" : Str) = S [119, 111, 114, 100] := by decide +kernel
theorem k13 : ("options" : Str) = S [111, 112, 116, 105, 111, 110, 115] := by decide +kernel
theorem k14 : ("" : Str) = S [] := by decide +kernel
theorem k15 : ("grammar" : Str) = S [103, 114, 97, 109, 109, 97, 114] := by decide +kernel
theorem k16 : ("positionals" : Str) = S [112, 111, 115, 105, 116, 105, 111, 110, 97, 108, 115] := by decide +kernel
theorem k17 : ("clauses" : Str) = S [99, 108, 97, 117, 115, 101, 115] := by decide +kernel
theorem k18 : ("0" : Str) = S [48] := by decide +kernel
theorem k19 : ("ab" : Str) = S [97, 98] := by decide +kernel
theorem k20 : (" '\"\\" : Str) = S [32, 39, 34, 92] := by decide +kernel
theorem k21 : ("a '\"\\b" : Str) = S [97, 32, 39, 34, 92, 98] := by decide +kernel
theorem k22 : ("-=a" : Str) = S [45, 61, 97] := by decide +kernel
theorem k23 : ("fast" : Str) = S [102, 97, 115, 116] := by decide +kernel
theorem k24 : ("full" : Str) = S [102, 117, 108, 108] := by decide +kernel
theorem k25 : ("f" : Str) = S [102] := by decide +kernel
theorem k26 : ("slow" : Str) = S [115, 108, 111, 119] := by decide +kernel
theorem k27 : ("s" : Str) = S [115] := by decide +kernel
theorem k28 : ("sl" : Str) = S [115, 108] := by decide +kernel
theorem k29 : ("off" : Str) = S [111, 102, 102] := by decide +kernel
theorem k30 : ("all" : Str) = S [97, 108, 108] := by decide +kernel
theorem k31 : ("a" : Str) = S [97] := by decide +kernel
theorem k32 : ("beta" : Str) = S [98, 101, 116, 97] := by decide +kernel
theorem k33 : ("bet" : Str) = S [98, 101, 116] := by decide +kernel
theorem k34 : ("c-d" : Str) = S [99, 45, 100] := by decide +kernel
theorem k35 : ("color" : Str) = S [99, 111, 108, 111, 114] := by decide +kernel
theorem k36 : ("key" : Str) = S [107, 101, 121] := by decide +kernel
theorem k37 : ("keys" : Str) = S [107, 101, 121, 115] := by decide +kernel
theorem k38 : ("level" : Str) = S [108, 101, 118, 101, 108] := by decide +kernel
theorem k39 : ("mode" : Str) = S [109, 111, 100, 101] := by decide +kernel
theorem k40 : ("l" : Str) = S [108] := by decide +kernel
theorem k41 : ("zed" : Str) = S [122, 101, 100] := by decide +kernel
theorem k42 : ("abckklmz" : Str) = S [97, 98, 99, 107, 107, 108, 109, 122] := by decide +kernel
theorem k43 : ("needs" : Str) = S [110, 101, 101, 100, 115] := by decide +kernel
theorem k44 : ("excludes" : Str) = S [101, 120, 99, 108, 117, 100, 101, 115] := by decide +kernel
theorem k45 : ("either" : Str) = S [101, 105, 116, 104, 101, 114] := by decide +kernel
theorem k46 : ("unknown" : Str) = S [117, 110, 107, 110, 111, 119, 110] := by decide +kernel
theorem k47 : ("repeated" : Str) = S [114, 101, 112, 101, 97, 116, 101, 100] := by decide +kernel
theorem k48 : ("value" : Str) = S [118, 97, 108, 117, 101] := by decide +kernel
theorem k49 : ("ambiguous" : Str) = S [97, 109, 98, 105, 103, 117, 111, 117, 115] := by decide +kernel
theorem k50 : ("-abcdefghijklmnopqrstuvwxyz" : Str) = S [45, 97, 98, 99, 100, 101, 102, 103, 104, 105, 106, 107, 108, 109, 110, 111, 112, 113, 114, 115, 116, 117, 118, 119, 120, 121, 122] := by decide +kernel
theorem k51 : ("x" : Str) = S [120] := by decide +kernel
theorem k52 : ("-5" : Str) = S [45, 53] := by decide +kernel
theorem k53 : ("-ab" : Str) = S [45, 97, 98] := by decide +kernel
theorem k54 : ("--a=1" : Str) = S [45, 45, 97, 61, 49] := by decide +kernel
theorem k55 : ("--key" : Str) = S [45, 45, 107, 101, 121] := by decide +kernel
theorem k56 : ("y z" : Str) = S [121, 32, 122] := by decide +kernel
theorem k57 : ("invalid " : Str) = S [105, 110, 118, 97, 108, 105, 100, 32] := by decide +kernel
theorem k58 : (" at index " : Str) = S [32, 97, 116, 32, 105, 110, 100, 101, 120, 32] := by decide +kernel
theorem k59 : ("invalid line at index " : Str) = S [105, 110, 118, 97, 108, 105, 100, 32, 108, 105, 110, 101, 32, 97, 116, 32, 105, 110, 100, 101, 120, 32] := by decide +kernel
theorem k60 : ("invalid token " : Str) = S [105, 110, 118, 97, 108, 105, 100, 32, 116, 111, 107, 101, 110, 32] := by decide +kernel
theorem k61 : (" at token " : Str) = S [32, 97, 116, 32, 116, 111, 107, 101, 110, 32] := by decide +kernel
theorem k62 : ("invalid argument " : Str) = S [105, 110, 118, 97, 108, 105, 100, 32, 97, 114, 103, 117, 109, 101, 110, 116, 32] := by decide +kernel
/-! ### steps of a reading -/
theorem st_opt {α : Type} {o : Option α} {x : α} {k : α → Prop} (e : o = some x) (h : k x) : OptP o k := ⟨x, e, h⟩
theorem iteB {c : Bool} {A B : Prop} (h1 : c = true → A) (h2 : c = false → B) : if c = true then A else B := by
  cases c with
  | true => rw [if_pos rfl]; exact h1 rfl
  | false => rw [if_neg Bool.false_ne_true]; exact h2 rfl
theorem iteY {c : Bool} {A B : Prop} (h : c = true) (a : A) : if c = true then A else B := by rw [if_pos h]; exact a
theorem iteN {c : Bool} {A B : Prop} (h : c = false) (b : B) : if c = true then A else B := by rw [h, if_neg Bool.false_ne_true]; exact b
theorem e_len {P : Pst} {l : List Nat} (h : l.length ≤ 1000) : fLen P [.str l] = some (.int (l.length : Int)) := by
  unfold fLen f1 lenW
  simp only
  rw [if_pos (Nat.le_trans h (by decide))]
  rfl
theorem e_addS {P : Pst} {i j : List Nat} (h : i.length + j.length ≤ 1000) : fAddS P (.str i) (.str j) = some (.str (i ++ j)) := if_pos (Nat.le_trans h (by decide))
theorem e_ixS {P : Pst} {z : List Nat} {i : Int} {c : Nat} (h : z.length ≤ 1000) (e : atI z i = some c) : ixW P (.str z) (.int i) = some (.str [c]) := by
  unfold ixW
  simp only
  rw [if_pos (Nat.le_trans h (by decide)), e]
  rfl
theorem e_slS {P : Pst} {z : List Nat} {lo hi : Option Int} (h : z.length ≤ 1000) : fSlS P (.str z) lo hi = some (.str (cutW z lo hi)) := if_pos (Nat.le_trans h (by decide))
theorem e_mod {P : Pst} {i j : Int} (h : 0 < j) : fMod P (.int i) (.int j) = some (.int (i % j)) := if_pos h
theorem e_div {P : Pst} {i j : Int} (h : 0 < j) (h2 : j < 1000000) : fDiv P (.int i) (.int j) = some (.int (i / j)) := if_pos ⟨h, by omega⟩
theorem e_mul {P : Pst} {i j : Int} (h : CMul i j) : fMul P (.int i) (.int j) = some (.int (i * j)) := if_pos h
theorem e_cat {P : Pst} {x y : Wv} {a b : List Wv} (h1 : lstP P x = some a) (h2 : lstP P y = some b) (h : a.length + b.length ≤ 1000) : fCat P x y = some (.lst (a ++ b)) := by
  unfold fCat
  rw [h1, h2]
  exact if_pos (Nat.le_trans h (by decide))
theorem cutW_from {α : Type} (z : List α) (k : Nat) : cutW z (some (k : Int)) none = z.drop k := by
  unfold cutW
  rw [HT.sIx_nat, HT.sIx_none]
  by_cases h : k ≤ z.length
  · rw [Nat.min_eq_left h]
    exact List.take_of_length_le (by rw [List.length_drop]; exact Nat.le_refl _)
  · rw [Nat.min_eq_right (by omega), List.drop_eq_nil_of_le (show z.length ≤ k by omega), List.drop_length]
    simp
theorem cutW_to {α : Type} (z : List α) (k : Nat) : cutW z none (some (k : Int)) = z.take k := by
  unfold cutW
  rw [HT.sIx_nat, HT.sIx_none, List.drop_zero, Nat.sub_zero]
  by_cases h : k ≤ z.length
  · rw [Nat.min_eq_left h]
  · rw [Nat.min_eq_right (by omega), List.take_length, List.take_of_length_le (by omega)]
theorem cutW_mid {α : Type} (z : List α) (a b : Nat) : cutW z (some (a : Int)) (some (b : Int)) = (z.drop a).take (b - a) := by
  unfold cutW
  rw [HT.sIx_nat, HT.sIx_nat]
  by_cases h : a ≤ z.length
  · rw [Nat.min_eq_left h]
    by_cases h2 : b ≤ z.length
    · rw [Nat.min_eq_left h2]
    · rw [Nat.min_eq_right (by omega), List.take_of_length_le (by rw [List.length_drop]; exact Nat.le_refl _), List.take_of_length_le (by rw [List.length_drop]; omega)]
  · rw [Nat.min_eq_right (show z.length ≤ a by omega), List.drop_length, List.drop_eq_nil_of_le (show z.length ≤ a by omega)]
    simp
theorem atI_natL {α : Type} (z : List α) (k : Nat) : atI z (k : Int) = z[k]? := by
  unfold atI ixN
  rw [if_pos (by omega)]
  by_cases h : (k : Int) < (z.length : Int)
  · rw [if_pos h]
    simp
  · rw [if_neg h]
    simp only [Option.bind_none]
    exact (List.getElem?_eq_none (by omega)).symm
theorem atI_lastL {α : Type} (z : List α) (h : z ≠ []) : atI z (-1) = z[z.length - 1]? := by
  unfold atI ixN
  have hl : 0 < z.length := List.length_pos_iff.mpr h
  rw [if_neg (by omega), if_pos (by omega)]
  simp only [Option.bind_some]
  congr 1
  omega
/-! ### loops, by an invariant -/
theorem for_I {ws : List Wv} {gu : Pst → Prop} {gd : WG} {b : WS} {D : WD} {G : Env} {P : Pst} (I : Nat → Env → Pst → Prop) (h0 : I 0 G P) (hg : ∀ i G2 P2, I i G2 P2 → gu P2)
    (hs : ∀ i w G2 P2, ws[i]? = some w → I i G2 P2 → gd w G2 P2 fun G3 P3 => b { D with nx := I (i + 1), ct := I (i + 1), bk := D.nx } G3 P3) (hd : ∀ G2 P2, I ws.length G2 P2 → D.nx G2 P2) : ForR ws gu gd b D G P := by
  unfold ForR
  exact ⟨I, h0, hg, hs, hd⟩
theorem while_I {c : WT} {b : WS} {D : WD} {G : Env} {P : Pst} (I : Env → Pst → Prop) (μ : Env → Pst → Nat) (h0 : I G P)
    (hs : ∀ G2 P2, I G2 P2 → c G2 P2 fun k P3 => if k = true then b { D with nx := fun G4 P4 => I G4 P4 ∧ μ G4 P4 < μ G2 P2, ct := fun G4 P4 => I G4 P4 ∧ μ G4 P4 < μ G2 P2, bk := D.nx } G2 P3 else D.nx G2 P3) : WhR c b D G P := by
  unfold WhR
  exact ⟨I, μ, h0, hs⟩
theorem lc_I {ws : List Wv} {gu : Pst → Prop} {P : Pst} {gd : WG} {dt : WT} {de : WE} {G : Env} {Po : Wv → Pst → Prop} (I : Nat → List Wv → Pst → Prop) (h0 : I 0 [] P) (hg : ∀ i acc P2, I i acc P2 → gu P2 ∧ acc.length < 100000)
    (hs : ∀ i w acc P2, ws[i]? = some w → I i acc P2 → gd w G P2 fun G3 P3 => dt G3 P3 fun b P4 => if b = true then de G3 P4 fun y P5 => I (i + 1) (acc ++ [y]) P5 else I (i + 1) acc P4) (hd : ∀ acc P2, I ws.length acc P2 → Po (.lst acc) P2) : LcR ws gu gd dt de G P Po := by
  unfold LcR
  exact ⟨I, h0, hg, hs, hd⟩
/-! ### comprehensions that change nothing -/
@[irreducible] def Wx (b : Wv → Bool) (f : Wv → Wv) (ws : List Wv) (P : Pst) : Nat → List Wv → Pst → Prop := fun i acc P2 => P2 = P ∧ acc = ((ws.take i).filter b).map f
theorem wx_def {b : Wv → Bool} {f : Wv → Wv} {ws : List Wv} {P : Pst} {i : Nat} {acc : List Wv} {P2 : Pst} : Wx b f ws P i acc P2 = (P2 = P ∧ acc = ((ws.take i).filter b).map f) := by unfold Wx; rfl
theorem take_succ_get {α : Type} {ws : List α} {i : Nat} {w : α} (h : ws[i]? = some w) : ws.take (i + 1) = ws.take i ++ [w] := by
  rw [List.take_add_one, h]
  rfl
theorem wx_yes {b : Wv → Bool} {f : Wv → Wv} {ws : List Wv} {P : Pst} {i : Nat} {acc : List Wv} {w y : Wv} (h : ws[i]? = some w) (I : Wx b f ws P i acc P) (hb : b w = true) (hy : y = f w) : Wx b f ws P (i + 1) (acc ++ [y]) P := by
  rw [wx_def] at I ⊢
  refine ⟨rfl, ?_⟩
  rw [I.2, take_succ_get h, List.filter_append, List.map_append, hy]
  simp [hb]
theorem wx_no {b : Wv → Bool} {f : Wv → Wv} {ws : List Wv} {P : Pst} {i : Nat} {acc : List Wv} {w : Wv} (h : ws[i]? = some w) (I : Wx b f ws P i acc P) (hb : b w = false) : Wx b f ws P (i + 1) acc P := by
  rw [wx_def] at I ⊢
  refine ⟨rfl, ?_⟩
  rw [I.2, take_succ_get h, List.filter_append, List.map_append]
  simp [hb]
theorem lc_fm {ws : List Wv} {gu : Pst → Prop} {P : Pst} {gd : WG} {dt : WT} {de : WE} {G : Env} {Po : Wv → Pst → Prop} (b : Wv → Bool) (f : Wv → Wv) (hgu : gu P) (hl : ws.length < 100000)
    (hs : ∀ i w acc, ws[i]? = some w → Wx b f ws P i acc P → gd w G P fun G3 P3 => dt G3 P3 fun c P4 => if c = true then de G3 P4 fun y P5 => Wx b f ws P (i + 1) (acc ++ [y]) P5 else Wx b f ws P (i + 1) acc P4)
    (hd : Po (.lst ((ws.filter b).map f)) P) : LcR ws gu gd dt de G P Po := by
  unfold LcR
  refine ⟨Wx b f ws P, by rw [wx_def]; exact ⟨rfl, rfl⟩, ?_, ?_, ?_⟩
  · intro i acc P2 hI
    rw [wx_def] at hI
    obtain ⟨rfl, rfl⟩ := hI
    refine ⟨hgu, ?_⟩
    rw [List.length_map]
    have h1 := List.length_filter_le b (ws.take i)
    have h2 : (ws.take i).length ≤ ws.length := by rw [List.length_take]; exact Nat.min_le_right _ _
    omega
  · intro i w acc P2 hw hI
    have hI2 := hI
    rw [wx_def] at hI2
    have e := hI2.1
    subst e
    exact hs i w acc hw hI
  · intro acc P2 hI
    rw [wx_def] at hI
    obtain ⟨rfl, rfl⟩ := hI
    rw [List.take_length]
    exact hd
def bT : Wv → Bool := fun _ => true
theorem filter_bT (ws : List Wv) : ws.filter bT = ws := List.filter_eq_self.mpr fun _ _ => rfl
/-- no test -/
theorem lc_map {ws : List Wv} {gu : Pst → Prop} {P : Pst} {gd : WG} {dt : WT} {de : WE} {G : Env} {Po : Wv → Pst → Prop} (f : Wv → Wv) (hgu : gu P) (hl : ws.length < 100000)
    (hs : ∀ i w acc, ws[i]? = some w → Wx bT f ws P i acc P → gd w G P fun G3 P3 => dt G3 P3 fun c P4 => if c = true then de G3 P4 fun y P5 => Wx bT f ws P (i + 1) (acc ++ [y]) P5 else Wx bT f ws P (i + 1) acc P4)
    (hd : Po (.lst (ws.map f)) P) : LcR ws gu gd dt de G P Po :=
  lc_fm bT f hgu hl hs (by rw [filter_bT]; exact hd)
theorem sgnW_get {l : List Nat} {i : Nat} {w : Wv} (h : (sgnW l)[i]? = some w) : ∃ c, l[i]? = some c ∧ c ∈ l ∧ w = .str [c] := by
  unfold sgnW at h
  rw [List.getElem?_map] at h
  cases e : l[i]? with
  | none => rw [e] at h; cases h
  | some c =>
    rw [e] at h
    cases h
    exact ⟨c, rfl, List.mem_of_getElem? e, rfl⟩
theorem rngW_inv {lo : Int} {n i : Nat} {w : Wv} (h : (rngW lo n)[i]? = some w) : i < n ∧ w = .int (lo + (i : Int)) := by
  have hi : i < n := by
    have := (List.getElem?_eq_some_iff.mp h).1
    rw [rngW_len] at this
    exact this
  rw [rngW_get hi] at h
  cases h
  exact ⟨hi, rfl⟩
theorem e_all {P : Pst} {ws : List Wv} (g : Wv → Bool) : fAll P [.lst (ws.map fun w => .bl (g w))] = some (.bl (ws.all g)) := by
  have e : ws.map (fun w => Wv.bl (g w)) = (ws.map g).map Wv.bl := by rw [List.map_map]; rfl
  show ((lstP P (.lst _)).bind blsOf).map _ = _
  rw [e]
  show (blsOf ((ws.map g).map Wv.bl)).map _ = _
  rw [blsOf_map]
  show some (Wv.bl ((ws.map g).all id)) = _
  rw [List.all_map]
  rfl
end Fc
namespace Fc
open PySem PySem.Spec PyProof.Rows L2
/-! ### == of data -/
mutual
def datW : Wv → Option PyData
  | .non => some .none
  | .bl b => some (.bool b)
  | .int i => some (.int i)
  | .str l => some (.str (S l))
  | .tup ws => (datL ws).map .tuple
  | .lst ws => (datL ws).map .list
  | _ => none
def datL : List Wv → Option (List PyData)
  | [] => some []
  | w :: ws => (datW w).bind fun d => (datL ws).map fun ds => d :: ds
end
mutual
theorem dp_of {K : PySem.W.Frag} {Hb H : Hp} (e : Gx Hb H) : ∀ {w : Wv} {v : V} {d : PyData}, Rl K Hb w v → datW w = some d → Dp K H v d
  | _, _, _, .non, h => by unfold datW at h; cases h; exact .non
  | _, _, _, .bl b, h => by unfold datW at h; cases h; exact .bl b
  | _, _, _, .int i, h => by unfold datW at h; cases h; exact .int i
  | _, _, _, .str l, h => by unfold datW at h; cases h; exact .str _
  | _, _, _, @Rl.tup _ _ a vs ws ha ra, h => by
    unfold datW at h
    cases q : datL ws with
    | none => rw [q] at h; cases h
    | some ds =>
      rw [q] at h
      cases h
      exact .tup (SqT.of (e _ _ ha)) (dpA_of e ra q)
  | _, _, _, @Rl.lst _ _ a vs ws ha ra, h => by
    unfold datW at h
    cases q : datL ws with
    | none => rw [q] at h; cases h
    | some ds =>
      rw [q] at h
      cases h
      exact .lst (SqL.of (e _ _ ha)) (dpA_of e ra q)
  | _, _, _, .scr _, h => by unfold datW at h; cases h
  | _, _, _, .r _, h => by unfold datW at h; cases h
  | _, _, _, .ty _, h => by unfold datW at h; cases h
theorem dpA_of {K : PySem.W.Frag} {Hb H : Hp} (e : Gx Hb H) : ∀ {ws : List Wv} {vs : List V} {ds : List PyData}, RlA K Hb ws vs → datL ws = some ds → DpAll K H vs ds
  | _, _, _, .nil, h => by unfold datL at h; cases h; exact .nil
  | _, _, _, @RlA.cons _ _ w v ws vs r t, h => by
    unfold datL at h
    cases q : datW w with
    | none => rw [q] at h; cases h
    | some d =>
      rw [q] at h
      simp only [Option.bind_some] at h
      cases q2 : datL ws with
      | none => rw [q2] at h; cases h
      | some ds =>
        rw [q2] at h
        cases h
        exact .cons (dp_of e r q) (dpA_of e t q2)
end
def datP (P : Pst) (w : Wv) : Option PyData := match w with
  | .r a => ((asLst (P a)).bind datL).map .list
  | w => datW w
theorem datP_ok {K : PySem.W.Frag} {Hb H : Hp} {P : Pst} (s : Sit K Hb H P) {w : Wv} {v : V} {d : PyData} (r : Rl K Hb w v) (h : datP P w = some d) : Dp K H v d := by
  cases r with
  | r a =>
    have h : ((asLst (P a)).bind datL).map PyData.list = some d := h
    cases e : asLst (P a) with
    | none => rw [e] at h; cases h
    | some ws =>
      rw [e] at h
      simp only [Option.bind_some] at h
      cases q : datL ws with
      | none => rw [q] at h; cases h
      | some ds =>
        rw [q] at h
        cases h
        obtain ⟨_, o, ho, so⟩ := s.pv a _ (asLst_ok e)
        cases so with
        | lst ra => exact .lst (SqL.of ho) (dpA_of s.ex ra q)
  | non => exact dp_of s.ex .non h
  | bl b => exact dp_of s.ex (.bl b) h
  | int b => exact dp_of s.ex (.int b) h
  | str b => exact dp_of s.ex (.str b) h
  | tup ha ra => exact dp_of s.ex (.tup ha ra) h
  | lst ha ra => exact dp_of s.ex (.lst ha ra) h
  | scr ha => exact dp_of s.ex (.scr ha) h
  | ty t => exact dp_of s.ex (.ty t) h
def fEqD (n : Bool) : Pst → Wv → Wv → Option Wv := fun P x y => (datP P x).bind fun d => (datP P y).bind fun e => if SeqAt.shaped d = true ∧ SeqAt.shaped e = true then some (.bl (if n then !PyData.eqv d e else PyData.eqv d e)) else none
theorem fEqD_ok {n : Bool} {P : Pst} {x y w : Wv} (h : fEqD n P x y = some w) : ∃ d e, datP P x = some d ∧ datP P y = some e ∧ SeqAt.shaped d = true ∧ SeqAt.shaped e = true ∧ w = .bl (if n then !PyData.eqv d e else PyData.eqv d e) := by
  unfold fEqD at h
  cases q : datP P x with
  | none => rw [q] at h; cases h
  | some d =>
    cases q2 : datP P y with
    | none => rw [q, q2] at h; cases h
    | some e =>
      rw [q, q2] at h
      simp only [Option.bind_some] at h
      split at h
      · rename_i c
        cases h
        exact ⟨d, e, rfl, rfl, c.1, c.2, rfl⟩
      · cases h
section
variable {K : PySem.W.Frag}
theorem rd_eqD : RdOp K (rEqD K) (fEqD false) := fun {Hb H P x y vx vy w} s rx ry h Po Q k p => by
  obtain ⟨d, e, h1, h2, h3, h4, rfl⟩ := fEqD_ok h
  exact ⟨d, e, datP_ok s rx h1, datP_ok s ry h2, h3, h4, k.here s p (.bl _)⟩
theorem rd_neD : RdOp K (rNeD K) (fEqD true) := fun {Hb H P x y vx vy w} s rx ry h Po Q k p => by
  obtain ⟨d, e, h1, h2, h3, h4, rfl⟩ := fEqD_ok h
  exact ⟨d, e, datP_ok s rx h1, datP_ok s ry h2, h3, h4, k.here s p (.bl _)⟩
end
/-- lists of texts -/
theorem datL_strs : ∀ ls : List (List Nat), datL (ls.map .str) = some (ls.map fun l => .str (S l))
  | [] => by unfold datL; rfl
  | l :: ls => by
    rw [List.map_cons, datL, datL_strs ls, datW]
    rfl
theorem datL_len {ws : List Wv} {ds : List PyData} (h : datL ws = some ds) : ws.length = ds.length := by
  induction ws generalizing ds with
  | nil => unfold datL at h; cases h; rfl
  | cons w ws ih =>
    unfold datL at h
    cases q : datW w with
    | none => rw [q] at h; cases h
    | some d =>
      rw [q] at h
      simp only [Option.bind_some] at h
      cases q2 : datL ws with
      | none => rw [q2] at h; cases h
      | some es =>
        rw [q2] at h
        cases h
        rw [List.length_cons, List.length_cons, ih q2]
def okT (l : List Nat) : Prop := PyData.strOk (S l) = true
theorem shaped_list {ds : List PyData} (h1 : PyData.canLayAll0 ds = true) (h2 : PyData.depthAll ds ≤ 10) : SeqAt.shaped (.list ds) = true := by
  unfold SeqAt.shaped
  have e1 : (PyData.list ds).canLay0 = true := h1
  have e2 : (PyData.list ds).depth ≤ 64 := by
    unfold PyData.depth
    omega
  rw [e1, decide_eq_true e2]
  rfl
theorem canL_strs {ls : List (List Nat)} (h : ∀ l ∈ ls, okT l) : PyData.canLayAll0 (ls.map fun l => .str (S l)) = true := by
  induction ls with
  | nil => rfl
  | cons l r ih =>
    rw [List.map_cons]
    unfold PyData.canLayAll0
    rw [ih fun x hx => h x (List.mem_cons_of_mem _ hx), Bool.and_true]
    exact h l List.mem_cons_self
theorem dep_strs (ls : List (List Nat)) : PyData.depthAll (ls.map fun l => .str (S l)) = 0 := by
  induction ls with
  | nil => rfl
  | cons l r ih =>
    rw [List.map_cons]
    unfold PyData.depthAll
    rw [ih]
    rfl
theorem shaped_strs {ls : List (List Nat)} (h : ∀ l ∈ ls, okT l) : SeqAt.shaped (.list (ls.map fun l => .str (S l))) = true := shaped_list (canL_strs h) (by rw [dep_strs]; decide)
end Fc
namespace Fc
open PySem PySem.Spec PyProof.Rows L2
/-! ### enumerate of a tuple, of a text -/
theorem meets_enum1 {v : Value} {o : Obj} {H : Heap → Prop} (B : Begins v o H) :
    Meets (Builtin.«enumerate.__new__» ⟨[.type "enumerate", v], []⟩) (fun _ R s => H s.heap ∧
      R (.ok (.ret (.ref (s.heap.push o).objs.size))) { s with heap := (s.heap.push o).push { cls := .type "enumerate", data := .fields #[.none, .bool false, .ref s.heap.objs.size, rawInt 0, .none, .none] } }) :=
  .of_wp fun prog w A R s h => by
    obtain ⟨hp, g, d, tk, os⟩ := s; obtain ⟨h1, h⟩ := h
    have hsub := sub_enumerate
    have q1 : ∀ {A' : Around} {E : Value → Shared → Prop} {Q : Value → Shared → Prop}, Q (.ref hp.objs.size) ⟨hp.push o, g, d, tk, os⟩ → wpAny (model prog w) A' (pyIter v) Q E ⟨hp, g, d, tk, os⟩ :=
      fun q => B.iter prog w _ _ ⟨hp, g, d, tk, os⟩ _ h1 q
    wp_walk using q1
    refine wpAny_stack_any fun st => wpAny_pure ?_
    split
    · rename_i c _ _ _ _ _
      cases (c == Value.type "enumerate")
      · wp_walk using q1
        exact ⟨_, rfl, h⟩
      · wp_walk using q1
        exact ⟨_, rfl, h⟩
    · wp_walk using q1
      exact ⟨_, rfl, h⟩
theorem call_enum1 {prog : Program} {w : World} {A : Around} {E : Value → Shared → Prop} {s : Shared} {v : Value} {o : Obj} {H : Heap → Prop} {Q : Value → Shared → Prop} (B : Begins v o H) (h1 : H s.heap)
    (h : ∀ h', IsEnum h' (s.heap.objs.size + 1) s.heap.objs.size 0 .none → h'.get? s.heap.objs.size = some o → h'.objs.size = s.heap.objs.size + 2 →
      (∀ b o, s.heap.get? b = some o → h'.get? b = some o) → Q (.ref (s.heap.objs.size + 1)) { s with heap := h' }) :
    wpAny (model prog w) A (call (.type "enumerate") [v]) Q E s := by
  refine callType_new F.called_enumerate (by decide) (F.typeCall_enumerate_1 _) (F.newCall_enumerate_1 _) (fun obj => F.args_object_init_2 obj _) F.entry_enumerate_new
    (meets_enum1 B) ⟨h1, ?_⟩
  have hz : (s.heap.push o).objs.size = s.heap.objs.size + 1 := Heap.size_push ..
  show _ ∧ _
  rw [hz]
  have he : IsEnum ((s.heap.push o).push { cls := .type "enumerate", data := .fields #[.none, .bool false, .ref s.heap.objs.size, rawInt 0, .none, .none] }) (s.heap.objs.size + 1) s.heap.objs.size 0 .none := by
    have := Heap.get?_push_size (s.heap.push o) (o := { cls := .type "enumerate", data := .fields #[.none, .bool false, .ref s.heap.objs.size, rawInt 0, .none, .none] }) rfl
    rw [hz] at this; exact this
  refine ⟨⟨_, he, rfl⟩, h _ he (Heap.get?_push_of_some _ (Heap.get?_push_size _ B.free)) (by rw [Heap.size_push, hz]) fun b o x => Heap.get?_push_of_some _ (Heap.get?_push_of_some _ x)⟩

/-- the tuple at a, each item in a new pair -/
def IteT (a : Addr) : It :=
  ⟨fun i H => ∃ (xs : List V) (x : V), H a = some (.tup xs) ∧ xs[i]? = some x, fun i H v H' => ∃ T x, v = .ref T ∧ H T = none ∧ H' = upd H T (.tup [.int (i : Nat), x]) ∧ ∀ xs, H a = some (.tup xs) → xs[i]? = some x, fun i H => ∃ xs : List V, H a = some (.tup xs) ∧ xs.length = i⟩
theorem turn_enumT {P : Program} {w : World} {K : PySem.W.Frag} {elts : List Expr} {kk : Nat} {tpos : Pos} (a e it : Addr) :
    Turn P w K (.Tuple elts kk tpos) (IteT a) [e, it] e (fun i h => (∃ old, IsEnum h e it ((i : Nat) : Int) old) ∧ h.IsTupleIter it a i ∧ e ≠ it) where
  mem := by simp
  obj := fun i h st b hb => by
    obtain ⟨⟨old, he⟩, ⟨o, ho, hc, hd⟩, _⟩ := st
    have e' : b = e ∨ b = it := by simpa using hb
    rcases e' with z | z
    · rw [z]; exact ⟨_, he, fun v q => nomatch q⟩
    · rw [z]; exact ⟨o, ho, fun v q => by rw [hd] at q; cases q⟩
  keep := fun i h h' st k => let ⟨⟨old, he⟩, hi, hne⟩ := st; ⟨⟨old, k e (by simp) _ he⟩, hi.at fun o q => k it (by simp) o q, hne⟩
  item := by
    intro X hP hw hK hc i pins s σ H E I hf st hg
    subst hP hw hK
    obtain ⟨⟨old, he⟩, hit, hne⟩ := st
    obtain ⟨xs, x, hq, hx⟩ := hg
    obtain ⟨its, rv, p, hz⟩ := I.tuple (SqT.of hq)
    obtain ⟨u, hu, ru⟩ := rv.get hx
    have hel : e < s.heap.objs.size := Heap.lt_size he
    have hil : it < s.heap.objs.size := by obtain ⟨_, q, _⟩ := hit; exact Heap.lt_size q
    have hta : s.heap.IsTuple a its.toArray := p
    have nea : e ≠ a := fun z => by rw [← z, (hf e (by simp)).1] at hq; cases hq
    have nia : a ≠ it := fun z => by rw [z, (hf it (by simp)).1] at hq; cases hq
    have hi : i < its.toArray.size := by
      rw [List.size_toArray]
      exact (List.getElem?_eq_some_iff.mp hu).1
    refine wpAny_pyNext_enum_itemD (Draws.tuple (A := X.A.in1) (I.ok.hd hc) it a nia its.toArray) he ⟨hit, hta⟩ hi hne (by simp [hne, nea]) fun y h' tk hy ho hit' hT hsz hk => ?_
    have ey : y = u := by
      have : its.toArray[i]? = some u := by simpa using hu
      rw [this] at hy
      exact (Option.some.inj hy).symm
    subst ey
    refine ⟨_, rfl, wpAny_letOwnedTupleGo_enum (s := { s with heap := h', toks := tk + 1 }) ho fun h'' he' sb => ?_⟩
    have hT2 : h''.get? s.heap.objs.size = some { cls := .type "tuple", data := .seq #[.int i tk, y] } := (sb.2 _ (Nat.ne_of_gt hel)).trans hT
    have new : ObjOk X.prog X.w (upd H s.heap.objs.size (.tup [.int (i : Nat), x])) h'' s.heap.objs.size (.tup [.int (i : Nat), x]) :=
      ⟨by show 2 ≤ sizeLine; decide, [.int i tk, y], .cons ⟨_, rfl⟩ (.cons ru .nil), ⟨_, hT2, rfl, _, rfl⟩⟩
    have I1 : Inv X pins σ (upd H s.heap.objs.size (.tup [.int (i : Nat), x])) { s with heap := h'', toks := tk + 1 } :=
      I.turnedNew (ch := [e, it]) (fun b ob hb q => (sb.2 b (fun z => hb (by simp [z]))).trans (hk b ob (fun z => hb (by simp [z])) (fun z => hb (by simp [z])) q)) hf (Nat.le_refl _) new
    refine ⟨.ref s.heap.objs.size, _, I1, rfl, ⟨_, x, rfl, I.hok.fresh (Nat.le_refl _), rfl, fun ys hy => by rw [hq] at hy; cases hy; exact hx⟩, ⟨⟨y, ?_⟩, hit'.1.at fun o q => (sb.2 it (Ne.symm hne)).trans q, hne⟩, fun b hb => ?_⟩
    · have e1 : ((i + 1 : Nat) : Int) = (i : Int) + 1 := by omega
      rw [e1]; exact he'
    · have hb' : b < s.heap.objs.size := by
        have e' : b = e ∨ b = it := by simpa using hb
        rcases e' with z | z
        · rw [z]; exact hel
        · rw [z]; exact hil
      rw [upd_ne (Nat.ne_of_lt hb')]
      exact (hf b hb).1
  done := by
    intro X hP hw hK hc i pins s σ H E I hf st hg
    subst hP hw hK
    obtain ⟨⟨old, he⟩, hit, hne⟩ := st
    obtain ⟨xs, hq, hx⟩ := hg
    obtain ⟨its, rv, p, hz⟩ := I.tuple (SqT.of hq)
    obtain ⟨f0, f1, f2, f3, f4, f5⟩ := hf it (by simp)
    have nia : a ≠ it := fun z => by rw [z, f0] at hq; cases hq
    have hl := rv.length
    have hin : its.toArray.size = i := by rw [List.size_toArray]; omega
    subst hin
    exact wpAny_pyNext_enum_endD (Draws.tuple (A := X.A.in1) (I.ok.hd hc) it a nia its.toArray) he ⟨hit, p⟩ fun h' eb => ⟨rfl, I.turned (t' := s.toks) (fun b o hb q => eb b o hb q) f0 f1 f3 f4 f5⟩
  self := fun A i s Q E st h => let ⟨⟨_, he⟩, _⟩ := st; wpAny_pyIter_enum he h
def iEnumT (ta : TA) : TI := fun σ H R => ta σ H fun vs H1 => ∃ a xs, vs = [.ref a] ∧ H1 a = some (.tup xs) ∧ R (IteT a) H1
theorem pi_enumT {X : Cx} {e : Expr} {ta : TA} {p pos tpos : Pos} {elts : List Expr} {kk : Nat} (hg : Gl X "enumerate") (hm : X.mg "enumerate" = none) (ha : PA X [e] ta) (hs : starEach [e] X.env = [(false, eval e X.env)] := by rfl) :
    PI X (.Tuple elts kk tpos) (.Call (.Name "enumerate" p) [e] [] pos) (iEnumT ta) := by
  refine ⟨fun pins s σ H R I h => ?_⟩
  refine Call_ (ld_blt I hg hm boot_enumerate (PyProof.Rows.callWith_type1 (thn (ha.run pos pins s σ H _ I h) fun us s1 ⟨vs, H1, I1, r1, q1⟩ => ?_) hs rfl))
  obtain ⟨a, xs, ex, hq, q⟩ := q1
  subst ex
  cases r1 with
  | cons r rr =>
    cases rr
    cases r
    obtain ⟨its, rv, p', hz⟩ := I1.tuple (SqT.of hq)
    refine call_enum1 (begins_tuple a its.toArray) p' fun h' he ho hsz hk => wpAny_pyIter_enum he ?_
    have I2 : Inv X pins σ H1 { s1 with heap := h' } := I1.kept (t' := s1.toks) hk
    refine ⟨s1.heap.objs.size + 1, [s1.heap.objs.size + 1, s1.heap.objs.size], _, _, H1, rfl, I2, turn_enumT a (s1.heap.objs.size + 1) s1.heap.objs.size, ⟨⟨.none, he⟩, ⟨_, ho, rfl, rfl⟩, Nat.succ_ne_self _⟩, fun b hb => ?_, q⟩
    have e' : b = s1.heap.objs.size + 1 ∨ b = s1.heap.objs.size := by simpa using hb
    have hle : s1.heap.objs.size ≤ b := by
      rcases e' with z | z
      · rw [z]; exact Nat.le_add_right _ _
      · rw [z]; exact Nat.le_refl _
    exact I1.fpOk hle (I1.hok.fresh hle)

/-- the text x, each sign in a new pair -/
def IteS (x : Str) : It :=
  ⟨fun i _ => i < x.cps.size, fun i H v H' => ∃ T c, v = .ref T ∧ H T = none ∧ H' = upd H T (.tup [.int (i : Nat), .str ⟨#[c]⟩]) ∧ x.cps[i]? = some c, fun i _ => x.cps.size = i⟩
theorem turn_enumS {P : Program} {w : World} {K : PySem.W.Frag} {elts : List Expr} {kk : Nat} {tpos : Pos} (e it : Addr) (x : Str) (t : Tok) :
    Turn P w K (.Tuple elts kk tpos) (IteS x) [e, it] e (fun i h => (∃ old, IsEnum h e it ((i : Nat) : Int) old) ∧ h.IsStrIter it (strIterType x) x t i ∧ e ≠ it) where
  mem := by simp
  obj := fun i h st b hb => by
    obtain ⟨⟨old, he⟩, ⟨o, ho, hc, hd⟩, _⟩ := st
    have e' : b = e ∨ b = it := by simpa using hb
    rcases e' with z | z
    · rw [z]; exact ⟨_, he, fun v q => nomatch q⟩
    · rw [z]; exact ⟨o, ho, fun v q => by rw [hd] at q; cases q⟩
  keep := fun i h h' st k => let ⟨⟨old, he⟩, hi, hne⟩ := st; ⟨⟨old, k e (by simp) _ he⟩, (let ⟨o, q1, q2, q3⟩ := hi; ⟨o, k it (by simp) o q1, q2, q3⟩), hne⟩
  item := by
    intro X hP hw hK hc i pins s σ H E I hf st hg
    subst hP hw hK
    obtain ⟨⟨old, he⟩, hit, hne⟩ := st
    have hi : i < x.cps.size := hg
    have hel : e < s.heap.objs.size := Heap.lt_size he
    have hil : it < s.heap.objs.size := by obtain ⟨_, q, _⟩ := hit; exact Heap.lt_size q
    refine wpAny_pyNext_enum_itemD (Draws.text (A := X.A.in1) (I.ok.hd hc) it x t) he hit hi hne (by simp [hne]) fun y h' tk hy ho hit' hT hsz hk => ?_
    obtain ⟨c, u, hc1, rfl⟩ := hy
    refine ⟨_, rfl, wpAny_letOwnedTupleGo_enum (s := { s with heap := h', toks := tk + 1 }) ho fun h'' he' sb => ?_⟩
    have hT2 : h''.get? s.heap.objs.size = some { cls := .type "tuple", data := .seq #[.int i tk, .str ⟨#[c]⟩ u] } := (sb.2 _ (Nat.ne_of_gt hel)).trans hT
    have new : ObjOk X.prog X.w (upd H s.heap.objs.size (.tup [.int (i : Nat), .str ⟨#[c]⟩])) h'' s.heap.objs.size (.tup [.int (i : Nat), .str ⟨#[c]⟩]) :=
      ⟨by show 2 ≤ sizeLine; decide, [.int i tk, .str ⟨#[c]⟩ u], .cons ⟨_, rfl⟩ (.cons ⟨_, rfl⟩ .nil), ⟨_, hT2, rfl, _, rfl⟩⟩
    have I1 : Inv X pins σ (upd H s.heap.objs.size (.tup [.int (i : Nat), .str ⟨#[c]⟩])) { s with heap := h'', toks := tk + 1 } :=
      I.turnedNew (ch := [e, it]) (fun b ob hb q => (sb.2 b (fun z => hb (by simp [z]))).trans (hk b ob (fun z => hb (by simp [z])) (fun z => hb (by simp [z])) q)) hf (Nat.le_refl _) new
    refine ⟨.ref s.heap.objs.size, _, I1, rfl, ⟨_, c, rfl, I.hok.fresh (Nat.le_refl _), rfl, hc1⟩, ⟨⟨.str ⟨#[c]⟩ u, ?_⟩, (let ⟨o, q1, q2, q3⟩ := hit'; ⟨o, (sb.2 it (Ne.symm hne)).trans q1, q2, q3⟩), hne⟩, fun b hb => ?_⟩
    · have e1 : ((i + 1 : Nat) : Int) = (i : Int) + 1 := by omega
      rw [e1]; exact he'
    · have hb' : b < s.heap.objs.size := by
        have e' : b = e ∨ b = it := by simpa using hb
        rcases e' with z | z
        · rw [z]; exact hel
        · rw [z]; exact hil
      rw [upd_ne (Nat.ne_of_lt hb')]
      exact (hf b hb).1
  done := by
    intro X hP hw hK hc i pins s σ H E I hf st hg
    subst hP hw hK
    obtain ⟨⟨old, he⟩, hit, hne⟩ := st
    obtain ⟨f0, f1, f2, f3, f4, f5⟩ := hf it (by simp)
    have hin : x.cps.size = i := hg
    subst hin
    exact wpAny_pyNext_enum_endD (Draws.text (A := X.A.in1) (I.ok.hd hc) it x t) he hit fun h' eb => ⟨rfl, I.turned (t' := s.toks) (fun b o hb q => eb b o hb q) f0 f1 f3 f4 f5⟩
  self := fun A i s Q E st h => let ⟨⟨_, he⟩, _⟩ := st; wpAny_pyIter_enum he h
def iEnumS (ta : TA) : TI := fun σ H R => ta σ H fun vs H1 => ∃ x, vs = [.str x] ∧ R (IteS x) H1
theorem pi_enumS {X : Cx} {e : Expr} {ta : TA} {p pos tpos : Pos} {elts : List Expr} {kk : Nat} (hg : Gl X "enumerate") (hm : X.mg "enumerate" = none) (ha : PA X [e] ta) (hs : starEach [e] X.env = [(false, eval e X.env)] := by rfl) :
    PI X (.Tuple elts kk tpos) (.Call (.Name "enumerate" p) [e] [] pos) (iEnumS ta) := by
  refine ⟨fun pins s σ H R I h => ?_⟩
  refine Call_ (ld_blt I hg hm boot_enumerate (PyProof.Rows.callWith_type1 (thn (ha.run pos pins s σ H _ I h) fun us s1 ⟨vs, H1, I1, r1, q1⟩ => ?_) hs rfl))
  obtain ⟨x, ex, q⟩ := q1
  subst ex
  cases r1 with
  | cons r rr =>
    cases rr
    obtain ⟨t, rfl⟩ := r
    refine call_enumerate_str fun h' he hit hsz hk => wpAny_pyIter_enum he ?_
    have I2 : Inv X pins σ H1 { s1 with heap := h' } := I1.kept (t' := s1.toks) hk
    refine ⟨s1.heap.objs.size + 1, [s1.heap.objs.size + 1, s1.heap.objs.size], _, _, H1, rfl, I2, turn_enumS (s1.heap.objs.size + 1) s1.heap.objs.size x t, ⟨⟨.none, he⟩, hit, Nat.succ_ne_self _⟩, fun b hb => ?_, q⟩
    have e' : b = s1.heap.objs.size + 1 ∨ b = s1.heap.objs.size := by simpa using hb
    have hle : s1.heap.objs.size ≤ b := by
      rcases e' with z | z
      · rw [z]; exact Nat.le_add_right _ _
      · rw [z]; exact Nat.le_refl _
    exact I1.fpOk hle (I1.hok.fresh hle)
/-! on layer W -/
section
variable {K : PySem.W.Frag}
def dIEnumT (a : WA) : WI := fun G P Pi => a G P fun ws P1 => match ws with
  | [.tup xs] => Pi (enumW xs) (fun _ => True) P1
  | _ => False
theorem di_enumT {t : TA} {a : WA} (h : DA K t a) : DI K (iEnumT t) (dIEnumT a) := ⟨fun {G P Pi} p {σ Hb H} g s R k => h.run p g s fun ws P1 vs Hb1 H1 p1 g1 s1 r1 => by
  dsimp only at p1
  split at p1
  · rename_i xs
    cases r1 with
    | cons rx rn =>
      cases rn
      cases rx with
      | @tup a us _ ea ra =>
        refine ⟨a, us, rfl, s1.ex _ _ ea, k _ _ _ _ _ _ p1 ⟨fun i Hb2 H2 P2 e2 s2 _ hi => ?_, fun Hb2 H2 P2 e2 s2 _ => ?_, fun i Hb2 H2 P2 x H' e2 s2 _ hi y => ?_⟩ g1 s1⟩
        · rw [enumW_len, ra.len] at hi
          exact ⟨us, us[i], s2.ex _ _ (e2 _ _ ea), by simp [hi]⟩
        · rw [enumW_len, ra.len]
          exact ⟨us, s2.ex _ _ (e2 _ _ ea), rfl⟩
        · obtain ⟨T, z, rfl, hT, rfl, hx⟩ := y
          obtain ⟨w, h1, h2⟩ := ra.getV (hx us (s2.ex _ _ (e2 _ _ ea)))
          obtain ⟨s3, g3⟩ := s2.new (o := .tup [.int (i : Nat), z]) hT
          exact ⟨_, _, enumW_get h1, g3, s3, .tup upd_same (.cons (.int _) (.cons ((h2.mono e2).mono g3.ex) .nil))⟩
  · exact p1.elim⟩
def dIEnumS (a : WA) : WI := fun G P Pi => a G P fun ws P1 => match ws with
  | [.str l] => Pi (enumW (sgnW l)) (fun _ => True) P1
  | _ => False
theorem di_enumS {t : TA} {a : WA} (h : DA K t a) : DI K (iEnumS t) (dIEnumS a) := ⟨fun {G P Pi} p {σ Hb H} g s R k => h.run p g s fun ws P1 vs Hb1 H1 p1 g1 s1 r1 => by
  dsimp only at p1
  split at p1
  · rename_i l
    cases r1 with
    | cons rx rn =>
      cases rn
      cases rx
      have hl : (enumW (sgnW l)).length = l.length := by rw [enumW_len]; exact List.length_map _
      have hz : (S l).cps.size = l.length := rfl
      refine ⟨S l, rfl, k _ _ _ _ _ _ p1 ⟨fun i Hb2 H2 P2 e2 s2 _ hi => ?_, fun Hb2 H2 P2 e2 s2 _ => ?_, fun i Hb2 H2 P2 x H' e2 s2 _ hi y => ?_⟩ g1 s1⟩
      · show i < (S l).cps.size
        rw [hz, ← hl]
        exact hi
      · show (S l).cps.size = _
        rw [hz, hl]
      · obtain ⟨T, c, rfl, hT, rfl, hx⟩ := y
        have hc2 : l[i]? = some c := by
          have e : (S l).cps[i]? = l[i]? := by
            show l.toArray[i]? = l[i]?
            simp
          rw [← e]
          exact hx
        have h1 : (sgnW l)[i]? = some (.str [c]) := by unfold sgnW; rw [List.getElem?_map, hc2]; rfl
        obtain ⟨s3, g3⟩ := s2.new (o := .tup [.int (i : Nat), .str ⟨#[c]⟩]) hT
        exact ⟨_, _, enumW_get h1, g3, s3, .tup upd_same (.cons (.int _) (.cons (.str [c]) .nil))⟩
  · exact p1.elim⟩
def dIEnumL (a : WA) : WI := fun G P Pi => a G P fun ws P1 => match ws with
  | [.lst xs] => Pi (enumW xs) (fun _ => True) P1
  | _ => False
theorem di_enumL {t : TA} {a : WA} (h : DA K t a) : DI K (iEnum K t) (dIEnumL a) := ⟨fun {G P Pi} p {σ Hb H} g s R k => h.run p g s fun ws P1 vs Hb1 H1 p1 g1 s1 r1 => by
  dsimp only at p1
  split at p1
  · rename_i xs
    cases r1 with
    | cons rx rn =>
      cases rn
      cases rx with
      | @lst a us _ ea ra =>
        refine ⟨a, us, rfl, SqL.of (s1.ex _ _ ea), k _ _ _ _ _ _ p1 ⟨fun i Hb2 H2 P2 e2 s2 _ hi => ?_, fun Hb2 H2 P2 e2 s2 _ => ?_, fun i Hb2 H2 P2 x H' e2 s2 _ hi y => ?_⟩ g1 s1⟩
        · rw [enumW_len, ra.len] at hi
          exact ⟨us, us[i], SqL.of (s2.ex _ _ (e2 _ _ ea)), by simp [hi]⟩
        · rw [enumW_len, ra.len]
          exact ⟨us, SqL.of (s2.ex _ _ (e2 _ _ ea)), Nat.le_refl _⟩
        · obtain ⟨T, z, rfl, hT, rfl, hx⟩ := y
          obtain ⟨w, h1, h2⟩ := ra.getV (hx us (SqL.of (s2.ex _ _ (e2 _ _ ea))))
          obtain ⟨s3, g3⟩ := s2.new (o := .tup [.int (i : Nat), z]) hT
          exact ⟨_, _, enumW_get h1, g3, s3, .tup upd_same (.cons (.int _) (.cons ((h2.mono e2).mono g3.ex) .nil))⟩
  · exact p1.elim⟩
end
end Fc
namespace Fc.ST
open PySem PySem.Spec PyProof.Rows SS
/-! ### set(xs), xs a tuple of unlike texts: as HandS.Strs does for one text -/
section
variable {prog : Program} {w : World} {A : Around} {R : Result → Shared → Prop} {I : Addr} {fp wr : List Addr} {G : Array GenState → Array GenState → Prop} {n : Nat} {P : Nat → Value → Prop} {St : Nat → Shared → Prop}
theorem loopStrN (W : WalksS prog w A.in1 I fp wr G n P St) (S : Addr) (hSf : S ∉ fp) (xs : List Str) (hsz : xs.length = n) (hnd : xs.Nodup) (hn1 : n + 1 < scanBound)
    (hval : ∀ i v, P i v → ∃ t, v = .str (xs.getD i Str.empty) t) :
    ∀ (k i : Nat) (s : Shared), n - i = k → i ≤ n → St i s →
      s.heap.SetOf (PySem.strKind prog w) S (fun k' => (xs.take i).any (· == k')) i →
      (∀ s', Moved (S :: wr) G s s' → s'.heap.SetOf (PySem.strKind prog w) S (fun k' => (xs.take n).any (· == k')) n → R (.ok (.ret .none)) s') →
      codeAny (model prog w) A (.builtin "set.update.loop" ⟨[.ref S, .ref I], []⟩) R s := by
  have hSw : S ∉ wr := fun h => hSf (W.sub _ h)
  have hsub : ∀ b ∈ wr, b ∈ S :: wr := fun b hb => List.mem_cons_of_mem _ hb
  intro k
  induction k with
  | zero =>
    intro i s hk hi hst hS hR
    have hin : i = n := by omega
    subst hin
    refine codeAny_builtin PyProof.Rows.F.entry_set_update_loop ?_
    rw [Around.under_plainId PyProof.Rows.F.plain_set_update_loop _]
    show wpAny _ A.in1 (pyNext (.ref I) >>= _) _ _ s
    refine wpAny_bind (W.done s _ _ hst fun s' hm => ?_)
    show wpAny _ A.in1 (ret Value.none) _ _ s'
    exact wpAny_pure (hR s' (hm.mono hsub) (by
      obtain ⟨o, es, ep, t, ho, rest⟩ := hS
      exact ⟨o, es, ep, t, hm.heap S _ hSw ho, rest⟩))
  | succ k ih =>
    intro i s hk hi hst hS hR
    have hlt : i < n := by omega
    refine codeAny_builtin PyProof.Rows.F.entry_set_update_loop ?_
    rw [Around.under_plainId PyProof.Rows.F.plain_set_update_loop _]
    show wpAny _ A.in1 (pyNext (.ref I) >>= _) _ _ s
    refine wpAny_bind (W.item i s _ _ hlt hst fun v s' hP hst' hm => ?_)
    obtain ⟨t, rfl⟩ := hval i v hP
    have hS' : s'.heap.SetOf (PySem.strKind prog w) S (fun k' => (xs.take i).any (· == k')) i := by
      obtain ⟨o, es, ep, tb, ho, rest⟩ := hS
      exact ⟨o, es, ep, tb, hm.heap S _ hSw ho, rest⟩
    show wpAny _ A.in1 (holding [Value.str (xs.getD i Str.empty) t] (setAdd S (.str (xs.getD i Str.empty) t)) >>= _) _ _ s'
    refine wpAny_bind (wpAny_holding ?_)
    unfold setAdd
    refine wpAny_holding ?_
    refine wpAny_bind ((PySem.strKind prog w).pyHash (k := xs.getD i Str.empty) (strKind_is _ _ _ _) ?_)
    refine wpAny_setAddHashed_of (knd := PySem.strKind prog w) (s := { s' with toks := s'.toks + 1 }) (strKind_is _ _ _ _) rfl hS' (by omega) fun h' hsb hS2 => ?_
    have hSi : h'.SetOf (PySem.strKind prog w) S (fun k' => (xs.take (i + 1)).any (· == k')) (i + 1) := by
      have hlx : i < xs.length := by omega
      have e2 : xs.take (i + 1) = xs.take i ++ [xs[i]] := by
        rw [List.take_add_one, List.getElem?_eq_getElem hlx] <;> rfl
      have e1 : xs.getD i Str.empty = xs[i] := by
        rw [List.getD_eq_getElem?_getD, List.getElem?_eq_getElem hlx] <;> rfl
      have no : ((xs.take i).any (· == xs[i])) = false := by
        cases hb : (xs.take i).any (· == xs[i]) with
        | false => rfl
        | true =>
          obtain ⟨y, hy, ey⟩ := List.any_eq_true.mp hb
          have ey2 : y = xs[i] := eq_of_beq ey
          rw [ey2] at hy
          obtain ⟨j, hj⟩ := List.mem_iff_getElem?.mp hy
          rw [List.getElem?_take] at hj
          by_cases hji : j < i
          · rw [if_pos hji] at hj
            obtain ⟨hjl, ej⟩ := List.getElem?_eq_some_iff.mp hj
            exact absurd ej (List.pairwise_iff_getElem.mp hnd j i hjl hlx hji)
          · rw [if_neg hji] at hj
            cases hj
      rw [e1] at hS2
      rw [e2]
      refine SetOf_congr hS2 (fun k' => ?_) (by rw [no]; rfl)
      show ((xs.take i).any (· == k') || decide (k' = xs[i])) = (xs.take i ++ [xs[i]]).any (· == k')
      rw [List.any_append]
      by_cases e : k' = xs[i]
      · subst e; simp
      · have hb : (xs[i] == k') = false := by simpa [beq_iff_eq] using (fun h' : xs[i] = k' => e h'.symm)
        simp [hb, e]
    refine wpAny_pure ⟨plainId_quiet PyProof.Rows.F.plain_set_update_loop _, ih (i + 1) _ (by omega) hlt (W.frame _ s' _ _ hst' (Nat.le_succ _) fun b hb o e => ?_) hSi fun s'' hm'' hS'' => ?_⟩
    · rw [hsb.2 b (fun h : b = S => hSf (by rw [← h]; exact hb))]; exact e
    · refine hR s'' (Moved.trans W.gtrans ((hm.mono hsub).then_heap (Nat.le_succ _) fun b o hb e => ?_) hm'') hS''
      rw [hsb.2 b (fun h : b = S => hb (by rw [h]; exact List.mem_cons_self))]; exact e
end


section
variable {prog : Program} {w : World} {A : Around} {E : Value → Shared → Prop} {s : Shared}
theorem call_set_tupleN {l : Addr} {items : Array Value} {xs : List Str} {Q : Value → Shared → Prop}
    (hh : A.handled = none) (hl : s.heap.IsTuple l items) (hi : PyProof.Rows.StrsAre items.toList xs) (hnd : xs.Nodup) (hn1 : xs.length + 1 < scanBound)
    (h : ∀ (h' : Heap) (tk : Nat), h'.SetOf (PySem.strKind prog w) s.heap.objs.size (fun k' => (xs.take items.size).any (· == k')) items.size →
      (∀ b o, b < s.heap.objs.size → s.heap.get? b = some o → h'.get? b = some o) → Q (.ref s.heap.objs.size) { s with heap := h', toks := tk }) :
    wpAny (model prog w) A (call (.type "set") [.ref l]) Q E s := by
  obtain ⟨c, tl, hmro⟩ := PySem.F.called_set.mro
  have hmade := PySem.F.called_set.made
  have hsub := PySem.F.called_set.sub
  refine wpAny_call (codeAny_of_tree ?_)
  show wpAny _ _ (callAny (.type "set") _) _ _ _
  refine wpAny_pure ⟨Code.quiet_builtin _ (by decide +kernel), codeAny_builtin PySem.F.entry_type_call ?_⟩
  rw [Around.under_plain (weight_type_call_type "set" [.ref l] []) rfl]
  have h1 := PySem.F.called_set.notType
  have h2 := PySem.F.called_set.canCreate
  have hct := PySem.F.typeCall_set_1 (.ref l)
  repeat (any_goals (first | assumption | wp_step))

  refine codeAny_mono (code_set_new_1 (.ref l) (E := E) (Q₁ := fun obj s₁ => ∃ led : Bool, obj = .ref s.heap.objs.size ∧ s₁ = { s with heap := s.heap.push { cls := .type "set", dict := none, data := .set #[] 0 (.fresh 0 0 led) } }) fun led => ⟨led, rfl, rfl⟩) fun r s₁ hr => ?_
  cases r with
  | error e => exact hr
  | ok fl =>
    cases fl with
    | ret obj =>
      obtain ⟨led, rfl, rfl⟩ := hr
      have hS : (s.heap.push { cls := .type "set", dict := none, data := .set #[] 0 (.fresh 0 0 led) }).get? s.heap.objs.size = some { cls := .type "set", dict := none, data := .set #[] 0 (.fresh 0 0 led) } := Heap.get?_push_size _ rfl
      have hT : Shared.TypeIs { s with heap := s.heap.push { cls := .type "set", dict := none, data := .set #[] 0 (.fresh 0 0 led) } } (.ref s.heap.objs.size) "set" := ⟨_, hS, rfl⟩
      have hli := PySem.F.called_set.init.lookup
      have hbi := PySem.F.called_set.init.bind (.ref s.heap.objs.size)
      repeat (any_goals (first | assumption | wp_step))

      refine codeAny_mono (codeAny_call_builtin (R := wants (fun r s₂ => r = .none ∧ ∃ h' tk, s₂ = { s with heap := h', toks := tk } ∧
          h'.SetOf (PySem.strKind prog w) s.heap.objs.size (fun k' => (xs.take items.size).any (· == k')) items.size ∧
          (∀ b o, b < s.heap.objs.size → s.heap.get? b = some o → h'.get? b = some o)) E) PySem.F.called_set.init.plain PySem.F.entry_set_init (check_set_init_1 hT ?_)) fun r₂ s₂ hr₂ => ?_
      · obtain ⟨ol, hol, hcl, nl, hdl⟩ := hl
        obtain ⟨ocls, odict, odata, oslots⟩ := ol
        simp only at hcl hdl
        subst hcl; subst hdl
        have hol' : (s.heap.push { cls := .type "set", dict := none, data := .set #[] 0 (.fresh 0 0 led) }).get? l = some { cls := .type "tuple", dict := odict, data := .seq items nl, slots := oslots } := Heap.get?_push_of_some _ hol
        have hsls := PySem.F.sub_tuple_set
        have hslf := PySem.F.sub_tuple_frozenset
        have hne : (Value.type "tuple" == Value.type "dict") = false := by decide
        have hl1 : (s.heap.push { cls := .type "set", dict := none, data := .set #[] 0 (.fresh 0 0 led) }).IsTuple l items := ⟨_, hol', rfl, nl, rfl⟩
        unfold Builtin.«set.__init__» noKeywords Builtin.Frozenset.updateFrom
        generalize hPI : pyIter = PI
        wp_walk
        subst hPI

        refine wpAny_pyIter_tuple hl1 ?_
        refine wpAny_bind (wpAny_runValue ?_)
        have hlS : l < s.heap.objs.size := Heap.lt_size hol
        have hh3 : A.in1.in1.in1.handled = none := by simp [hh]
        have hneI : l ≠ (s.heap.push { cls := .type "set", dict := none, data := .set #[] 0 (.fresh 0 0 led) }).objs.size := by
          rw [Heap.size_push]; exact Nat.ne_of_lt (Nat.lt_succ_of_lt hlS)
        have hSf : s.heap.objs.size ∉ [(s.heap.push { cls := .type "set", dict := none, data := .set #[] 0 (.fresh 0 0 led) }).objs.size, l] := by
          rw [Heap.size_push]; simp only [List.mem_cons, List.mem_singleton, List.not_mem_nil, or_false, not_or]
          exact ⟨Nat.ne_of_lt (Nat.lt_succ_self _), Nat.ne_of_gt hlS⟩
        have hsz : xs.length = items.size := by rw [← StrsAre.len_eq hi, Array.length_toList]
        have hval : ∀ (i : Nat) (v : Value), items[i]? = some v → ∃ t, v = .str (xs.getD i Str.empty) t := fun i v hv => strs_at hi i v (by rw [Array.getElem?_toList]; exact hv)
        refine loopStrN ((Walks.tuple hh3 _ l hneI items).toS) s.heap.objs.size
          hSf xs hsz hnd (by rw [← hsz]; exact hn1) hval (items.size - 0) 0 _ (by omega) (Nat.zero_le _)
          ⟨⟨_, Heap.get?_push_size _ rfl, rfl, rfl⟩, (hl1.push _)⟩ ?hS0 ?hR
        case hS0 =>
          have hget : ((s.heap.push { cls := .type "set", dict := none, data := .set #[] 0 (.fresh 0 0 led) }).push { cls := .type "tuple_iterator", data := .fields #[.ref l, .int 0 0] }).get? s.heap.objs.size
              = some { cls := .type "set", dict := none, data := .set #[] 0 (.fresh 0 0 led) } := Heap.get?_push_of_some _ hS
          exact PyProof.Rows.SetOf_congr ((PyProof.Rows.setObjOf_fresh (knd := PySem.strKind prog w) led).setOf hget (by unfold scanBound; omega)) (fun _ => rfl) rfl
        case hR =>
          intro s' hm hS'
          obtain ⟨h', g', d', tk', os'⟩ := s'
          have eg : g' = s.gens := hm.gens
          have ed : d' = s.drawn := hm.drawn
          have eo : os' = s.os := hm.os
          subst eg; subst ed; subst eo
          show wpAny _ _ _ _ _ _
          refine wpAny_pure ?_
          show wpAny _ _ (ret Value.none) _ _ _
          refine wpAny_pure ⟨rfl, h', tk', rfl, hS', fun b o hb e => ?_⟩
          have hb1 : b ≠ s.heap.objs.size := Nat.ne_of_lt hb
          have hb2 : b ≠ (s.heap.push { cls := .type "set", dict := none, data := .set #[] 0 (.fresh 0 0 led) }).objs.size := by
            rw [Heap.size_push]; exact Nat.ne_of_lt (Nat.lt_succ_of_lt hb)
          exact hm.heap b o (by simp only [List.mem_cons, List.mem_singleton, List.not_mem_nil, or_false, not_or]; exact ⟨hb1, hb2⟩) (Heap.get?_push_of_some _ (Heap.get?_push_of_some _ e))

      · cases r₂ with
        | error e => exact hr₂
        | ok fl₂ =>
          cases fl₂ with
          | ret r =>
            obtain ⟨rfl, h', tk, rfl, hS', hk'⟩ := hr₂
            repeat (any_goals (first | assumption | wp_step))
            exact h _ _ hS' hk'
          | _ => exact hr₂.elim
    | _ => exact hr.elim

end
end Fc.ST
namespace Fc
open PySem PySem.Spec PyProof.Rows L2
/-- len(set(xs)), xs a tuple of unlike texts -/
def tLenSetS (K : PySem.W.Frag) (ta : TE) : TE := fun σ H Q => ta σ H fun x H1 => ∃ l, ∃ xs : List Str, x = .ref l ∧ SqT K H1 l (xs.map V.str) ∧ xs.Nodup ∧ xs.length ≤ 1000 ∧ Q (.int (xs.length : Nat)) H1
theorem pe_lenSetS {X : Cx} {a : Expr} {ta : TE} {p p2 q pos : Pos} (hg : Gl X "len") (hm : X.mg "len" = none) (hg2 : Gl X "set") (hm2 : X.mg "set" = none) (ha : PE X a ta) (hc : X.calm = true := by rfl)
    (na : starEach [a] X.env = (false, eval a X.env) :: starEach [] X.env := by rfl) : PE X (.Call (.Name "len" p) [.Call (.Name "set" p2) [a] [] q] [] pos) (tLenSetS X.K ta) := by
  refine ⟨fun pins s σ H Q I h => ?_⟩
  refine Call_ (ld_blt I hg hm boot_len ?_)
  refine PyProof.Rows.callWith_builtin1 (PyProof.Rows.args_cons ?_ rfl) rfl rfl
  refine Call_ (ld_blt I hg2 hm2 boot_set ?_)
  refine PyProof.Rows.callWith_type1 (PyProof.Rows.args_cons (thn (ha.run pins s σ H _ I h) fun v s1 ⟨x, H1, I1, r1, q1⟩ => PyProof.Rows.args_nil ?_) na) na rfl
  obtain ⟨l, xs, rfl, hq, hnd, h1, q1⟩ := q1
  cases r1
  obtain ⟨its, r, pl, hz⟩ := I1.tuple hq
  have hl : its.toArray.size = xs.length := by rw [List.size_toArray, ← r.length, List.length_map]
  refine ST.call_set_tupleN (I1.ok.hd hc) pl (by simpa using strsAre_of r) hnd (by unfold scanBound; omega) fun h' tk hS hk => ?_
  refine PyProof.Rows.args_nil ?_
  rw [hl] at hS
  obtain ⟨o, es, ep, t, ho, hex, hd, _, _, _, hf, hn⟩ := hS
  have I2 : Inv X pins σ H1 { s1 with heap := h', toks := tk } := I1.kept fun b o e => hk b o (Heap.lt_size e) e
  exact call_len_set ho hex hd hf (by rw [hn] <;> omega) ⟨.int (xs.length : Nat), H1, I2.tok _, ⟨_, by rw [hn]⟩, q1⟩
/-- .. xs a list of three times the same int -/
def tLenSetI (K : PySem.W.Frag) (ta : TE) : TE := fun σ H Q => ta σ H fun x H1 => ∃ (l : Addr) (n : Int), x = .ref l ∧ SqL K H1 l ([n, n, n].map V.int) ∧ Q (.int 1) H1
theorem firstMet3 (n : Int) : PyProof.Rows.firstMet (fun i => [n, n, n].getD i 0) 3 = [n] := by
  unfold PyProof.Rows.firstMet
  show (([n, n, n] : List Int)).foldl step_dedup [] = [n]
  simp [step_dedup]
theorem pe_lenSetI {X : Cx} {a : Expr} {ta : TE} {p p2 q pos : Pos} (hg : Gl X "len") (hm : X.mg "len" = none) (hg2 : Gl X "set") (hm2 : X.mg "set" = none) (ha : PE X a ta) (hc : X.calm = true := by rfl)
    (na : starEach [a] X.env = (false, eval a X.env) :: starEach [] X.env := by rfl) : PE X (.Call (.Name "len" p) [.Call (.Name "set" p2) [a] [] q] [] pos) (tLenSetI X.K ta) := by
  refine ⟨fun pins s σ H Q I h => ?_⟩
  refine Call_ (ld_blt I hg hm boot_len ?_)
  refine PyProof.Rows.callWith_builtin1 (PyProof.Rows.args_cons ?_ rfl) rfl rfl
  refine Call_ (ld_blt I hg2 hm2 boot_set ?_)
  refine PyProof.Rows.callWith_type1 (PyProof.Rows.args_cons (thn (ha.run pins s σ H _ I h) fun v s1 ⟨x, H1, I1, r1, q1⟩ => PyProof.Rows.args_nil ?_) na) na rfl
  obtain ⟨l, n, rfl, hq, q1⟩ := q1
  cases r1
  obtain ⟨its, r, pl, hz⟩ := I1.list hq
  have hlen : its.toArray.size = 3 := by rw [List.size_toArray, ← r.length]; rfl
  refine call_set_list (I1.ok.hd hc) pl.isList (by simpa using RZ.intsAre_vals r) (by rw [hlen]; decide) fun h' tk hS hk => ?_
  refine PyProof.Rows.args_nil ?_
  rw [hlen, firstMet3] at hS
  obtain ⟨o, es, ep, t, ho, hex, hd, _, _, _, hf, hn⟩ := hS
  have I2 : Inv X pins σ H1 { s1 with heap := h', toks := tk } := I1.kept fun b o e => hk b o (Heap.lt_size e) e
  exact call_len_set ho hex hd hf (by rw [hn]; show ((1 : Nat) : Int) < 2 ^ 63; decide) ⟨.int 1, H1, I2.tok _, ⟨_, by rw [hn]; rfl⟩, q1⟩
section
variable {K : PySem.W.Frag}
theorem nodup_S {ls : List (List Nat)} (h : ls.Nodup) : (ls.map S).Nodup := List.Pairwise.map S (fun _ _ e z => e (S_inj z)) h
def dLenSetS (d : WE) : WE := fun G P Po => d G P fun w P1 => match w with
  | .tup ws => OptP (strsOf ws) fun ls => ls.Nodup ∧ ls.length ≤ 1000 ∧ Po (.int (ls.length : Nat)) P1
  | _ => False
theorem de_lenSetS {t : TE} {d : WE} (h : De K t d) : De K (tLenSetS K t) (dLenSetS d) := ⟨fun hd σ Hb H g s Q k => h.run hd g s fun w P1 v Hb1 H1 p1 g1 s1 r1 => by
  cases r1 with
  | @tup a vs ws ea ra =>
    obtain ⟨ls, e, hn, hl, q⟩ := p1
    have e2 := strsOf_ok e
    subst e2
    have e3 := ra.strs_of
    subst e3
    exact ⟨a, ls.map S, rfl, SqT.of (s1.ex _ _ ea), nodup_S hn, by rw [List.length_map]; exact hl, by rw [List.length_map]; exact (k.go g1).here s1 q (.int _)⟩
  | _ => exact p1.elim⟩
def dLenSetI (d : WE) : WE := fun G P Po => d G P fun w P1 => ∃ n, lstP P1 w = some [.int n, .int n, .int n] ∧ Po (.int 1) P1
theorem de_lenSetI {t : TE} {d : WE} (h : De K t d) : De K (tLenSetI K t) (dLenSetI d) := ⟨fun hd σ Hb H g s Q k => h.run hd g s fun w P1 v Hb1 H1 p1 g1 s1 r1 => by
  obtain ⟨n, e, q⟩ := p1
  obtain ⟨a, vs, rfl, hH, ra⟩ := lstP_ok s1 r1 e
  have e3 : vs = [n, n, n].map V.int := ra.ints_of (ns := [n, n, n])
  subst e3
  exact ⟨a, n, rfl, SqL.of hH, (k.go g1).here s1 q (.int 1)⟩⟩
end
end Fc
namespace Fc
open PySem PySem.Spec PyProof.Rows L2
/-! ### more built-ins -/
section
variable {X : Cx}
/-- min, max of a list of pairs (int, text) -/
abbrev Pr := Int × Str
theorem pr_uniq {h : Heap} {v : Value} {p q : Pr} (a : PySem.W.Holds h v p) (b : PySem.W.Holds h v q) : p = q := by
  obtain ⟨l, x, y, rfl, t, h1, h2⟩ := PySem.W.pair_of_holds a
  obtain ⟨l2, x2, y2, e, t2, h3, h4⟩ := PySem.W.pair_of_holds b
  cases e
  obtain ⟨o, ho, _, n, hd⟩ := t
  obtain ⟨o2, ho2, _, n2, hd2⟩ := t2
  rw [ho] at ho2
  cases ho2
  rw [hd] at hd2
  cases hd2
  obtain ⟨t1, e1⟩ := PySem.W.int_of_holds h1
  obtain ⟨t3, e3⟩ := PySem.W.int_of_holds h3
  obtain ⟨u1, f1⟩ := PySem.W.str_of_holds h2
  obtain ⟨u3, f3⟩ := PySem.W.str_of_holds h4
  rw [e1] at e3
  rw [f1] at f3
  injection e3 with e4 _
  injection f3 with f4 _
  exact Prod.ext e4 f4
theorem vals_getV : ∀ {xs : List V} {us : List Value} {i : Nat} {u : Value}, Vals xs us → us[i]? = some u → ∃ x, xs[i]? = some x ∧ RelV x u
  | _, _, i, _, .nil, e => by simp at e
  | _, _, 0, _, .cons r _, e => by simp at e; subst e; exact ⟨_, rfl, r⟩
  | _, _, i + 1, u, .cons _ t, e => by
    obtain ⟨x, h1, h2⟩ := vals_getV (i := i) (u := u) t (by simpa using e)
    exact ⟨x, by simpa using h1, h2⟩
def rMinP (K : PySem.W.Frag) (mx : Bool) : List V → Hp → VK → Prop := fun xs H Q => ∃ (a : Addr) (vs : List V) (d : Pr) (ds : List Pr), xs = [.ref a] ∧ SqL K H a vs ∧ DpAll K H vs ((d :: ds).map PySem.W.Datum.toD) ∧
  ∀ (i : Nat) (v : V), vs[i]? = some v → (d :: ds)[i]? = some (if mx then PySem.W.maxOf d ds else PySem.W.minOf d ds) → Q v H
theorem call_minD {k : Nat} (hr : Room k X.A) (hc : X.calm = true := by rfl) : CallR X (.builtin "min") (rMinP X.K false) := by
  intro pins s σ H xs us Q I r h
  obtain ⟨a, vs, d, ds, rfl, hq, hd, q⟩ := h
  obtain ⟨u, rfl, rx⟩ := vals1 r
  cases rx
  obtain ⟨its, rv, pl, hz⟩ := I.list hq
  obtain ⟨as, hrd⟩ := Dp.readsAll I _ _ _ hd rv
  have HA : PySem.W.HoldAll s.heap its.toArray.toList (d :: ds) := ⟨as, by simpa using hrd⟩
  have hu : X.A.units + 1 + PySem.W.Datum.depth Pr < cLine := by
    have h1 := hr.units
    have e : PySem.W.Datum.depth Pr = 1 := by decide
    rw [e]
    have e2 : cLine = 9900 := by decide
    omega
  refine PySem.W.min_list_datum (I.ok.hd hc) pl.isList HA hu fun i v h' tk hi hv hk => ?_
  have hi2 : its[i]? = some v := by simpa using hi
  obtain ⟨w, hw, rw_⟩ := vals_getV rv hi2
  obtain ⟨z, hz1, hz2⟩ := HA.at (i := i) (v := v) (by simpa using hi)
  have e := pr_uniq (hz2.keeps hk) hv
  subst e
  exact ⟨w, H, I.kept hk, rw_, q i w hw hz1⟩
theorem call_maxD {k : Nat} (hr : Room k X.A) (hc : X.calm = true := by rfl) : CallR X (.builtin "max") (rMinP X.K true) := by
  intro pins s σ H xs us Q I r h
  obtain ⟨a, vs, d, ds, rfl, hq, hd, q⟩ := h
  obtain ⟨u, rfl, rx⟩ := vals1 r
  cases rx
  obtain ⟨its, rv, pl, hz⟩ := I.list hq
  obtain ⟨as, hrd⟩ := Dp.readsAll I _ _ _ hd rv
  have HA : PySem.W.HoldAll s.heap its.toArray.toList (d :: ds) := ⟨as, by simpa using hrd⟩
  have hu : X.A.units + 1 + PySem.W.Datum.depth Pr < cLine := by
    have h1 := hr.units
    have e : PySem.W.Datum.depth Pr = 1 := by decide
    rw [e]
    have e2 : cLine = 9900 := by decide
    omega
  refine PySem.W.max_list_datum (I.ok.hd hc) pl.isList HA hu fun i v h' tk hi hv hk => ?_
  have hi2 : its[i]? = some v := by simpa using hi
  obtain ⟨w, hw, rw_⟩ := vals_getV rv hi2
  obtain ⟨z, hz1, hz2⟩ := HA.at (i := i) (v := v) (by simpa using hi)
  have e := pr_uniq (hz2.keeps hk) hv
  subst e
  exact ⟨w, H, I.kept hk, rw_, q i w hw hz1⟩
end
section
variable {K : PySem.W.Frag}
/-- (number, text) -/
def prW (p : Int × List Nat) : Wv := .tup [.int p.1, .str p.2]
def prsOf : List Wv → Option (List (Int × List Nat))
  | [] => some []
  | .tup [.int n, .str l] :: r => (prsOf r).map fun ls => (n, l) :: ls
  | _ :: _ => none
theorem prsOf_map (ps : List (Int × List Nat)) : prsOf (ps.map prW) = some ps := by
  induction ps with
  | nil => rfl
  | cons p r ih =>
    show (prsOf (r.map prW)).map _ = _
    rw [ih]
    rfl
theorem prsOf_ok : ∀ {ws : List Wv} {ls : List (Int × List Nat)}, prsOf ws = some ls → ws = ls.map prW := by
  intro ws
  induction ws with
  | nil => intro ls h; cases h; rfl
  | cons w r ih =>
    intro ls h
    unfold prsOf at h
    split at h
    · rename_i e
      cases e
    · rename_i n l r2 e
      cases e
      cases q : prsOf r with
      | none => rw [q] at h; cases h
      | some l2 =>
        rw [q] at h
        cases h
        rw [ih q]
        rfl
    · cases h
def toPr (p : Int × List Nat) : Pr := (p.1, S p.2)
/-- the first least, the first greatest -/
def ltP (p q : Int × List Nat) : Bool := if p.1 = q.1 then decide (p.2 < q.2) else decide (p.1 < q.1)
def minP (x : Int × List Nat) (xs : List (Int × List Nat)) : Int × List Nat := xs.foldl (fun a y => if ltP y a = true then y else a) x
def maxP (x : Int × List Nat) (xs : List (Int × List Nat)) : Int × List Nat := xs.foldl (fun a y => if ltP a y = true then y else a) x
theorem ltP_eq (p q : Int × List Nat) : PySem.W.DatumOrd.lt (toPr p) (toPr q) = ltP p q := by
  show (if p.1 = q.1 then decide ((S p.2).cps.toList < (S q.2).cps.toList) else decide (p.1 < q.1)) = _
  rfl
theorem toPr_inj {p q : Int × List Nat} (h : toPr p = toPr q) : p = q := by
  obtain ⟨a, b⟩ := p
  obtain ⟨c, d⟩ := q
  have h1 := congrArg Prod.fst h
  have h2 := congrArg Prod.snd h
  have h3 : b = d := S_inj h2
  have h4 : a = c := h1
  rw [h3, h4]
theorem minOf_eq (xs : List (Int × List Nat)) : ∀ x, PySem.W.minOf (toPr x) (xs.map toPr) = toPr (minP x xs) := by
  unfold PySem.W.minOf minP
  induction xs with
  | nil => intro x; rfl
  | cons y ys ih =>
    intro x
    rw [List.map_cons, List.foldl_cons, List.foldl_cons, ltP_eq]
    rw [← ih]
    cases ltP y x <;> rfl
theorem maxOf_eq (xs : List (Int × List Nat)) : ∀ x, PySem.W.maxOf (toPr x) (xs.map toPr) = toPr (maxP x xs) := by
  unfold PySem.W.maxOf maxP
  induction xs with
  | nil => intro x; rfl
  | cons y ys ih =>
    intro x
    rw [List.map_cons, List.foldl_cons, List.foldl_cons, ltP_eq]
    rw [← ih]
    cases ltP x y <;> rfl
theorem dp_prs {Hb H : Hp} (e : Gx Hb H) : ∀ {ps : List (Int × List Nat)} {vs : List V}, RlA K Hb (ps.map prW) vs → DpAll K H vs ((ps.map toPr).map PySem.W.Datum.toD)
  | [], _, .nil => .nil
  | p :: ps, _, .cons r t => by
    refine .cons ?_ (dp_prs e t)
    cases r with
    | tup ha ra => cases ra with
      | cons r1 ra => cases ra with
        | cons r2 rn =>
          cases rn
          cases r1
          cases r2
          exact .tup (SqT.of (e _ _ ha)) (.cons (.int _) (.cons (.str _) .nil))
def fMM (mx : Bool) : Pst → List Wv → Option Wv := f1 fun P x => ((lstP P x).bind prsOf).bind fun ps => match ps with
  | [] => none
  | p :: r => some (prW (if mx then maxP p r else minP p r))
theorem rd_mm {mx : Bool} : RdC K (rMinP K mx) (fMM mx) := fun {Hb H P xs vs w} s r h Po Q k p => by
  obtain ⟨x, e0, h2⟩ := f1_ok h
  subst e0
  cases r with
  | cons rx rn =>
    cases rn
    cases e1 : lstP P x with
    | none => rw [e1] at h2; cases h2
    | some ws =>
      rw [e1] at h2
      simp only [Option.bind_some] at h2
      cases e2 : prsOf ws with
      | none => rw [e2] at h2; cases h2
      | some ps =>
        rw [e2] at h2
        simp only [Option.bind_some] at h2
        cases ps with
        | nil => cases h2
        | cons d ds =>
          cases h2
          have e3 := prsOf_ok e2
          subst e3
          obtain ⟨a, va, rfl, hq, ra⟩ := lstP_ok s rx e1
          refine ⟨a, va, toPr d, ds.map toPr, rfl, SqL.of hq, dp_prs s.ex ra, fun i v hv hi => ?_⟩
          have hi2 : ((d :: ds).map toPr)[i]? = some (toPr (if mx then maxP d ds else minP d ds)) := by
            refine hi.trans ?_
            cases mx with
            | true => exact congrArg some (maxOf_eq ds d)
            | false => exact congrArg some (minOf_eq ds d)
          rw [List.getElem?_map] at hi2
          cases e4 : (d :: ds)[i]? with
          | none => rw [e4] at hi2; cases hi2
          | some z =>
            rw [e4] at hi2
            have e5 : z = (if mx then maxP d ds else minP d ds) := toPr_inj (Option.some.inj hi2)
            subst e5
            obtain ⟨v2, h3, h4⟩ := ra.get (i := i) (w := prW (if mx then maxP d ds else minP d ds)) (by rw [List.getElem?_map, e4]; rfl)
            rw [hv] at h3
            cases h3
            exact k.here s p h4
theorem rd_minD : RdC K (rMinP K false) (fMM false) := rd_mm
theorem rd_maxD : RdC K (rMinP K true) (fMM true) := rd_mm
end
/-! ### x[::-1] -/
def tRevS (te : TE) : TE := fun σ H Q => te σ H fun x H1 => ∃ z : Str, x = .str z ∧ z.length ≤ sizeLine ∧ Q (.str (Txt.sliceBy z none none (-1, 0))) H1
theorem sliceBy_tok (z : Str) (l u : Option (Int × Tok)) (k : Int) (t t' : Tok) : Txt.sliceBy z l u (k, t) = Txt.sliceBy z l u (k, t') := by
  unfold Txt.sliceBy PySem.slicePicked
  rfl
section
variable {X : Cx}
theorem pe_revS {e : Expr} {te : TE} {k : Nat} {p1 p2 p3 pos : Pos} (he : PE X e te) (hle : ∀ (z : Str) (t : Tok) (r : Value), letTemporaryGo e (.str z t) r = pure () := by intro _ _ _; rfl) : PE X (.Subscript e (.Slice none none (some (.UnaryOp .USub (.Constant (.int 1) k p1) p2)) p3) pos) (tRevS te) := by
  refine ⟨fun pins s σ H Q I h => ?_⟩
  refine Subscript_ (thn (he.run pins s σ H _ I h) fun v s1 ⟨x, H1, I1, r1, q1⟩ => ?_)
  obtain ⟨z, ex, hx, q⟩ := q1
  subst ex
  obtain ⟨t, rfl⟩ := r1
  have hst : PO X (some (.UnaryOp .USub (.Constant (.int 1) k p1) p2)) (tPart (tUn (rU fun i => .int (-i)) (tC (.int 1)))) := po_some (pe_un un_neg pe_int)
  refine wpAny_Slice (thn (po_none.run pins s1 σ H1 (fun o H2 => o = none ∧ H2 = H1) I1 ⟨rfl, rfl⟩) fun vl s2 ⟨l, H2, I2, pl, el, e2⟩ => ?_)
  subst el e2
  refine thn (po_none.run pins s2 σ H2 (fun o H3 => o = none ∧ H3 = H2) I2 ⟨rfl, rfl⟩) fun vu s3 ⟨u, H3, I3, pu, eu, e3⟩ => ?_
  subst eu e3
  refine thn (hst.run pins s3 σ H3 (fun o H4 => o = some (-1) ∧ H4 = H3) I3 ⟨1, rfl, -1, rfl, rfl, rfl⟩) fun vs s4 ⟨o, H4, I4, ps, eo, e4⟩ => ?_
  subst eo e4
  have I5 : Inv X pins σ H4 { s4 with heap := s4.heap.push { cls := .type "slice", data := .fields #[vl, vu, vs] } } := I4.kept (t' := s4.toks) fun b ob q => Heap.get?_push_of_some _ q
  show wpAny (model X.prog X.w) X.A (subscriptTail e (.Slice none none (some (.UnaryOp .USub (.Constant (.int 1) k p1) p2)) p3) (.str z t) (.ref s4.heap.objs.size)) (EP X pins σ Q) X.xe { s4 with heap := s4.heap.push { cls := .type "slice", data := .fields #[vl, vu, vs] } }
  obtain ⟨tk, ek⟩ : ∃ tk, vs = .int (-1) tk := by cases ps; exact ⟨_, rfl⟩
  have el : vl = .none := by cases pl; rfl
  have eu : vu = .none := by cases pu; rfl
  subst ek el eu
  refine tail_of_ItemOn ⟨"str", _, PySem.F.slot_str_getitem.lookup, typeIs_str _ _ _, wpAny_getItem_str_slice (l := none) (u := none) (st := some (-1, tk)) ⟨_, Heap.get?_push_size _ rfl, rfl, rfl⟩ rfl
    (post_val_or_str ⟨Nat.le_trans (Txt.sliceBy_le z _ _ (-1, tk) (show (-1 : Int) ≠ 0 by decide)) hx, fun t' c => ?_⟩)⟩ (by with_unfolding_all rfl) (fun r => hle z t r)
  refine ⟨.str (Txt.sliceBy z none none (-1, 0)), H4, I5.tok _, ⟨t', ?_⟩, q⟩
  rw [sliceBy_tok z none none (-1) 0 tk]
  rfl
end
end Fc
namespace Fc
open PySem PySem.Spec PyProof.Rows L2
section
variable {K : PySem.W.Frag}
theorem sliceBy_rev (l : List Nat) : Txt.sliceBy (S l) none none (-1, 0) = S l.reverse := by
  unfold Txt.sliceBy
  rw [if_neg (by simp)]
  have e : slicePicked (S l) none none (some (-1, 0)) = (List.range l.length).map fun k => l.length - 1 - k := by
    unfold slicePicked Builtin.Str.strSliceIndices sliceRange
    simp only [Option.map_none, Option.map_some, Option.getD_some]
    have hn : (S l).length = l.length := rfl
    rw [hn]
    simp only [show ¬ ((-1 : Int) > 0) by decide, if_false]
    by_cases h : ((l.length : Int) - 1 > -1)
    · rw [if_pos h]
      have e1 : (((l.length : Int) - 1 - -1 - -1 - 1) / (- -1)).toNat = l.length := by
        simp only [Int.neg_neg, Int.ediv_one]
        omega
      rw [e1]
      refine List.map_congr_left fun k hk => ?_
      have hk2 := List.mem_range.mp hk
      omega
    · rw [if_neg h]
      have e0 : l.length = 0 := by omega
      rw [e0]
      rfl
  rw [e]
  show (⟨(List.filterMap _ _).toArray⟩ : Str) = ⟨l.reverse.toArray⟩
  congr 2
  refine List.ext_getElem? fun i => ?_
  have e2 : List.filterMap (fun x => (S l).cps[x]?) ((List.range l.length).map fun k => l.length - 1 - k) = (List.range l.length).map fun k => l.getD (l.length - 1 - k) 0 := by
    rw [List.filterMap_map]
    have : ∀ (n : Nat), n ≤ l.length → List.filterMap ((fun x => (S l).cps[x]?) ∘ fun k => l.length - 1 - k) (List.range n) = (List.range n).map fun k => l.getD (l.length - 1 - k) 0 := by
      intro n
      induction n with
      | zero => intro _; rfl
      | succ n ih =>
        intro h
        rw [List.range_succ, List.filterMap_append, List.map_append, ih (by omega)]
        congr 1
        have e3 : (S l).cps[l.length - 1 - n]? = some (l.getD (l.length - 1 - n) 0) := by
          show l.toArray[l.length - 1 - n]? = _
          rw [List.getElem?_toArray, List.getD_eq_getElem?_getD, List.getElem?_eq_getElem (by omega)]
          rfl
        simp only [List.filterMap_cons, Function.comp, e3, List.filterMap_nil, List.map_cons, List.map_nil]
    exact this _ (Nat.le_refl _)
  rw [e2, List.getElem?_map]
  by_cases hi : i < l.length
  · rw [List.getElem?_range hi, List.getElem?_reverse hi]
    show some (l.getD _ 0) = _
    rw [List.getD_eq_getElem?_getD, List.getElem?_eq_getElem (by omega)]
    rfl
  · rw [List.getElem?_eq_none (by rw [List.length_range]; omega), List.getElem?_eq_none (by rw [List.length_reverse]; omega)]
    rfl
def dRevS (d : WE) : WE := fun G P Po => d G P fun w P1 => strP w fun l => l.length ≤ 1000 ∧ Po (.str l.reverse) P1
theorem de_revS {t : TE} {d : WE} (h : De K t d) : De K (tRevS t) (dRevS d) := ⟨fun hd σ Hb H g s Q k => h.run hd g s fun w P1 v Hb1 H1 p1 g1 s1 r1 => by
  cases r1 with
  | str l =>
    refine ⟨S l, rfl, sz1000 p1.1, ?_⟩
    rw [sliceBy_rev]
    exact (k.go g1).here s1 p1.2 (.str _)
  | _ => exact p1.elim⟩
/-! ### text * 0, text * 1 -/
def rMulS : R2 := fun x y H Q => ∃ (z : Str) (i : Int), x = .str z ∧ y = .int i ∧ (i = 0 ∨ i = 1) ∧ z.length ≤ sizeLine ∧ Q (.str (if i = 0 then Str.empty else z)) H
theorem op_mulStr {X : Cx} : OpR X (binaryOp .Mult) rMulS := by
  intro pins s σ H x y v u Q I rx ry h
  obtain ⟨z, i, rfl, rfl, hi, hz, q⟩ := h
  obtain ⟨t, rfl⟩ := rx
  obtain ⟨t', rfl⟩ := ry
  rcases hi with rfl | rfl
  · refine PySem.P.mul_str_none (by decide) (by decide) ⟨.str Str.empty, H, I.tok _, ⟨_, rfl⟩, q⟩
  · refine PySem.P.mul_str (by decide) (fun _ h => by simp at h) (fun _ h => by simp at h) ?_
    rw [if_neg (by decide), if_pos (by simp)]
    exact ⟨.str z, H, I, ⟨_, rfl⟩, q⟩
def fMulS : Pst → Wv → Wv → Option Wv := fun _ x y => match x, y with
  | .str z, .int i => if (i = 0 ∨ i = 1) ∧ z.length ≤ 1000 then some (.str (if i = 0 then [] else z)) else none
  | _, _ => none
theorem rd_mulStr : RdOp K rMulS fMulS := fun {Hb H P x y vx vy w} s rx ry h Po Q k p => by
  unfold fMulS at h
  split at h
  · rename_i z i
    split at h
    · rename_i c
      cases h
      cases rx
      cases ry
      refine ⟨S z, i, rfl, rfl, c.1, sz1000 c.2, ?_⟩
      have e : (if i = 0 then Str.empty else S z) = S (if i = 0 then [] else z) := by
        split <;> rfl
      rw [e]
      exact k.here s p (.str _)
    · cases h
  · cases h
/-! ### str(n), str(text) -/
def rStrQ : List V → Hp → VK → Prop := fun xs H Q => (∃ i, xs = [.int i] ∧ i.natAbs.log2 < 1920 ∧ Q (.str (toString i)) H) ∨ (∃ a, xs = [.str a] ∧ Q (.str a) H)
theorem call_strQ {X : Cx} : CallR X (.type "str") rStrQ := CallR.or call_str_int (by
  intro pins s σ H xs us Q I r h
  obtain ⟨a, rfl, q⟩ := h
  obtain ⟨u, rfl, t, rfl⟩ := vals1 r
  exact PySem.P.str_of_str ⟨.str a, H, I, ⟨t, rfl⟩, q⟩)
/-- the digits of a number -/
def decW (i : Int) : List Nat := (Str.ofString (toString i)).cps.toList
def fStr : Pst → List Wv → Option Wv := f1 fun _ x => match x with
  | .int i => if i.natAbs < 1000000 then some (.str (decW i)) else none
  | .str l => some (.str l)
  | _ => none
theorem rd_str : RdC K rStrQ fStr := fun {Hb H P xs vs w} s r h Po Q k p => by
  obtain ⟨x, e0, h2⟩ := f1_ok h
  subst e0
  cases r with
  | cons rx rn =>
    cases rn
    cases rx with
    | int i =>
      simp only at h2
      split at h2
      · rename_i hz
        cases h2
        refine .inl ⟨i, rfl, ?_, ?_⟩
        · exact Nat.lt_of_le_of_lt (show i.natAbs.log2 ≤ 20 from by
            by_cases h0 : i.natAbs = 0
            · rw [h0]; decide
            · have := (Nat.log2_lt h0 (k := 20)).mpr (by omega); omega) (by decide)
        · show Q (.str (Str.ofString (toString i))) H
          have e : Str.ofString (toString i) = S (decW i) := (S_eta _).symm
          rw [e]
          exact k.here s p (.str _)
      · cases h2
    | str l => cases h2; exact .inr ⟨S l, rfl, k.here s p (.str _)⟩
    | _ => cases h2
/-! ### list(text) -/
def rListS : List V → Hp → VK → Prop := fun xs H Q => ∃ z : Str, xs = [.str z] ∧ z.length ≤ 1000 ∧ ∀ p, H p = none → Q (.ref p) (upd H p (.lst (z.cps.toList.map fun c => .str ⟨#[c]⟩)))
theorem call_listS {X : Cx} (hc : X.calm = true := by rfl) : CallR X (.type "list") rListS := by
  intro pins s σ H xs us Q I r h
  obtain ⟨z, rfl, hz, q⟩ := h
  obtain ⟨u, rfl, t, rfl⟩ := vals1 r
  refine call_list_str (I.ok.hd hc) z t (fun h' tk acc c' hk ho hi => ?_) (Nat.le_trans hz (by decide))
  have rel : Vals (z.cps.toList.map fun c => V.str ⟨#[c]⟩) acc.toList := by
    have hl : (z.cps.toList.map fun c => V.str ⟨#[c]⟩).length = acc.toList.length := by
      rw [List.length_map, Array.length_toList, Array.length_toList]
      exact hi.1.symm
    have gen : ∀ (xs : List V) (us : List Value), xs.length = us.length → (∀ (j : Nat) (x : V) (u : Value), xs[j]? = some x → us[j]? = some u → RelV x u) → Vals xs us := by
      intro xs
      induction xs with
      | nil => intro us h _; cases us with
        | nil => exact .nil
        | cons _ _ => cases h
      | cons a as ih => intro us h hh; cases us with
        | nil => cases h
        | cons b bs => exact .cons (hh 0 a b rfl rfl) (ih bs (by simpa using h) fun j x u e1 e2 => hh (j + 1) x u (by simpa using e1) (by simpa using e2))
    refine gen _ _ hl fun j x u e1 e2 => ?_
    obtain ⟨c, t2, h1, rfl⟩ := hi.2 j u (by simpa using e2)
    rw [List.getElem?_map] at e1
    have e3 : z.cps.toList[j]? = some c := by simpa using h1
    rw [e3] at e1
    cases e1
    exact ⟨_, rfl⟩
  have hsz : acc.size ≤ sizeLine := by
    rw [hi.1]
    exact Nat.le_trans hz (by decide)
  refine ⟨.ref s.heap.objs.size, upd H s.heap.objs.size (.lst (z.cps.toList.map fun c => .str ⟨#[c]⟩)), I.laid (t' := tk) (fun b o e => hk b o e) (Nat.le_refl _) ?_, rfl, q _ (I.hok.fresh (Nat.le_refl _))⟩
  refine ⟨?_, acc.toList, c', rel, ?_⟩
  · rw [rel.length, Array.length_toList]; exact hsz
  · simpa using ho
def fListS : Pst → List Wv → Option Wv := f1 fun _ x => match x with
  | .str l => if l.length ≤ 1000 then some (.lst (sgnW l)) else none
  | _ => none
theorem rl_sgn {Hb : Hp} : ∀ l : List Nat, RlA K Hb (sgnW l) (l.map fun c => V.str ⟨#[c]⟩)
  | [] => .nil
  | c :: l => .cons (.str [c]) (rl_sgn l)
theorem rd_listS : RdC K rListS fListS := fun {Hb H P xs vs w} s r h Po Q k p => by
  obtain ⟨x, e0, h2⟩ := f1_ok h
  subst e0
  cases r with
  | cons rx rn =>
    cases rn
    cases rx with
    | str l =>
      simp only at h2
      split at h2
      · rename_i hz
        cases h2
        exact ⟨S l, rfl, hz, fun q hq => k.lst s (rl_sgn l) p hq⟩
      · cases h2
    | _ => cases h2
/-! ### max(i, j) -/
def rMax2 : List V → Hp → VK → Prop := fun xs H Q => ∃ i j, xs = [.int i, .int j] ∧ Q (.int (if j > i then j else i)) H
theorem call_max2Q {X : Cx} (hc : X.calm = true) : CallR X (.builtin "max") rMax2 := L2.call_max2 hc
def fMax2 : Pst → List Wv → Option Wv := fun _ xs => match xs with
  | [.int i, .int j] => some (.int (if j > i then j else i))
  | _ => none
theorem rd_max2 : RdC K rMax2 fMax2 := fun {Hb H P xs vs w} s r h Po Q k p => by
  unfold fMax2 at h
  split at h
  · cases h
    cases r with
    | cons r1 r2 => cases r2 with
      | cons r3 rn =>
        cases rn
        cases r1
        cases r3
        exact ⟨_, _, rfl, k.here s p (.int _)⟩
  · cases h
/-! ### dict(pairs) -/
def rDictP (K : PySem.W.Frag) : List V → Hp → VK → Prop := fun xs H Q => ∃ (a : Addr) (ps : List Addr) (kvs : List (Key × V)), xs = [.ref a] ∧ SqL K H a (ps.map V.ref) ∧ Paired (fun p kv => SqT K H p [kV kv.1, kv.2]) ps kvs ∧
    ∀ p, H p = none → Q (.ref p) (upd H p (.dK (mergeK [] kvs)))
theorem call_dictPQ {X : Cx} (hc : X.calm = true) : CallR X (.type "dict") (rDictP X.K) := call_dictP hc
/-- pairs (text, value) -/
def kvsOf : List Wv → Option (List (List Nat × Wv))
  | [] => some []
  | .tup [.str l, w] :: r => (kvsOf r).map fun ls => (l, w) :: ls
  | _ :: _ => none
def kvW (p : List Nat × Wv) : Wv := .tup [.str p.1, p.2]
theorem kvsOf_map (ps : List (List Nat × Wv)) : kvsOf (ps.map kvW) = some ps := by
  induction ps with
  | nil => rfl
  | cons p r ih =>
    show (kvsOf (r.map kvW)).map _ = _
    rw [ih]
    rfl
theorem kvsOf_ok : ∀ {ws : List Wv} {ls : List (List Nat × Wv)}, kvsOf ws = some ls → ws = ls.map kvW := by
  intro ws
  induction ws with
  | nil => intro ls h; cases h; rfl
  | cons w r ih =>
    intro ls h
    unfold kvsOf at h
    split at h
    · rename_i e
      cases e
    · rename_i n l r2 e
      cases e
      cases q : kvsOf r with
      | none => rw [q] at h; cases h
      | some l2 =>
        rw [q] at h
        cases h
        rw [ih q]
        rfl
    · cases h
def mergeW (a b : List (List Nat × Wv)) : List (List Nat × Wv) := b.foldl (fun acc p => putD acc p.1 p.2) a
theorem mergeW_nd {b : List (List Nat × Wv)} : ∀ {a : List (List Nat × Wv)}, NdK a → NdK (mergeW a b) := by
  induction b with
  | nil => intro a h; exact h
  | cons p r ih => intro a h; exact ih (putD_nd h)
theorem RlD.merge {Hb : Hp} {b : List (List Nat × Wv)} {d : List (Key × V)} (r : RlD K Hb b d) : ∀ {a : List (List Nat × Wv)} {c : List (Key × V)}, RlD K Hb a c → NdK a → RlD K Hb (mergeW a b) (mergeK c d) := by
  unfold RlD at r
  induction r with
  | nil => intro a c r0 _; exact r0
  | @cons p q ps qs h t ih =>
    intro a c r0 n
    obtain ⟨l, w⟩ := p
    obtain ⟨y, v⟩ := q
    obtain ⟨h1, h2⟩ := h
    simp only at h1
    subst h1
    exact ih (RlD.put h2 r0 n) (putD_nd n)
theorem pairs_rel {Hb H : Hp} (e : Gx Hb H) : ∀ {ps : List (List Nat × Wv)} {vs : List V}, RlA K Hb (ps.map kvW) vs → ∃ (as : List Addr) (kvs : List (Key × V)), vs = as.map V.ref ∧ Paired (fun p kv => SqT K H p [kV kv.1, kv.2]) as kvs ∧ RlD K Hb ps kvs
  | [], _, .nil => ⟨[], [], rfl, .nil, .nil⟩
  | p :: ps, _, .cons r t => by
    obtain ⟨as, kvs, e1, h1, h2⟩ := pairs_rel e t
    cases r with
    | @tup a us _ ha ra => cases ra with
      | cons r1 ra => cases ra with
        | @cons _ v2 _ _ r2 rn =>
          cases rn
          cases r1
          exact ⟨a :: as, (Sum.inr (S p.1), v2) :: kvs, by rw [e1]; rfl, .cons (SqT.of (e _ _ ha)) h1, .cons ⟨rfl, r2⟩ h2⟩
def fDictP : Pst → List Wv → Option SO := f1 fun P x => ((lstP P x).bind kvsOf).map fun ps => .dic (mergeW [] ps)
theorem rd_dictP : RdCN K (rDictP K) fDictP := fun {Hb H P xs vs w} s r h Po Q k p => by
  obtain ⟨x, e0, h2⟩ := f1_ok h
  subst e0
  cases r with
  | cons rx rn =>
    cases rn
    cases e1 : lstP P x with
    | none => rw [e1] at h2; cases h2
    | some ws =>
      rw [e1] at h2
      simp only [Option.bind_some] at h2
      cases e2 : kvsOf ws with
      | none => rw [e2] at h2; cases h2
      | some ps =>
        rw [e2] at h2
        cases h2
        have e3 := kvsOf_ok e2
        subst e3
        obtain ⟨a, va, rfl, hq, ra⟩ := lstP_ok s rx e1
        obtain ⟨as, kvs, e4, h3, h4⟩ := pairs_rel s.ex ra
        subst e4
        exact ⟨a, as, kvs, rfl, SqL.of hq, h3, fun q hq => k.priv s (.dic (RlD.merge h4 .nil List.nodup_nil) (mergeW_nd List.nodup_nil)) p hq⟩
end
end Fc
namespace Fc
open PySem PySem.Spec PyProof.Rows L2
/-! ### d.update(e) -/
def tDUpd (td te : TE) : TE := fun σ H Q => td σ H fun x H1 => ∃ a, x = .ref a ∧ IsD H1 a ∧ te σ H1 fun y H2 => ∃ (b : Addr) (ks ms : List (Key × V)), y = .ref b ∧ a ≠ b ∧ H2 a = some (.dK ks) ∧ Rd H2 b (.dK ms) ∧ ks.length + ms.length ≤ sizeLine ∧ Q .non (upd H2 a (.dK (mergeK ks ms)))
section
variable {X : Cx}
theorem pe_dupd {o e : Expr} {apos cpos : Pos} {td te : TE} (ho : PE X o td) (he : PE X e te) (m : M1 X o "update" apos e cpos := by exact ⟨rfl, rfl, rfl, rfl⟩) : PE X (.Call (.Attribute o "update" apos) [e] [] cpos) (tDUpd td te) := by
  refine ⟨fun pins s σ H Q I h => ?_⟩
  refine wpAny_Call_method m.base m.few m.line PySem.F.plainAttrs_dict PySem.F.slot_dict_update PySem.F.type_dict_update (thn (ho.run pins s σ H _ I h) fun u s1 ⟨x, H1, I1, rx, a, ex, d, q1⟩ => ?_)
  subst ex
  obtain rfl : u = Value.ref a := rx
  obtain ⟨t1, t2, _⟩ := isD_at I1 d
  refine ⟨t1, t2, ?_⟩
  rw [m.trees]
  refine Calls.callWith_builtin rfl (Calls.evalArgs_plain (Calls.spliced_cons (thn (he.run pins s1 σ H1 _ I1 q1) fun iv s2 ⟨y, H2, I2, ry, b, ks, ms, ey, hne, ha, hb, hz, q2⟩ => Calls.spliced_nil ?_)))
  subst ey
  obtain rfl : iv = Value.ref b := ry
  obtain ⟨za, hda, va, ra, da⟩ := dk_of I2.hok ha
  obtain ⟨zb, hdb, vb, rb, db⟩ := dk_rd I2.hok hb
  refine call_meetsIn PySem.F.slot_dict_update da.typeIs PySem.F.entry_dict_update (PySem.F.args_dict_update_2 _ _) (meets_dict_update (mixKind X.prog X.w) a b hne hdb)
    ⟨va, vb, da, db, (by rw [← ra.length, ← rb.length]; exact hz), fun h' dd' _ hs => ?_⟩
  have he' : ∃ q, h'.get? a = some q := let ⟨q, _, _, hq, _⟩ := dd'; ⟨q, hq⟩
  have hl : (mergeK ks ms).length ≤ sizeLine := Nat.le_trans (length_mergeK ms ks) hz
  exact ⟨.non, _, d_write (t' := s2.toks) I2 (by rw [ha]; exact True.intro) hs he' (dk_new hl hda (rb.merge ra) dd'), rfl, q2⟩
/-! ### sorted(d) -/
def rSortD : List V → Hp → VK → Prop := fun xs H Q => ∃ (a : Addr) (kvs : List (Key × V)) (ks : List Str), xs = [.ref a] ∧ Rd H a (.dK kvs) ∧ kvs.map (·.1) = ks.map Sum.inr ∧ ks.length < 64 ∧
    ∀ ys p, ys.Perm ks → sortedS ys = true → H p = none → Q (.ref p) (upd H p (.lst (ys.map V.str)))
theorem call_sortedDQ (hc : X.calm = true) : CallR X (.builtin "sorted") rSortD := call_sortedD hc
/-! ### a field as a target -/
def gFld (K : PySem.W.Frag) (ta : TE) (f : Str) : TG := fun v σ H Q => ta σ H fun x H1 => ∃ a C dx fs, x = .ref a ∧ H1 a = some (.ins C dx fs) ∧ Cls K C ∧ NoAttr K C f ∧ fs.length < 1000 ∧ Q σ (upd H1 a (.ins C dx (putF f v fs)))
theorem pg_fld {o : Expr} {f : Str} {ta : TE} {pos : Pos} (ha : PE X o ta) : PG X (.Attribute o f pos) (gFld X.K ta f) := by
  refine ⟨fun pins s σ H v u Q I r h => ?_⟩
  rw [arm_assign_Attribute]
  refine wpAny_bind (wpAny_holding (thn (ha.run pins s σ H _ I h) fun ov s1 ⟨x, H1, I1, r1, a, C, dx, fs, ex, ea, c, n, l, q1⟩ => ?_))
  subst ex
  obtain rfl : ov = Value.ref a := r1
  refine wpAny_bind (wpAny_standAt (wpAny_bind (wpAny_holding ?_)))
  exact setattr_ok I1 ea c n l r fun s3 I3 => wpAny_release ⟨σ, _, I3, q1⟩
end
section
variable {K : PySem.W.Frag}
def dDUpd (dd dv : WE) : WE := fun G P Po => dd G P fun x P1 => (∃ a ks, x = .r a ∧ P1 a = some (.dic ks)) ∧ dv G P1 fun y P2 => OptP (dicM P2 x) fun p => OptP (dicM P2 y) fun q => p.1 ≠ q.1 ∧ p.2.length + q.2.length ≤ 1000 ∧ Po .non (updP P2 p.1 (.dic (mergeW p.2 q.2)))
theorem de_dupd {td te : TE} {dd dv : WE} (h1 : De K td dd) (h2 : De K te dv) : De K (tDUpd td te) (dDUpd dd dv) := ⟨fun hd σ Hb H g s Q k => h1.run hd g s fun x P1 vx Hb1 H1 p1 g1 s1 r1 => by
  obtain ⟨⟨a, ks0, rfl, ha0⟩, p1⟩ := p1
  cases r1
  obtain ⟨_, u, hu, su⟩ := s1.pv a _ ha0
  refine ⟨a, rfl, ?_, ?_⟩
  · cases su with
    | dic rd _ => exact .inl ⟨_, .inl hu⟩
  refine h2.run p1 (g.mono g1.ex) s1 fun y P2 vy Hb2 H2 p2 g2 s2 r2 => ?_
  obtain ⟨⟨a2, ks⟩, e1, ⟨b, ms⟩, e2, hne, hz, q⟩ := p2
  obtain ⟨ea, hpa, _, ⟨kv, hHa, rda⟩, nda⟩ := dicM_ok s2 (Rl.r a) e1
  cases ea
  obtain ⟨_, hpb, evy, ⟨mv, hHb, rdb⟩, ndb⟩ := dicM_ok s2 r2 e2
  obtain ⟨s3, g3⟩ := s2.mut hpa (SoR.dic (RlD.merge rdb rda nda) (mergeW_nd nda))
  exact ⟨b, kv, mv, evy, hne, hHa, .inl hHb, by rw [← rda.len, ← rdb.len]; exact sz1000 hz, k _ _ _ _ _ q ((g1.trans g2).trans g3) s3 .non⟩⟩
/-- sorted(d): the keys in some order -/
def dSrt (a : WA) : WE := fun G P Po => a G P fun ws P1 => ∃ w ks, ws = [w] ∧ dicP P1 w = some ks ∧ ks.length < 64 ∧ ∀ ls : List (List Nat), ls.Perm (ks.map (·.1)) → Po (.lst (ls.map .str)) P1
def dSrtN (a : WA) : WE := fun G P Po => a G P fun ws P1 => ∃ w ks, ws = [w] ∧ dicP P1 w = some ks ∧ ks.length < 64 ∧ ∀ ls : List (List Nat), ls.Perm (ks.map (·.1)) → ∀ q, P1 q = none → Po (.r q) (updP P1 q (.lst (ls.map .str)))
theorem keys_S {Hb : Hp} {ks : List (List Nat × Wv)} {kv : List (Key × V)} (r : RlD K Hb ks kv) : kv.map (·.1) = ((ks.map (·.1)).map S).map Sum.inr := by
  unfold RlD at r
  induction r with
  | nil => rfl
  | @cons p q l1 l2 hp _ ih =>
    rw [List.map_cons, List.map_cons, List.map_cons, List.map_cons, ih, hp.1]
theorem perm_S {ys : List Str} {ks : List (List Nat)} (h : ys.Perm (ks.map S)) : ∃ ls : List (List Nat), ys = ls.map S ∧ ls.Perm ks := by
  refine ⟨ys.map fun y => y.cps.toList, ?_, ?_⟩
  · rw [List.map_map]
    have : (S ∘ fun y : Str => y.cps.toList) = id := by funext y; exact S_eta y
    rw [this, List.map_id]
  · have h2 := h.map fun y : Str => y.cps.toList
    rw [List.map_map] at h2
    have : ((fun y : Str => y.cps.toList) ∘ S) = id := by funext y; rfl
    rw [this, List.map_id] at h2
    exact h2
theorem rl_strs {Hb : Hp} (ls : List (List Nat)) : RlA K Hb (ls.map .str) ((ls.map S).map V.str) := by
  have h := RlA.strs (K := K) (H := Hb) ls
  rw [List.map_map]
  exact h
theorem de_srt {t : TA} {a : WA} (h : DA K t a) : De K (tCB rSortD t) (dSrt a) := ⟨fun hd σ Hb H g s Q k => h.run hd g s fun ws P1 vs Hb1 H1 p g1 s1 r1 => by
  obtain ⟨w, ks, rfl, e, hl, q⟩ := p
  cases r1 with
  | cons rx rn =>
    cases rn
    obtain ⟨b, kv, rfl, hr, rd, nd⟩ := dicP_ok s1 rx e
    refine ⟨b, kv, (ks.map (·.1)).map S, rfl, hr, keys_S rd, by rw [List.length_map, List.length_map]; exact hl, fun ys p hp _ hn => ?_⟩
    obtain ⟨ls, rfl, hp2⟩ := perm_S hp
    exact (k.go g1).lst s1 (rl_strs ls) (q ls hp2) hn⟩
theorem de_srtN {t : TA} {a : WA} (h : DA K t a) : De K (tCB rSortD t) (dSrtN a) := ⟨fun hd σ Hb H g s Q k => h.run hd g s fun ws P1 vs Hb1 H1 p g1 s1 r1 => by
  obtain ⟨w, ks, rfl, e, hl, q⟩ := p
  cases r1 with
  | cons rx rn =>
    cases rn
    obtain ⟨b, kv, rfl, hr, rd, nd⟩ := dicP_ok s1 rx e
    refine ⟨b, kv, (ks.map (·.1)).map S, rfl, hr, keys_S rd, by rw [List.length_map, List.length_map]; exact hl, fun ys p hp _ hn => ?_⟩
    obtain ⟨ls, rfl, hp2⟩ := perm_S hp
    exact (k.go g1).priv s1 (.lst (rl_strs ls)) (q ls hp2) hn⟩
/-- o.f among targets -/
def gdFld (C : Addr) (i : Nat) (da : WE) : WG := fun y G P Po => da G P fun x P2 => OptP (insOf C P2 x) fun q => q.2.2.length < 1000 ∧ Po G (updP P2 q.1 (.ins C q.2.1 (putN i y q.2.2)))
theorem dg_fld {ta : TE} {da : WE} {f : Str} (C : Addr) (i : Nat) (hC : Cls K C) (hn : NoAttr K C f) (ha : De K ta da) (hf : f = nm i := by rfl) (hi : i < 17 := by decide) : DGt K (gFld K ta f) (gdFld C i da) [] := ⟨fun {w G P Po} p {v σ Hb H} r g s Q k => ha.run p g s fun x P2 vx Hb2 H2 p2 g2 s2 r2 => by
  obtain ⟨⟨a, dx, fs⟩, e, hl, q⟩ := p2
  subst hf
  obtain ⟨rfl, rfl, hp, fv, ho, rf⟩ := insOf_ok s2 r2 e
  obtain ⟨s3, g3⟩ := s2.mut hp (SoR.ins (C := C) (dx := dx) (rf.put hi (r.mono g2.ex)))
  exact ⟨a, C, dx, fv, rfl, ho, hC, hn, by rw [← rf.len]; exact hl, k _ _ _ _ _ q (fun _ _ => rfl) (g2.trans g3) s3 ((g.mono g2.ex).mono g3.ex)⟩⟩
/-- d[k] among targets -/
def gdSubD (dd dk : WE) : WG := fun w G P Po => dd G P fun x P2 => dk G P2 fun y P3 => strP y fun l => OptP (dicM P3 x) fun q => q.2.length < 1000 ∧ Po G (updP P3 q.1 (.dic (putD q.2 l w)))
theorem dg_subD {td tk : TE} {dd dk : WE} (h1 : De K td dd) (h2 : De K tk dk) : DGt K (gSub td tk rSetD) (gdSubD dd dk) [] := ⟨fun {w G P Po} p {v σ Hb H} r g s Q k => h1.run p g s fun x P2 vx Hb2 H2 p2 g2 s2 r2 => h2.run p2 (g.mono g2.ex) s2 fun y P3 vy Hb3 H3 p3 g3 s3 r3 => by
  cases r3 with
  | str l =>
    obtain ⟨⟨a, ks⟩, e1, hz, q⟩ := p3
    obtain ⟨_, hp, hv, ⟨kv, hH, rd⟩, nd⟩ := dicM_ok s3 (r2.mono g3.ex) e1
    obtain ⟨s4, g4⟩ := s3.mut hp (SoR.dic (rd.put (l := l) ((r.mono g2.ex).mono g3.ex) nd) (putD_nd nd))
    skip
    refine ⟨a, _, hv, DPut.k (k := Sum.inr (S l)) hH (by rw [← rd.len]; exact Nat.lt_of_lt_of_le hz (by decide)), k _ _ _ _ _ q (fun _ _ => rfl) ((g2.trans g3).trans g4) s4 (((g.mono g2.ex).mono g3.ex).mono g4.ex)⟩
  | _ => exact p3.elim⟩
/-! ### a dict while it is walked -/
theorem lock_in {Hb H : Hp} {P : Pst} (s : Sit K Hb H P) {a : Addr} {ks : List (List Nat × Wv)} (hp : P a = some (.dic ks)) : ∃ kv, H a = some (.dK kv) ∧ Mut (some (.dK kv)) ∧ ∀ od, Sit K Hb (upd H a (.frz od (.dK kv))) (updP P a (.fdic (.frz od (.dK kv)) ks)) ∧ Gw Hb P H Hb (updP P a (.fdic (.frz od (.dK kv)) ks)) (upd H a (.frz od (.dK kv))) := by
  obtain ⟨_, o, ho, so⟩ := s.pv a _ hp
  cases so with
  | dic rd nd => exact ⟨_, ho, True.intro, fun od => s.mut hp (.fdic rd nd)⟩
theorem lock_out {Hb H : Hp} {P : Pst} (s : Sit K Hb H P) {a : Addr} {ks : List (List Nat × Wv)} {od : Obj} {kv : List (Key × V)} (hp : P a = some (.fdic (.frz od (.dK kv)) ks)) : H a = some (.frz od (.dK kv)) ∧ Sit K Hb (upd H a (.dK kv)) (updP P a (.dic ks)) ∧ Gw Hb P H Hb (updP P a (.dic ks)) (upd H a (.dK kv)) := by
  obtain ⟨_, o, ho, so⟩ := s.pv a _ hp
  cases so with
  | fdic rd nd => exact ⟨ho, s.mut hp (.dic rd nd)⟩
def dLock (d : WS) : WS := fun D G P => ∃ a ks, P a = some (.dic ks) ∧ ∀ u, d ⟨fun G' P' => P' a = some (.fdic u ks) ∧ D.nx G' (updP P' a (.dic ks)), fun w P' => P' a = some (.fdic u ks) ∧ D.rt w (updP P' a (.dic ks)), fun G' P' => P' a = some (.fdic u ks) ∧ D.bk G' (updP P' a (.dic ks)), fun G' P' => P' a = some (.fdic u ks) ∧ D.ct G' (updP P' a (.dic ks))⟩ G (updP P a (.fdic u ks))
theorem ds_lock {t : TS} {d : WS} (h : DS K t d) : DS K (tLock t) (dLock d) := ⟨fun {G P D} p {σ Hb H} g s E k => by
  obtain ⟨a, ks, hp, q⟩ := p
  obtain ⟨kv, hH, mu, z⟩ := lock_in s hp
  refine ⟨a, _, hH, mu, fun od => ?_⟩
  obtain ⟨s1, g1⟩ := z od
  refine h.run (q (.frz od (.dK kv))) g s1 ⟨?_, ?_, ?_, ?_⟩
  · rintro G' P' σ' Hb' H' ⟨e, q'⟩ g' s' m'
    obtain ⟨h1, s2, g2⟩ := lock_out s' e
    exact ⟨h1, k.nx _ _ _ _ _ q' ((g1.trans g').trans g2) s2 m'⟩
  · rintro w P' v Hb' H' ⟨e, q'⟩ g' s' r'
    obtain ⟨h1, s2, g2⟩ := lock_out s' e
    exact ⟨h1, k.rt _ _ _ _ _ q' ((g1.trans g').trans g2) s2 r'⟩
  · rintro G' P' σ' Hb' H' ⟨e, q'⟩ g' s' m'
    obtain ⟨h1, s2, g2⟩ := lock_out s' e
    exact ⟨h1, k.bk _ _ _ _ _ q' ((g1.trans g').trans g2) s2 m'⟩
  · rintro G' P' σ' Hb' H' ⟨e, q'⟩ g' s' m'
    obtain ⟨h1, s2, g2⟩ := lock_out s' e
    exact ⟨h1, k.ct _ _ _ _ _ q' ((g1.trans g').trans g2) s2 m'⟩⟩
def dLockE (d : WE) : WE := fun G P Po => ∃ a ks, P a = some (.dic ks) ∧ ∀ u, d G (updP P a (.fdic u ks)) fun w P' => P' a = some (.fdic u ks) ∧ Po w (updP P' a (.dic ks))
theorem de_lock {t : TE} {d : WE} (h : De K t d) : De K (tLockE t) (dLockE d) := ⟨fun {G P Po} p {σ Hb H} g s Q k => by
  obtain ⟨a, ks, hp, q⟩ := p
  obtain ⟨kv, hH, mu, z⟩ := lock_in s hp
  refine ⟨a, _, hH, mu, fun od => ?_⟩
  obtain ⟨s1, g1⟩ := z od
  refine h.run (q (.frz od (.dK kv))) g s1 ?_
  rintro w P' v Hb' H' ⟨e, q'⟩ g' s' r'
  obtain ⟨h1, s2, g2⟩ := lock_out s' e
  exact ⟨h1, k _ _ _ _ _ q' ((g1.trans g').trans g2) s2 r'⟩⟩
def dIKeys (d : WE) : WI := fun G P Pi => d G P fun w P1 => ∃ a o kv ks, w = .r a ∧ P1 a = some (.fdic (.frz o (.dK kv)) ks) ∧ Pi (keysW ks) (fun P => P a = some (.fdic (.frz o (.dK kv)) ks)) P1
theorem fz_at {Hb H : Hp} {P : Pst} (s : Sit K Hb H P) {a : Addr} {ks : List (List Nat × Wv)} {o : Obj} {kv : List (Key × V)} (hp : P a = some (.fdic (.frz o (.dK kv)) ks)) : H a = some (.frz o (.dK kv)) ∧ RlD K Hb ks kv := by
  obtain ⟨_, o2, ho, so⟩ := s.pv a _ hp
  cases so with
  | fdic rd nd => exact ⟨ho, rd⟩
theorem di_keys {t : TE} {d : WE} (h : De K t d) : DI K (iKeys t) (dIKeys d) := ⟨fun {G P Pi} p {σ Hb H} g s R k => h.run p g s fun w P1 v Hb1 H1 p1 g1 s1 r1 => by
  obtain ⟨a, o, kv, ks, rfl, hp, q⟩ := p1
  cases r1
  obtain ⟨hH, rd⟩ := fz_at s1 hp
  have hl : (keysW ks).length = kv.length := by rw [keysW, List.length_map]; exact rd.len
  refine ⟨a, o, rfl, .inl ⟨kv, hH, k (Itk a o kv) (keysW ks) (fun P => P a = some (.fdic (.frz o (.dK kv)) ks)) P1 Hb1 H1 q ⟨fun i Hb2 H2 P2 e2 s2 gd hi => ?_, fun Hb2 H2 P2 e2 s2 gd => ?_, fun i Hb2 H2 P2 x H' e2 s2 gd hi y => ?_⟩ g1 s1⟩⟩
  · exact ⟨(fz_at s2 gd).1, by rw [← hl]; exact hi⟩
  · exact ⟨(fz_at s2 gd).1, by rw [hl]; exact Nat.le_refl _⟩
  · obtain ⟨rfl, k2, v2, hk, rfl⟩ := y
    have ra := (fz_at s2 gd).2.keys
    obtain ⟨w2, h3, h4⟩ := ra.getV (i := i) (v := kV k2) (by rw [List.getElem?_map, hk]; rfl)
    exact ⟨w2, Hb2, h3, Gw.refl, s2, h4⟩⟩
def itemsW (ks : List (List Nat × Wv)) : List Wv := ks.map kvW
def dIItems (d : WE) : WI := fun G P Pi => d G P fun w P1 => ∃ a o kv ks, w = .r a ∧ P1 a = some (.fdic (.frz o (.dK kv)) ks) ∧ Pi (itemsW ks) (fun P => P a = some (.fdic (.frz o (.dK kv)) ks)) P1
theorem RlD.get {Hb : Hp} : ∀ {ks : List (List Nat × Wv)} {kv : List (Key × V)} {i : Nat} {k : Key} {v : V}, RlD K Hb ks kv → kv[i]? = some (k, v) → ∃ l w, ks[i]? = some (l, w) ∧ k = Sum.inr (S l) ∧ Rl K Hb w v
  | _, _, i, _, _, .nil, e => by simp at e
  | p :: _, _, 0, _, _, .cons r _, e => by
    simp at e
    subst e
    exact ⟨p.1, p.2, rfl, r.1, r.2⟩
  | _, _, i + 1, k, v, .cons _ t, e => by
    obtain ⟨l, w, h1, h2, h3⟩ := RlD.get (i := i) (k := k) (v := v) t (by simpa using e)
    exact ⟨l, w, by simpa using h1, h2, h3⟩
theorem di_items {t : TE} {d : WE} (h : De K t d) : DI K (iItems t) (dIItems d) := ⟨fun {G P Pi} p {σ Hb H} g s R k => h.run p g s fun w P1 v Hb1 H1 p1 g1 s1 r1 => by
  obtain ⟨a, o, kv, ks, rfl, hp, q⟩ := p1
  cases r1
  obtain ⟨hH, rd⟩ := fz_at s1 hp
  have hl : (itemsW ks).length = kv.length := by rw [itemsW, List.length_map]; exact rd.len
  refine ⟨a, o, kv, rfl, hH, k (Iti a o kv) (itemsW ks) (fun P => P a = some (.fdic (.frz o (.dK kv)) ks)) P1 Hb1 H1 q ⟨fun i Hb2 H2 P2 e2 s2 gd hi => ?_, fun Hb2 H2 P2 e2 s2 gd => ?_, fun i Hb2 H2 P2 x H' e2 s2 gd hi y => ?_⟩ g1 s1⟩
  · exact ⟨(fz_at s2 gd).1, by rw [← hl]; exact hi⟩
  · exact ⟨(fz_at s2 gd).1, by rw [hl]; exact Nat.le_refl _⟩
  · obtain ⟨T, k2, v2, hk, rfl, hT, rfl⟩ := y
    obtain ⟨l, w2, h3, rfl, h5⟩ := (fz_at s2 gd).2.get hk
    obtain ⟨s3, g3⟩ := s2.new (o := .tup [kV (Sum.inr (S l)), v2]) hT
    exact ⟨kvW (l, w2), _, by rw [itemsW, List.getElem?_map, h3]; rfl, g3, s3, .tup upd_same (.cons (.str l) (.cons (h5.mono g3.ex) .nil))⟩⟩
/-! ### dict comprehensions -/
@[irreducible] def DcR (ws : List Wv) (gu : Pst → Prop) (gd : WG) (dt : WT) (dk dv : WE) (G : Env) (P1 : Pst) (Po : Wv → Pst → Prop) : Prop := ∃ I : Nat → List (List Nat × Wv) → Prop, I 0 [] ∧ gu P1 ∧ (∀ i acc, I i acc → acc.length < 1000) ∧
  (∀ i w acc, ws[i]? = some w → I i acc → gd w G P1 fun G3 P3 => dt G3 P3 fun b P4 => if b = true then dk G3 P4 fun y P5 => strP y fun l => dv G3 P5 fun z P6 => P6 = P1 ∧ I (i + 1) (putD acc l z) else P4 = P1 ∧ I (i + 1) acc) ∧ ∀ acc, I ws.length acc → ∀ q, P1 q = none → Po (.r q) (updP P1 q (.dic acc))
def dDc (di : WI) (gd : WG) (dt : WT) (dk dv : WE) (vs : List Nat) : WE := fun G P Po => di G P fun ws gu P1 => DcR ws gu gd dt dk dv (wipeW G vs) P1 Po
theorem de_dc {ti : TI} {tg : TG} {tt : TT} {tk tv : TE} {di : WI} {gd : WG} {dt : WT} {dk dv : WE} {js vs : List Nat} (hi : DI K ti di) (hg : DGt K tg gd js) (ht : DT K tt dt) (hk : De K tk dk) (he : De K tv dv) (hj : ∀ j ∈ js, j ∈ vs) : De K (tDc ti tg tt tk tv vs) (dDc di gd dt dk dv vs) := ⟨fun {G P Po} p {σ Hb H} g s Q k => hi.run p g s fun J ws gu P1 Hb1 H1 p1 it g1 s1 => by
  have p1 : DcR _ _ _ _ _ _ _ _ _ := p1
  unfold DcR at p1
  obtain ⟨I, h0, hgu, hlen, hs, hd⟩ := p1
  intro D hD
  obtain ⟨hbD, hPD⟩ := s1.free hD
  refine ⟨fun i m H2 => m = ws.length - i ∧ i ≤ ws.length ∧ ∃ acc us Hb2, I i acc ∧ Sit K Hb2 H2 P1 ∧ H2 D = some (.dK us) ∧ RlD K Hb2 acc us ∧ NdK acc ∧ Hb2 D = none ∧ Gx Hb1 Hb2 ∧ Gw Hb P H Hb2 P1 H2, ⟨ws.length, by simp, Nat.zero_le _, [], [], Hb1, h0, s1.aside hbD hPD, upd_same, .nil, List.nodup_nil, hbD, Gx.refl _, g1.trans ⟨Gx.refl _, fun b o q1 q2 q3 => ⟨by rw [upd_ne (ne_of_none q1 hD)]; exact q1, q2, q3⟩⟩⟩, ?_⟩
  rintro i m H2 ⟨rfl, hle, acc, us, Hb2, hI, s2, hD2, ra, nd, hb2, e2, g2⟩
  by_cases hlt : i < ws.length
  · refine .inr ⟨it.go i Hb2 H2 P1 e2 s2 hgu hlt, fun H3 => i + 1 ≤ ws.length ∧ ∃ acc us Hb3, I (i + 1) acc ∧ Sit K Hb3 H3 P1 ∧ H3 D = some (.dK us) ∧ RlD K Hb3 acc us ∧ NdK acc ∧ Hb3 D = none ∧ Gx Hb1 Hb3 ∧ Gw Hb P H Hb3 P1 H3, ?_, ?_⟩
    · rintro H3 ⟨h1, rest⟩
      exact ⟨ws.length - (i + 1), by omega, rfl, h1, rest⟩
    · intro x H' y
      obtain ⟨w, Hb3, hw, g3, s3, r3⟩ := it.yld i Hb2 H2 P1 x H' e2 s2 hgu hlt y
      obtain ⟨hD3, hb3, hp3⟩ := g3.fr D _ hD2 hb2 hPD
      have m0 : Gm K Hb3 (wipeW G vs) (wipe σ vs) := ((g.mono g1.ex).mono (e2.trans g3.ex)).wipe vs
      refine hg.run (hs i w acc hw hI) r3 m0 s3 fun G4 P4 σ4 Hb4 H4 p4 w4 g4 s4 m4 => ?_
      obtain ⟨hD4, hb4, hp4⟩ := g4.fr D _ hD3 hb3 hp3
      refine ⟨(w4 vs hj).trans (wipe_wipe σ vs), ?_⟩
      refine ht.run p4 m4 s4 fun b P5 Hb5 H5 p5 g5 s5 => ?_
      obtain ⟨hD5, hb5, hp5⟩ := g5.fr D _ hD4 hb4 hp4
      have gg : Gw Hb P H Hb5 P5 H5 := ((g2.trans g3).trans g4).trans g5
      have ee : Gx Hb2 Hb5 := (g3.ex.trans g4.ex).trans g5.ex
      cases b with
      | true =>
        rw [if_pos rfl] at p5 ⊢
        refine hk.run p5 (m4.mono g5.ex) s5 fun y1 P6 vy Hb6 H6 p6 g6 s6 r6 => ?_
        obtain ⟨hD6, hb6, hp6⟩ := g6.fr D _ hD5 hb5 hp5
        cases r6 with
        | str l =>
          refine he.run p6 ((m4.mono g5.ex).mono g6.ex) s6 fun z P7 vz Hb7 H7 p7 g7 s7 r7 => ?_
          obtain ⟨hD7, hb7, hp7⟩ := g7.fr D _ hD6 hb6 hp6
          obtain ⟨rfl, p7⟩ := p7
          have e7 : Gx Hb2 Hb7 := (ee.trans g6.ex).trans g7.ex
          have ra7 : RlD K Hb7 acc us := Paired.mapP ra fun p q z => ⟨z.1, z.2.mono e7⟩
          have gl : Gw Hb P H Hb7 P7 (upd H7 D (.dK (putK us (Sum.inr (S l)) vz))) := by
            have ga : Gw Hb P H Hb7 P7 H7 := (gg.trans g6).trans g7
            refine ⟨ga.ex, fun c o q1 q2 q3 => ?_⟩
            obtain ⟨z1, z2, z3⟩ := ga.fr c o q1 q2 q3
            refine ⟨?_, z2, z3⟩
            rw [upd_ne]
            · exact z1
            · intro hc
              obtain ⟨y1, _, _⟩ := g1.fr c o q1 q2 q3
              rw [hc, hD] at y1
              cases y1
          refine ⟨us, Sum.inr (S l), rfl, hD7, ?_, hlt, putD acc l z, _, Hb7, p7, s7.aside hb7 hp7, upd_same, ra7.put r7 nd, putD_nd nd, hb7, e2.trans e7, gl⟩
          rw [← ra.len]
          exact Nat.lt_of_lt_of_le (hlen _ _ hI) (by decide)
        | _ => exact p6.elim
      | false =>
        rw [if_neg Bool.false_ne_true] at p5 ⊢
        obtain ⟨rfl, p5⟩ := p5
        exact ⟨hlt, acc, us, Hb5, p5, s5, hD5, Paired.mapP ra fun p q z => ⟨z.1, z.2.mono ee⟩, nd, hb5, e2.trans ee, gg⟩
  · have e : i = ws.length := by omega
    subst e
    refine .inl ⟨it.stop Hb2 H2 P1 e2 s2 hgu, ?_⟩
    have s3 : Sit K Hb2 H2 (updP P1 D (.dic acc)) := ⟨s2.ex, fun c so q => by
      by_cases hc : c = D
      · subst hc
        rw [updP_same] at q
        cases q
        exact ⟨hb2, _, hD2, .dic ra nd⟩
      · rw [updP_ne hc] at q
        exact s2.pv c so q⟩
    have g3 : Gw Hb P H Hb2 (updP P1 D (.dic acc)) H2 := ⟨g2.ex, fun c o q1 q2 q3 => by
      obtain ⟨z1, z2, z3⟩ := g2.fr c o q1 q2 q3
      refine ⟨z1, z2, ?_⟩
      rw [updP_ne]
      · exact z3
      · intro hc
        obtain ⟨y1, _, _⟩ := g1.fr c o q1 q2 q3
        rw [hc, hD] at y1
        cases y1⟩
    exact k _ _ _ _ _ (hd acc hI D hPD) g3 s3 (.r D)⟩
/-! ### dicts compared: the same -/
def flatW : Wv → Bool
  | .non => true | .bl _ => true | .int _ => true | .str _ => true
  | _ => false
def SameD (ks ls : List (List Nat × Wv)) : Prop := ks.length = ls.length ∧ ∀ p ∈ ks, lookD ls p.1 = some p.2 ∧ flatW p.2 = true
open Classical in
noncomputable def fNeDic : Pst → Wv → Wv → Option Wv := fun P x y => (dicM P x).bind fun p => (dicM P y).bind fun q => if SameD p.2 q.2 then some (.bl false) else none
theorem e_neDic {P : Pst} {x y : Wv} {p q : Addr × List (List Nat × Wv)} (h1 : dicM P x = some p) (h2 : dicM P y = some q) (h : SameD p.2 q.2) : fNeDic P x y = some (.bl false) := by
  unfold fNeDic
  rw [h1, h2]
  exact if_pos h
theorem rl_flat {Hb : Hp} {w : Wv} {v u : V} (f : flatW w = true) (h1 : Rl K Hb w v) (h2 : Rl K Hb w u) : v = u ∧ flatB u = true := by
  cases h1 with
  | non => cases h2; exact ⟨rfl, rfl⟩
  | bl b => cases h2; exact ⟨rfl, rfl⟩
  | int b => cases h2; exact ⟨rfl, rfl⟩
  | str b => cases h2; exact ⟨rfl, rfl⟩
  | _ => cases f
theorem rd_neDic : RdOp K rNeDA fNeDic := fun {Hb H P x y vx vy w} s rx ry h Po Q k p => by
  unfold fNeDic at h
  cases e1 : dicM P x with
  | none => rw [e1] at h; cases h
  | some z1 =>
    cases e2 : dicM P y with
    | none => rw [e1, e2] at h; cases h
    | some z2 =>
      rw [e1, e2] at h
      simp only [Option.bind_some] at h
      split at h
      · rename_i c
        cases h
        obtain ⟨a, ks⟩ := z1
        obtain ⟨b, ls⟩ := z2
        obtain ⟨_, _, hva, ⟨kv, hHa, ra⟩, _⟩ := dicM_ok s rx e1
        obtain ⟨_, _, hvb, ⟨lv, hHb, rb⟩, _⟩ := dicM_ok s ry e2
        refine ⟨a, b, kv, lv, hva, hvb, hHa, hHb, by rw [← ra.len, ← rb.len]; exact c.1, ?_, k.here s p (.bl _)⟩
        intro pv hpv
        obtain ⟨i, hi⟩ := List.mem_iff_getElem?.mp hpv
        obtain ⟨kk, vv⟩ := pv
        obtain ⟨l, w2, h1, rfl, h3⟩ := ra.get hi
        obtain ⟨c1, c2⟩ := c.2 (l, w2) (List.mem_of_getElem? h1)
        rcases rb.look (l := l) with ⟨h4, _⟩ | ⟨w3, v3, h4, h5, h6⟩
        · rw [h4] at c1; cases c1
        · rw [h4] at c1
          cases c1
          obtain ⟨f1, f2⟩ := rl_flat c2 h3 h6
          exact ⟨by rw [h5, f1], by rw [f1]; exact f2⟩
      · cases h
end
/-- the rules' names for gen.py -/
theorem pi_enumL {X : Cx} {e : Expr} {ta : TA} {p pos tpos : Pos} {elts : List Expr} {kk : Nat} (hg : Gl X "enumerate") (hm : X.mg "enumerate" = none) (ha : PA X [e] ta) (hs : starEach [e] X.env = [(false, eval e X.env)] := by rfl) :
    PI X (.Tuple elts kk tpos) (.Call (.Name "enumerate" p) [e] [] pos) (iEnum X.K ta) := pi_enum hg hm ha hs
theorem op_neDic {X : Cx} (hu : X.A.units + 1 < cLine) : OpR X (compareOp .NotEq) rNeDA := op_ne_dictA (by omega)
end Fc
namespace Fc
open PySem PySem.Spec PyProof.Rows L2
/-! ### the data of a grammar -/
def tInt : List Nat := [105, 110, 116]
def tCh : List Nat := [99, 104, 111, 105, 99, 101]
def tWd : List Nat := [119, 111, 114, 100]
inductive Kd where
  | non | int (lo hi : Int) | ch (ws : List (List Nat)) | word
  deriving DecidableEq
def Kd.w : Kd → Wv
  | .non => .non
  | .int lo hi => .tup [.str tInt, .int lo, .int hi]
  | .ch ws => .tup [.str tCh, .tup (ws.map .str)]
  | .word => .tup [.str tWd]
structure Op where
  nm : List Nat
  lt : List Nat
  kd : Kd
def Op.w (o : Op) : Wv := .tup [.str o.nm, .str o.lt, o.kd.w]
def optsW (os : List Op) : Wv := .tup (os.map Op.w)
def gramW (os : List Op) (lo hi : Int) : Wv := .tup [optsW os, .tup [.int lo, .int hi], .tup []]
def NameOk (x : List Nat) : Prop := 1 ≤ x.length ∧ x.length ≤ 12 ∧ (∃ c, x[0]? = some c ∧ c ≠ 45) ∧ (∃ c, x[x.length - 1]? = some c ∧ c ≠ 45) ∧ ∀ c ∈ x, c ∈ cLT ++ [45]
def LetOk (x : List Nat) : Prop := x = [] ∨ ∃ c, x = [c] ∧ c ∈ cLT
def WordOk (x : List Nat) : Prop := 1 ≤ x.length ∧ x.length ≤ 12 ∧ ∀ c ∈ x, c ∈ cLT
def KdOk : Kd → Prop
  | .non => True
  | .int lo hi => -9999 ≤ lo ∧ lo ≤ hi ∧ hi ≤ 9999
  | .ch ws => 1 ≤ ws.length ∧ ws.length ≤ 8 ∧ ws.Nodup ∧ ∀ x ∈ ws, WordOk x
  | .word => True
structure OpOk (o : Op) : Prop where
  nm : NameOk o.nm
  lt : LetOk o.lt
  kd : KdOk o.kd
structure GOk (os : List Op) (lo hi : Int) : Prop where
  len1 : 1 ≤ os.length
  len2 : os.length ≤ 12
  ops : ∀ o ∈ os, OpOk o
  nms : (os.map (·.nm)).Nodup
  lts : ((os.map (·.lt)).filter (fun l => decide (l ≠ []))).Nodup
  lo0 : 0 ≤ lo
  lohi : lo ≤ hi
  hi9 : hi ≤ 9
/-- a text of the alphabet -/
def TokOk (x : List Nat) : Prop := x.length ≤ 200 ∧ ∀ c ∈ x, c ∈ cAB
/-- an option's value -/
def VOk : Kd → Wv → Prop
  | .non, w => w = .bl true
  | .int lo hi, w => ∃ i, w = .int i ∧ lo ≤ i ∧ i ≤ hi
  | .ch ws, w => ∃ l, w = .str l ∧ l ∈ ws
  | .word, w => ∃ l, w = .str l ∧ TokOk l
theorem LT_AB : ∀ c ∈ cLT, c ∈ cAB := by decide
theorem letOk_len {x : List Nat} (h : LetOk x) : x.length ≤ 1 := by
  rcases h with rfl | ⟨c, rfl, _⟩ <;> simp
theorem letOk_mem {x : List Nat} (h : LetOk x) : ∀ c ∈ x, c ∈ cLT := by
  rcases h with rfl | ⟨c, rfl, h⟩
  · intro c hc; cases hc
  · intro d hd; have : d = c := by simpa using hd
    rw [this]; exact h
/-! ### steps, more -/
theorem e_neg {P : Pst} {i : Int} : negW P (.int i) = some (.int (-i)) := rfl
theorem map_get {α : Type} {f : α → Wv} {l : List α} {i : Nat} {w : Wv} (h : (l.map f)[i]? = some w) : ∃ x, l[i]? = some x ∧ x ∈ l ∧ w = f x := by
  rw [List.getElem?_map] at h
  cases e : l[i]? with
  | none => rw [e] at h; cases h
  | some c =>
    rw [e] at h
    cases h
    exact ⟨c, rfl, List.mem_of_getElem? e, rfl⟩
theorem enumW_inv {ws : List Wv} {i : Nat} {w : Wv} (h : (enumW ws)[i]? = some w) : ∃ x, ws[i]? = some x ∧ w = .tup [.int (i : Int), x] := by
  cases e : ws[i]? with
  | none =>
    have hl : (enumW ws)[i]? = none := by
      rw [List.getElem?_eq_none_iff, enumW_len]
      exact List.getElem?_eq_none_iff.mp e
    rw [hl] at h
    cases h
  | some x =>
    rw [enumW_get e] at h
    cases h
    exact ⟨x, rfl, rfl⟩
theorem all_true {ws : List Wv} : (ws.all fun _ => true) = true := List.all_eq_true.mpr fun _ _ => rfl
theorem e_allT {P : Pst} {ws : List Wv} : fAll P [.lst (ws.map fun _ => .bl true)] = some (.bl true) := by
  rw [e_all (P := P) (ws := ws) (fun _ => true), all_true]
theorem e_in {n : Bool} {P : Pst} {x y : Wv} {b : Bool} (h : inW P x y = some b) : fIn n P x y = some (.bl (if n then !b else b)) := by
  unfold fIn
  rw [h]
  rfl
theorem inW_strs {P : Pst} {l : List Nat} {y : Wv} {ls : List (List Nat)} (h : seqP P y = some (ls.map .str)) : inW P (.str l) y = some (decide (l ∈ ls)) := by
  unfold inW
  simp only [h, Option.bind_some, strsOf_map, Option.map_some]
theorem e_inS {n : Bool} {P : Pst} {c : Nat} {z : List Nat} : fInS n P (.str [c]) (.str z) = some (.bl (if n then !decide (c ∈ z) else decide (c ∈ z))) := rfl
theorem e_lenL {P : Pst} {w : Wv} {ws : List Wv} (h : seqP P w = some ws) (hs : ∀ z, w ≠ .str z := by intro z e; cases e) : fLen P [w] = some (.int (ws.length : Int)) := by
  unfold fLen f1
  simp only
  have e : lenW P w = some ws.length := by
    unfold lenW
    cases w with
    | str z => exact absurd rfl (hs z)
    | _ => simp only [h, Option.map_some]
  rw [e]
  rfl
theorem e_ixL {P : Pst} {w : Wv} {ws : List Wv} {i : Int} {x : Wv} (h : seqP P w = some ws) (e : atI ws i = some x) (hs : ∀ z, w ≠ .str z := by intro z e; cases e) : ixW P w (.int i) = some x := by
  unfold ixW
  cases w with
  | str z => exact absurd rfl (hs z)
  | _ => simp only [h, Option.bind_some, e]
theorem eqW_str (i j : List Nat) : eqW (.str i) (.str j) = some (decide (i = j)) := by unfold eqW; rfl
theorem e_eqS {P : Pst} {i j : List Nat} : fEq P (.str i) (.str j) = some (.bl (decide (i = j))) := by unfold fEq; rw [eqW_str]; rfl
theorem e_neS {P : Pst} {i j : List Nat} : fNe P (.str i) (.str j) = some (.bl (!decide (i = j))) := by unfold fNe; rw [eqW_str]; rfl
theorem e_eqI {P : Pst} {i j : Int} : fEq P (.int i) (.int j) = some (.bl (decide (i = j))) := by unfold fEq eqW; rfl
theorem e_neI {P : Pst} {i j : Int} : fNe P (.int i) (.int j) = some (.bl (!decide (i = j))) := by unfold fNe eqW; rfl
theorem datP_of {P : Pst} {w : Wv} {d : PyData} (h : datW w = some d) (hs : ∀ a, w ≠ .r a := by intro z e; cases e) : datP P w = some d := by
  unfold datP
  cases w with
  | r a => exact absurd rfl (hs a)
  | _ => exact h
theorem e_eqD {n : Bool} {P : Pst} {x y : Wv} {d e : PyData} {b : Bool} (h1 : datP P x = some d) (h2 : datP P y = some e) (h3 : SeqAt.shaped d = true) (h4 : SeqAt.shaped e = true) (h5 : PyData.eqv d e = b) : fEqD n P x y = some (.bl (if n then !b else b)) := by
  unfold fEqD
  rw [h1, h2]
  show (if SeqAt.shaped d = true ∧ SeqAt.shaped e = true then _ else _) = _
  rw [if_pos ⟨h3, h4⟩, h5]
/-! ### lists of texts compared -/
theorem eqvAll_strs : ∀ a b : List (List Nat), PyData.eqvAll (a.map fun l => .str (S l)) (b.map fun l => .str (S l)) = decide (a = b)
  | [], [] => by simp only [List.map_nil, PyData.eqvAll, decide_true]
  | [], _ :: _ => by simp [PyData.eqvAll]
  | _ :: _, [] => by simp [PyData.eqvAll]
  | x :: xs, y :: ys => by
    rw [List.map_cons, List.map_cons, PyData.eqvAll, eqvAll_strs xs ys]
    have e : PyData.eqv (.str (S x)) (.str (S y)) = decide (x = y) := by
      simp only [PyData.eqv]
      rw [Bool.eq_iff_iff]
      simp only [beq_iff_eq, decide_eq_true_eq]
      exact ⟨S_inj, fun e => by rw [e]⟩
    rw [e, ← Bool.decide_and]
    exact decide_eq_decide.mpr (by rw [List.cons.injEq])
end Fc
namespace Fc
open PySem PySem.Spec PyProof.Rows L2
theorem okT_of {l : List Nat} (h : ∀ c ∈ l, c < 1114112) : okT l := by
  unfold okT PyData.strOk
  rw [Array.all_eq_true]
  intro i hi
  have e : (S l).cps[i]? = l[i]? := by
    show l.toArray[i]? = l[i]?
    simp
  rw [Array.getElem?_eq_getElem hi] at e
  exact decide_eq_true (h _ (List.mem_of_getElem? e.symm))
theorem AB_lt : ∀ c ∈ cAB, c < 1114112 := by decide
theorem LT_lt : ∀ c ∈ cLT, c < 1114112 := by decide
theorem okT_AB {l : List Nat} (h : ∀ c ∈ l, c ∈ cAB) : okT l := okT_of fun c hc => AB_lt c (h c hc)
theorem okT_LT {l : List Nat} (h : ∀ c ∈ l, c ∈ cLT) : okT l := okT_of fun c hc => LT_lt c (h c hc)
theorem okT_name {l : List Nat} (h : NameOk l) : okT l := okT_of fun c hc => by
  have := h.2.2.2.2 c hc
  rcases List.mem_append.mp this with q | q
  · exact LT_lt c q
  · have : c = 45 := by simpa using q
    omega
theorem eqv_nil (ds : List PyData) : PyData.eqv (.list ds) (.list []) = ds.isEmpty := by
  cases ds <;> simp [PyData.eqv, PyData.eqvAll]
theorem eqv_strs (a b : List (List Nat)) : PyData.eqv (.list (a.map fun l => .str (S l))) (.list (b.map fun l => .str (S l))) = decide (a = b) := by
  simp only [PyData.eqv]
  exact eqvAll_strs a b
theorem shaped_nil : SeqAt.shaped (.list []) = true := by decide
theorem shaped_tup {ds : List PyData} (h1 : PyData.canLayAll0 ds = true) (h2 : PyData.depthAll ds ≤ 10) : SeqAt.shaped (.tuple ds) = true := by
  unfold SeqAt.shaped
  have e1 : (PyData.tuple ds).canLay0 = true := h1
  have e2 : (PyData.tuple ds).depth ≤ 64 := by
    unfold PyData.depth
    omega
  rw [e1, decide_eq_true e2]
  rfl
def Kd.d : Kd → PyData
  | .non => .none
  | .int lo hi => .tuple [.str (S tInt), .int lo, .int hi]
  | .ch ws => .tuple [.str (S tCh), .tuple (ws.map fun l => .str (S l))]
  | .word => .tuple [.str (S tWd)]
theorem kd_dat (k : Kd) : datW k.w = some k.d := by
  cases k with
  | non => rfl
  | int lo hi => simp only [Kd.w, Kd.d, datW, datL]; rfl
  | ch ws => simp only [Kd.w, Kd.d, datW, datL, datL_strs]; rfl
  | word => simp only [Kd.w, Kd.d, datW, datL]; rfl
theorem kd_shaped {k : Kd} (h : KdOk k) : SeqAt.shaped k.d = true := by
  cases k with
  | non => decide
  | int lo hi =>
    refine shaped_tup ?_ ?_
    · simp only [PyData.canLayAll0, PyData.canLay0]
      decide +kernel
    · simp [PyData.depthAll, PyData.depth]
  | ch ws =>
    have hs : ∀ l ∈ ws, okT l := fun l hl => okT_LT (h.2.2.2 l hl).2.2
    refine shaped_tup ?_ ?_
    · simp only [PyData.canLayAll0, PyData.canLay0, canL_strs hs]
      decide +kernel
    · simp [PyData.depthAll, PyData.depth, dep_strs]
  | word => decide +kernel
theorem kd_isword (k : Kd) (h : k ≠ .non) : PyData.eqv k.d (.tuple [.str (S tWd)]) = decide (k = .word) := by
  cases k with
  | non => exact absurd rfl h
  | int lo hi => simp [Kd.d, PyData.eqv, PyData.eqvAll]
  | ch ws => simp [Kd.d, PyData.eqv, PyData.eqvAll]
  | word => simp [Kd.d, PyData.eqv, PyData.eqvAll]
theorem kd_word_dat {P : Pst} : datP P (.tup [.str tWd]) = some (.tuple [.str (S tWd)]) := kd_dat .word
theorem e_kdword {P : Pst} {k : Kd} {b : Bool} (hk : KdOk k) (h : k ≠ .non) (e : decide (k = .word) = b) : fEqD false P k.w (.tup [.str tWd]) = some (.bl b) := by
  have h1 : datP P k.w = some k.d := by
    refine datP_of (kd_dat k) ?_
    intro a e
    cases k <;> cases e
  rw [e_eqD (n := false) (b := b) h1 kd_word_dat (kd_shaped hk) (kd_shaped (k := .word) trivial) ((kd_isword k h).trans e)]
  rfl
end Fc
namespace Fc
theorem st_len {n : Nat} {p : Prop} (h : n ≤ 1000) (q : p) : n ≤ 1000 ∧ p := ⟨h, q⟩
end Fc
namespace Fc
theorem fin_bl {Po : Wv → Pst → Prop} {P : Pst} {b c : Bool} (e : b = c) (h : Po (.bl c) P) : finP Po (.bl b) P := by subst e; exact fin_here h
theorem tupS_get {f : List Nat → Wv} {ls : List (List Nat)} {i : Nat} {w : Wv} (h : (ls.map f)[i]? = some w) : ∃ x, ls[i]? = some x ∧ x ∈ ls ∧ w = f x := map_get h
end Fc
namespace Fc
theorem st_eqr {α : Type} {a : α} {p : Prop} (q : p) : a = a ∧ p := ⟨rfl, q⟩
end Fc
namespace Fc
open PySem PySem.Spec PyProof.Rows L2
theorem nodup_take {α β : Type} {f : α → β} {os : List α} (h : (os.map f).Nodup) {i : Nat} {o : α} (e : os[i]? = some o) : f o ∉ (os.take i).map f := by
  intro hm
  obtain ⟨x, hx, ex⟩ := List.mem_map.mp hm
  obtain ⟨j, hj⟩ := List.mem_iff_getElem?.mp hx
  rw [List.getElem?_take] at hj
  by_cases hji : j < i
  · rw [if_pos hji] at hj
    obtain ⟨hjl, ej⟩ := List.getElem?_eq_some_iff.mp hj
    obtain ⟨hil, ei⟩ := List.getElem?_eq_some_iff.mp e
    have := List.pairwise_iff_getElem.mp h j i (by simpa using hjl) (by simpa using hil) hji
    apply this
    rw [List.getElem_map, List.getElem_map, ej, ei, ex]
  · rw [if_neg hji] at hj
    cases hj
theorem nodup_takeF {α : Type} {f : α → List Nat} {os : List α} (h : ((os.map f).filter fun l => decide (l ≠ [])).Nodup) {i : Nat} {o : α} (e : os[i]? = some o) (hne : f o ≠ []) : f o ∉ ((os.take i).map f).filter fun l => decide (l ≠ []) := by
  obtain ⟨hil, ei⟩ := List.getElem?_eq_some_iff.mp e
  have hd : os = os.take i ++ o :: os.drop (i + 1) := by
    conv => lhs; rw [← List.take_append_drop i os]
    congr 1
    rw [List.drop_eq_getElem_cons hil, ei]
  rw [hd, List.map_append, List.filter_append, List.map_cons, List.filter_cons, if_pos (decide_eq_true hne)] at h
  have := (List.nodup_append.mp h).2.2
  intro hm
  exact this _ hm _ List.mem_cons_self rfl
theorem take_map_succ {α β : Type} {f : α → β} {os : List α} {i : Nat} {o : α} (e : os[i]? = some o) : (os.take (i + 1)).map f = (os.take i).map f ++ [f o] := by
  rw [take_succ_get e, List.map_append]
  rfl
theorem keys_put {l : List Nat} {w : Wv} {ks : List (List Nat × Wv)} (h : l ∉ ks.map (·.1)) : (putD ks l w).map (·.1) = ks.map (·.1) ++ [l] := by
  rw [putD_none (lookD_none.mpr h), List.map_append]
  rfl
theorem look_no {l : List Nat} {ks : List (List Nat × Wv)} (h : l ∉ ks.map (·.1)) : (lookD ks l).isSome = false := by
  rw [lookD_none.mpr h]
  rfl
theorem dicM_at {P : Pst} {a : Addr} {ks : List (List Nat × Wv)} (h : P a = some (.dic ks)) : dicM P (.r a) = some (a, ks) := by
  unfold dicM
  simp only [h]
theorem dicP_at {P : Pst} {a : Addr} {ks : List (List Nat × Wv)} (h : P a = some (.dic ks)) : dicP P (.r a) = some ks := by
  unfold dicP
  simp only [h]
  rfl
theorem lstP_at {P : Pst} {a : Addr} {ks : List Wv} (h : P a = some (.lst ks)) : lstP P (.r a) = some ks := by
  unfold lstP
  simp only [h]
  rfl
theorem seqP_at {P : Pst} {a : Addr} {ks : List Wv} (h : P a = some (.lst ks)) : seqP P (.r a) = some ks := by
  unfold seqP
  simp only [h]
  rfl
theorem lstM_at {P : Pst} {a : Addr} {ks : List Wv} (h : P a = some (.lst ks)) : lstM P (.r a) = some (a, ks) := by
  unfold lstM
  simp only [h]
theorem fldW_at {C : Addr} {i : Nat} {P : Pst} {a dx : Addr} {fs : List (Nat × Wv)} {w : Wv} (h : P a = some (.ins C dx fs)) (e : fs.lookup i = some w) : fldW C i P (.r a) = some w := by
  unfold fldW
  simp only [h, if_pos, e]
theorem insOf_at {C : Addr} {P : Pst} {a dx : Addr} {fs : List (Nat × Wv)} (h : P a = some (.ins C dx fs)) : insOf C P (.r a) = some (a, dx, fs) := by
  unfold insOf
  simp only [h, if_pos]
theorem fin_sub {Po : Wv → Pst → Prop} {w : Wv} {P P' : Pst} (s : SubP P P') (h : Po w P) : finP Po w P' := ⟨P, s, h⟩
theorem tyW_tup {P : Pst} {ws : List Wv} : tyW P (.tup ws) = some .tup := rfl
theorem updP_at {P : Pst} {a b : Addr} {o : SO} {x : Option SO} (h : b ≠ a) (e : P b = x) : updP P a o b = x := (updP_ne h).trans e
end Fc
namespace Fc
open PySem PySem.Spec PyProof.Rows L2
theorem S_eq (l : List Nat) : S l = SX.S l := rfl
theorem part_in {z p q : List Nat} {c : Nat} (e : z = p ++ c :: q) (h : c ∉ p) : partL z [c] = [.str p, .str [c], .str q] := by
  have h1 : TL.par [c] [] z = some (p, q) := by rw [e]; exact SX.par_head q h
  have h2 := SX.partition_some (a := z) (b := [c]) (by simp) h1
  unfold partL
  rw [S_eq, S_eq, h2]
theorem part_no {z : List Nat} {c : Nat} (h : c ∉ z) : partL z [c] = [.str z, .str [], .str []] := by
  have h1 : TL.par [c] [] z = none := SX.par_head_none h
  have h2 := SX.partition_none (a := z) (b := [c]) (by simp) h1
  unfold partL
  rw [S_eq, S_eq, h2]
theorem joinW_eq (s : List Nat) (ls : List (List Nat)) : joinW s ls = TL.joinL s ls := by
  unfold joinW
  have h := SX.join_S s ls
  have e : ls.map S = ls.map SX.S := rfl
  rw [S_eq, e, h]
theorem start_eq (z s : List Nat) : Txt.startswith (S z) (S s) = decide (z.take s.length = s) := by
  unfold Txt.startswith
  rw [StrLaws.subAt_eq]
  have e1 : (S z).cps.toList = z := rfl
  have e2 : (S s).cps.toList = s := rfl
  have e3 : (S z).length = z.length := rfl
  have e4 : (S s).length = s.length := rfl
  rw [e1, e2, e3, e4, List.drop_zero, Bool.eq_iff_iff]
  simp only [Bool.and_eq_true, decide_eq_true_eq, beq_iff_eq]
  constructor
  · exact fun h => h.2
  · intro h
    refine ⟨?_, h⟩
    have := congrArg List.length h
    rw [List.length_take] at this
    omega
end Fc
namespace Fc
open PySem PySem.Spec PyProof.Rows L2
/-! ### lines read into tokens -/
/-- inside quotes q: what is read, what is left -/
inductive QQ (q : Nat) : List Nat → List Nat → List Nat → Prop
  | stop (r : List Nat) : QQ q (q :: r) [] r
  | plain {c : Nat} {r t r' : List Nat} : c ≠ q → (c = 92 → q ≠ 34) → QQ q r t r' → QQ q (c :: r) (c :: t) r'
  | esc {d : Nat} {r t r' : List Nat} : q = 34 → QQ q r t r' → QQ q (92 :: d :: r) (d :: t) r'
/-- a token -/
inductive LO : List Nat → List Nat → List Nat → Prop
  | nil : LO [] [] []
  | sp (r : List Nat) : LO (32 :: r) [] (32 :: r)
  | plain {c : Nat} {r t r' : List Nat} : c ≠ 32 → c ≠ 39 → c ≠ 34 → c ≠ 92 → LO r t r' → LO (c :: r) (c :: t) r'
  | esc {d : Nat} {r t r' : List Nat} : LO r t r' → LO (92 :: d :: r) (d :: t) r'
  | quo {q : Nat} {r t1 r1 t2 r2 : List Nat} : q = 39 ∨ q = 34 → QQ q r t1 r1 → LO r1 t2 r2 → LO (q :: r) (t1 ++ t2) r2
/-- a line -/
inductive LL : List Nat → List (List Nat) → Prop
  | nil : LL [] []
  | sp {r : List Nat} {ts : List (List Nat)} : LL r ts → LL (32 :: r) ts
  | tok {c : Nat} {r t r' : List Nat} {ts : List (List Nat)} : c ≠ 32 → LO (c :: r) t r' → LL r' ts → LL (c :: r) (t :: ts)
theorem QQ.len {q : Nat} {r t r' : List Nat} (h : QQ q r t r') : t.length + r'.length < r.length := by
  induction h with
  | stop r => simp
  | plain _ _ _ ih => simp only [List.length_cons]; omega
  | esc _ _ ih => simp only [List.length_cons]; omega
theorem LO.len {r t r' : List Nat} (h : LO r t r') : r'.length ≤ r.length ∧ t.length + r'.length ≤ r.length := by
  induction h with
  | nil => simp
  | sp r => simp
  | plain _ _ _ _ _ ih => simp only [List.length_cons]; omega
  | esc _ ih => simp only [List.length_cons]; omega
  | @quo q r t1 r1 t2 r2 _ hq _ ih =>
    have := hq.len
    simp only [List.length_cons, List.length_append]
    omega
theorem LO.lt {c : Nat} {r t r' : List Nat} (hc : c ≠ 32) (h : LO (c :: r) t r') : r'.length < r.length + 1 := by
  generalize e : c :: r = x at h
  cases h with
  | nil => cases e
  | sp r => cases e; exact absurd rfl hc
  | plain _ _ _ _ h => cases e; have := h.len; omega
  | esc h => cases e; have := h.len; simp only [List.length_cons]; omega
  | quo _ hq h => cases e; have := h.len; have := hq.len; omega
theorem LL.len {l : List Nat} {ts : List (List Nat)} (h : LL l ts) : ts.length ≤ l.length := by
  induction h with
  | nil => simp
  | sp _ ih => simp only [List.length_cons]; omega
  | tok hc h _ ih => have := LO.lt hc h; simp only [List.length_cons]; omega
/-! ### positions -/
theorem drop_cons {l r : List Nat} {pos c : Nat} (h : l.drop pos = c :: r) : pos < l.length ∧ l[pos]? = some c ∧ l.drop (pos + 1) = r := by
  have hl : pos < l.length := by
    rcases Nat.lt_or_ge pos l.length with h1 | h1
    · exact h1
    · rw [List.drop_eq_nil_of_le h1] at h; cases h
  have h2 := List.drop_eq_getElem_cons hl
  rw [h2] at h
  injection h with h3 h4
  exact ⟨hl, by rw [List.getElem?_eq_getElem hl, h3], h4⟩
theorem drop_len {l r : List Nat} {pos : Nat} (h : l.drop pos = r) (hp : pos ≤ l.length) : pos + r.length = l.length := by
  have := congrArg List.length h
  rw [List.length_drop] at this
  omega
/-! ### steps -/
theorem st_ble {n m : Nat} {p : Prop} (h : Nat.ble n m = true) (q : p) : n ≤ m ∧ p := ⟨Nat.le_of_ble_eq_true h, q⟩
theorem st_blt {n m : Nat} {p : Prop} (h : Nat.ble (n + 1) m = true) (q : p) : n < m ∧ p := ⟨Nat.le_of_ble_eq_true h, q⟩
theorem SubP.del {Ps : Pst} {a : Addr} : SubP (delP Ps a) Ps := fun b so e => by
  unfold delP at e
  split at e
  · cases e
  · exact e
theorem SubP.delU {Ps P2 : Pst} {a : Addr} {o : SO} (h : SubP (delP Ps a) P2) : SubP (delP Ps a) (updP P2 a o) := fun b so e => by
  have q : b ≠ a := fun z => by
    subst z
    unfold delP at e
    rw [if_pos rfl] at e
    cases e
  rw [updP_ne q]
  exact h b so e
theorem SubP.putU {Ps P2 : Pst} {a : Addr} {o : SO} (h : SubP (delP Ps a) P2) (e : P2 a = some o) : SubP (updP Ps a o) P2 := fun b so e2 => by
  by_cases q : b = a
  · subst q
    rw [updP_same] at e2
    cases e2
    exact e
  · rw [updP_ne q] at e2
    refine h b so ?_
    rw [delP_ne q]
    exact e2
theorem delP_none {Ps : Pst} {a p : Addr} (h : Ps p = none) : delP Ps a p = none := by
  unfold delP
  split
  · rfl
  · exact h
theorem updP_id {P : Pst} {a : Addr} {o : SO} (h : P a = some o) : updP P a o = P := by
  funext b
  by_cases q : b = a
  · subst q; rw [updP_same, h]
  · rw [updP_ne q]
theorem joinL_nil : ∀ ps : List (List Nat), TL.joinL [] ps = ps.flatten
  | [] => rfl
  | [p] => by show p = [p].flatten; simp
  | p :: q :: r => by
    show p ++ ([] ++ TL.joinL [] (q :: r)) = _
    rw [joinL_nil (q :: r)]
    rfl
theorem sum_len (ps : List (List Nat)) : (ps.map List.length).sum = ps.flatten.length := by
  induction ps with
  | nil => rfl
  | cons p r ih => rw [List.map_cons, List.sum_cons, List.flatten_cons, List.length_append, ih]
/-- ''.join -/
theorem e_join0 {P : Pst} {w : Wv} {ps : List (List Nat)} (h : seqP P w = some (ps.map .str)) (hl : ps.flatten.length ≤ 10000) : fJoin P [] w = some (.str ps.flatten) := by
  unfold fJoin
  rw [h, Option.bind_some, strsOf_map, Option.bind_some]
  have e : (ps.map List.length).sum + ps.length * ([] : List Nat).length ≤ 16777216 := by
    rw [sum_len]
    simp only [List.length_nil, Nat.mul_zero]
    omega
  rw [if_pos e, joinW_eq, joinL_nil]
theorem e_joinS {P : Pst} {w : Wv} {s : List Nat} {ps : List (List Nat)} (h : seqP P w = some (ps.map .str)) (hl : ps.flatten.length ≤ 10000) (h2 : ps.length * s.length ≤ 10000) : fJoin P s w = some (.str (TL.joinL s ps)) := by
  unfold fJoin
  rw [h, Option.bind_some, strsOf_map, Option.bind_some]
  have e : (ps.map List.length).sum + ps.length * s.length ≤ 16777216 := by
    rw [sum_len]
    omega
  rw [if_pos e, joinW_eq]
end Fc
namespace Fc
open PySem PySem.Spec PyProof.Rows L2
theorem fin_eqP {Po : Wv → Pst → Prop} {w : Wv} {P P' : Pst} (e : P' = P) (h : Po w P) : finP Po w P' := by subst e; exact fin_here h
theorem updP_comm {P : Pst} {a b : Addr} {o u : SO} (h : a ≠ b) : updP (updP P a o) b u = updP (updP P b u) a o := by
  funext c
  unfold updP
  by_cases h1 : c = a
  · by_cases h2 : c = b
    · exact absurd (h1.symm.trans h2) h
    · rw [if_neg h2, if_pos h1, if_pos h1]
  · by_cases h2 : c = b
    · rw [if_pos h2, if_neg h1, if_pos h2]
    · rw [if_neg h2, if_neg h1, if_neg h1, if_neg h2]
theorem updP_none {P : Pst} {a b : Addr} {o : SO} (h : updP P a o b = none) : b ≠ a ∧ P b = none := by
  have q : b ≠ a := fun z => by subst z; rw [updP_same] at h; cases h
  rw [updP_ne q] at h
  exact ⟨q, h⟩
end Fc
namespace Fc
open PySem PySem.Spec PyProof.Rows L2
theorem asLst_at {P : Pst} {a : Addr} {ws : List Wv} (h : P a = some (.lst ws)) : asLst (P a) = some ws := by rw [h]; rfl
theorem SubP.delR {P P' : Pst} {p : Addr} (s : SubP P P') (h : P p = none) : SubP P (delP P' p) := fun b so e => by
  have q : b ≠ p := ne_ofP e h
  rw [delP_ne q]
  exact s b so e
theorem st_pub {P : Pst} {a : Addr} {ws : List Wv} {Po : Wv → Pst → Prop} (h : P a = some (.lst ws)) (q : Po (.lst ws) (delP P a)) : pubW P (.r a) Po := ⟨a, rfl, ws, asLst_at h, q⟩
theorem updP_noneI {P : Pst} {a b : Addr} {o : SO} (h : b ≠ a) (e : P b = none) : updP P a o b = none := (updP_ne h).trans e
end Fc
namespace Fc
open PySem PySem.Spec PyProof.Rows L2
/-! ### the shortest quoting -/
def lenP (x : List Nat) : Int × List Nat := ((x.length : Int), x)
def bestL : List (List Nat) → List Nat
  | [] => []
  | o :: r => (minP (lenP o) (r.map lenP)).2
theorem minP_mem (xs : List (Int × List Nat)) : ∀ x, minP x xs = x ∨ minP x xs ∈ xs := by
  unfold minP
  induction xs with
  | nil => intro x; exact .inl rfl
  | cons y ys ih =>
    intro x
    rw [List.foldl_cons]
    rcases ih (if ltP y x = true then y else x) with h | h
    · rw [h]
      by_cases q : ltP y x = true
      · rw [if_pos q]; exact .inr List.mem_cons_self
      · rw [if_neg q]; exact .inl rfl
    · exact .inr (List.mem_cons_of_mem _ h)
theorem ltP_fst {p q : Int × List Nat} (h : ltP p q = true) : p.1 ≤ q.1 := by
  unfold ltP at h
  split at h
  · omega
  · have := of_decide_eq_true h; omega
theorem not_ltP_fst {p q : Int × List Nat} (h : ¬ ltP p q = true) : q.1 ≤ p.1 := by
  unfold ltP at h
  split at h
  · omega
  · have : ¬ p.1 < q.1 := fun z => h (decide_eq_true z)
    omega
theorem minP_le (xs : List (Int × List Nat)) : ∀ x, (minP x xs).1 ≤ x.1 ∧ ∀ y ∈ xs, (minP x xs).1 ≤ y.1 := by
  unfold minP
  induction xs with
  | nil => intro x; exact ⟨Int.le_refl _, fun y hy => by cases hy⟩
  | cons z zs ih =>
    intro x
    rw [List.foldl_cons]
    obtain ⟨h1, h2⟩ := ih (if ltP z x = true then z else x)
    by_cases q : ltP z x = true
    · rw [if_pos q] at h1 h2 ⊢
      refine ⟨Int.le_trans h1 (ltP_fst q), fun y hy => ?_⟩
      rcases List.mem_cons.mp hy with e | e
      · subst e; exact h1
      · exact h2 y e
    · rw [if_neg q] at h1 h2 ⊢
      refine ⟨h1, fun y hy => ?_⟩
      rcases List.mem_cons.mp hy with e | e
      · subst e; exact Int.le_trans h1 (not_ltP_fst q)
      · exact h2 y e
theorem minP_lenP (r : List (List Nat)) (o : List Nat) : ∃ m, minP (lenP o) (r.map lenP) = lenP m ∧ m ∈ o :: r := by
  rcases minP_mem (r.map lenP) (lenP o) with h | h
  · exact ⟨o, h, List.mem_cons_self⟩
  · obtain ⟨m, hm, e⟩ := List.mem_map.mp h
    exact ⟨m, e.symm, List.mem_cons_of_mem _ hm⟩
theorem bestL_mem {os : List (List Nat)} (h : os ≠ []) : bestL os ∈ os := by
  cases os with
  | nil => exact absurd rfl h
  | cons o r =>
    obtain ⟨m, e, hm⟩ := minP_lenP r o
    show (minP (lenP o) (r.map lenP)).2 ∈ _
    rw [e]
    exact hm
theorem bestL_le {os : List (List Nat)} {x : List Nat} (h : x ∈ os) : (bestL os).length ≤ x.length := by
  cases os with
  | nil => cases h
  | cons o r =>
    obtain ⟨m, e, _⟩ := minP_lenP r o
    have hl := minP_le (r.map lenP) (lenP o)
    show (minP (lenP o) (r.map lenP)).2.length ≤ _
    rw [e] at hl ⊢
    have h2 : (m.length : Int) ≤ (x.length : Int) := by
      rcases List.mem_cons.mp h with z | z
      · subst z; exact hl.1
      · exact hl.2 (lenP x) (List.mem_map_of_mem z)
    show m.length ≤ x.length
    omega
abbrev Q3 := List Nat × List Nat × List Nat
def inD (c : Nat) (db : List Nat) : List (List Nat) := [[92, c] ++ db] ++ (if !decide ([c] ∈ [[34], [92]]) = true then [[c] ++ db] else [])
def inS (c : Nat) (sg : List Nat) : List (List Nat) := if !decide ([c] = [39]) = true then [[c] ++ sg] else []
def outS (c : Nat) (pl sg db : List Nat) : List (List Nat) := ([[92, c] ++ pl] ++ (if !decide ([c] ∈ [[32], [39], [34], [92]]) = true then [[c] ++ pl] else [])) ++ ((inS c sg).map ([39] ++ ·) ++ (inD c db).map ([34] ++ ·))
def dpS (c : Nat) (s : Q3) : Q3 :=
  let pl := bestL (outS c s.1 s.2.1 s.2.2)
  (pl, bestL (inS c s.2.1 ++ [[39] ++ pl]), bestL (inD c s.2.2 ++ [[34] ++ pl]))
def dp : List Nat → Q3
  | [] => ([], [39], [34])
  | c :: r => dpS c (dp r)
def quoteW (x : List Nat) : List Nat := if x = [] then [34, 34] else (dp x).1
theorem dp_len (x : List Nat) : (dp x).1.length ≤ 2 * x.length ∧ (dp x).2.1.length ≤ 2 * x.length + 1 ∧ (dp x).2.2.length ≤ 2 * x.length + 1 := by
  induction x with
  | nil => simp [dp]
  | cons c r ih =>
    obtain ⟨h1, h2, h3⟩ := ih
    have e1 : (dpS c (dp r)).1.length ≤ 2 * r.length + 2 := by
      refine Nat.le_trans (bestL_le (os := outS c (dp r).1 (dp r).2.1 (dp r).2.2) (x := [92, c] ++ (dp r).1) ?_) ?_
      · unfold outS; simp
      · simp; omega
    have e2 : (dpS c (dp r)).2.1.length ≤ (dpS c (dp r)).1.length + 1 := by
      refine Nat.le_trans (bestL_le (os := inS c (dp r).2.1 ++ [[39] ++ (dpS c (dp r)).1]) (x := [39] ++ (dpS c (dp r)).1) ?_) ?_
      · exact List.mem_append_right _ List.mem_cons_self
      · simp
    have e3 : (dpS c (dp r)).2.2.length ≤ (dpS c (dp r)).1.length + 1 := by
      refine Nat.le_trans (bestL_le (os := inD c (dp r).2.2 ++ [[34] ++ (dpS c (dp r)).1]) (x := [34] ++ (dpS c (dp r)).1) ?_) ?_
      · exact List.mem_append_right _ List.mem_cons_self
      · simp
    show (dpS c (dp r)).1.length ≤ _ ∧ (dpS c (dp r)).2.1.length ≤ _ ∧ (dpS c (dp r)).2.2.length ≤ _
    simp only [List.length_cons]
    omega
end Fc
namespace Fc
open PySem PySem.Spec PyProof.Rows L2
theorem SubP.free {Ps P2 : Pst} {p : Addr} (s : SubP Ps P2) (h : P2 p = none) : Ps p = none := by
  cases q : Ps p with
  | none => rfl
  | some o => rw [s p o q] at h; cases h
theorem inS_len {c n : Nat} {sg y : List Nat} (h : sg.length ≤ n) (hy : y ∈ inS c sg) : y.length ≤ n + 1 := by
  unfold inS at hy
  split at hy
  · have : y = [c] ++ sg := by simpa using hy
    subst this
    simp
    omega
  · cases hy
theorem inD_len {c n : Nat} {db y : List Nat} (h : db.length ≤ n) (hy : y ∈ inD c db) : y.length ≤ n + 2 := by
  unfold inD at hy
  rcases List.mem_append.mp hy with q | q
  · have : y = [92, c] ++ db := by simpa using q
    subst this
    simp
    omega
  · split at q
    · have : y = [c] ++ db := by simpa using q
      subst this
      simp
      omega
    · cases q
end Fc
namespace Fc
open PySem PySem.Spec PyProof.Rows L2
theorem inS_c1 (c : Nat) (sg : List Nat) : (inS c sg).length ≤ 1 := by unfold inS; split <;> simp
theorem inD_c2 (c : Nat) (db : List Nat) : (inD c db).length ≤ 2 := by unfold inD; split <;> simp
theorem outS_cnt (c : Nat) (pl sg db : List Nat) : (outS c pl sg db).length ≤ 5 := by
  have h1 := inS_c1 c sg
  have h2 := inD_c2 c db
  unfold outS
  simp only [List.length_append, List.length_map]
  split <;> simp <;> omega
theorem inS_cnt {c : Nat} {sg x : List Nat} : (inS c sg ++ [x]).length ≤ 1000 := by
  have h1 := inS_c1 c sg
  simp
  omega
theorem inD_cnt {c : Nat} {sg x : List Nat} : (inD c sg ++ [x]).length ≤ 1000 := by
  have h1 := inD_c2 c sg
  simp
  omega
theorem inS_all {c : Nat} {sg np : List Nat} (h1 : sg.length ≤ 601) (h2 : np.length ≤ 600) : ∀ o ∈ inS c sg ++ [[39] ++ np], o.length ≤ 1000 := by
  intro o ho
  rcases List.mem_append.mp ho with q | q
  · have := inS_len h1 q
    omega
  · have : o = [39] ++ np := by simpa using q
    subst this
    simp
    omega
theorem inD_all {c : Nat} {sg np : List Nat} (h1 : sg.length ≤ 601) (h2 : np.length ≤ 600) : ∀ o ∈ inD c sg ++ [[34] ++ np], o.length ≤ 1000 := by
  intro o ho
  rcases List.mem_append.mp ho with q | q
  · have := inD_len h1 q
    omega
  · have : o = [34] ++ np := by simpa using q
    subst this
    simp
    omega
theorem outS_all {c : Nat} {pl sg db : List Nat} (h1 : pl.length ≤ 600) (h2 : sg.length ≤ 601) (h3 : db.length ≤ 601) : ∀ o ∈ outS c pl sg db, o.length ≤ 1000 := by
  intro o ho
  unfold outS at ho
  rcases List.mem_append.mp ho with q | q
  · rcases List.mem_append.mp q with q | q
    · have : o = [92, c] ++ pl := by simpa using q
      subst this
      simp
      omega
    · split at q
      · have : o = [c] ++ pl := by simpa using q
        subst this
        simp
        omega
      · cases q
  · rcases List.mem_append.mp q with q | q
    · obtain ⟨y, hy, rfl⟩ := List.mem_map.mp q
      have := inS_len h2 hy
      simp
      omega
    · obtain ⟨y, hy, rfl⟩ := List.mem_map.mp q
      have := inD_len h3 hy
      simp
      omega
end Fc
namespace Fc
open PySem PySem.Spec PyProof.Rows L2
/-! ### numbers as texts -/
theorem decW_nat (n : Nat) : decW (n : Int) = TL.numL n := TL.tl_num n
theorem decW_neg (m : Nat) : decW (Int.negSucc m) = 45 :: TL.numL (m + 1) := by
  have e : toString (Int.negSucc m) = "-" ++ Nat.repr (m + 1) := rfl
  unfold decW
  rw [e, Str.ofString_eq_toList]
  show (("-" ++ Nat.repr (m + 1)).toList.map Char.toNat) = _
  rw [String.toList_append, List.map_append]
  have e2 := decW_nat (m + 1)
  unfold decW at e2
  rw [Str.ofString_eq_toList] at e2
  have e3 : (Nat.repr (m + 1)).toList.map Char.toNat = TL.numL (m + 1) := e2
  rw [e3]
  rfl
theorem decW_negN {n : Nat} (h : 0 < n) : decW (-(n : Int)) = 45 :: TL.numL n := by
  obtain ⟨m, rfl⟩ : ∃ m, n = m + 1 := ⟨n - 1, by omega⟩
  exact decW_neg m
theorem numL_DG (n : Nat) : ∀ c ∈ TL.numL n, c ∈ cDG := by
  intro c hc
  have := TL.numL_digits n c hc
  have h : ∀ c : Nat, c < 58 → 48 ≤ c → c ∈ cDG := by decide
  exact h c (by omega) this.1
theorem numL_head (n : Nat) : (TL.numL n)[0]? = some 48 → n = 0 := by
  induction n using Nat.strongRecOn with
  | _ n ih =>
    intro h
    by_cases hn : n < 10
    · rw [TL.numL_lt hn] at h
      simp at h
      exact h
    · rw [TL.numL_step (by omega)] at h
      have hne := TL.numL_ne (n / 10)
      have : (TL.numL (n / 10))[0]? = some 48 := by
        cases e : TL.numL (n / 10) with
        | nil => exact absurd e hne
        | cons a r => rw [e] at h; simpa using h
      have := ih (n / 10) (by omega) this
      omega
theorem numL_int (n : Nat) (h : n < 100000) : PySem.intText? (S (TL.numL n)) = some (n : Int) := by
  have hl := TL.numL_len (n := n) (k := 5) (by decide) (by omega)
  have h2 := SX.int_S (a := TL.numL n) (List.all_eq_true.mpr fun c hc => by
    have := TL.numL_digits n c hc
    simp only [Bool.and_eq_true, decide_eq_true_eq]
    exact this) (TL.numL_ne n) (by omega)
  rw [TL.numL_val] at h2
  exact h2
theorem decW_AB (i : Int) : ∀ c ∈ decW i, c ∈ cAB := by
  have h0 : ∀ c ∈ cDG, c ∈ cAB := by decide
  intro c hc
  cases i with
  | ofNat n => exact h0 c (numL_DG n c (by rw [← decW_nat]; exact hc))
  | negSucc m =>
    rw [decW_neg] at hc
    rcases List.mem_cons.mp hc with e | e
    · rw [e]; decide
    · exact h0 c (numL_DG _ c e)
theorem decW_len {i : Int} (h : -9999 ≤ i) (h2 : i ≤ 9999) : (decW i).length ≤ 5 := by
  cases i with
  | ofNat n =>
    have e : decW (Int.ofNat n) = TL.numL n := decW_nat n
    rw [e]
    have := TL.numL_len (n := n) (k := 4) (by decide) (by have : (n : Int) ≤ 9999 := h2; omega)
    omega
  | negSucc m =>
    rw [decW_neg, List.length_cons]
    have := TL.numL_len (n := m + 1) (k := 4) (by decide) (by omega)
    omega
theorem decW_ok {i : Int} (h : -9999 ≤ i) (h2 : i ≤ 9999) : TokOk (decW i) := ⟨by have := decW_len h h2; omega, decW_AB i⟩
/-! ### words matched -/
def matchL (ws : List (List Nat)) (x : List Nat) : List (List Nat) := if x ∈ ws then [x] else ws.filter fun w => decide (x ≠ []) && decide (w.take x.length = x)
inductive ValR : Kd → List Nat → List Wv → Prop
  | word (x : List Nat) : ValR .word x [.str x]
  | ch (ws : List (List Nat)) (x : List Nat) : ValR (.ch ws) x (if (matchL ws x).length = 1 then (matchL ws x).map .str else [])
  | int {lo hi i : Int} : lo ≤ i → i ≤ hi → ValR (.int lo hi) (decW i) [.int i]
def prefs (l : List Nat) : List (List Nat) := (List.range l.length).map fun i => l.take (i + 1)
def shortC (ws : List (List Nat)) (l : List Nat) : List Nat := ((prefs l).filter fun p => decide (matchL ws p = [l])).headD []
def shortT : Kd → Wv → List Nat
  | .int _ _, .int i => decW i
  | .word, .str l => l
  | .ch ws, .str l => shortC ws l
  | _, _ => []
theorem matchL_self {ws : List (List Nat)} {l : List Nat} (h : l ∈ ws) : matchL ws l = [l] := if_pos h
theorem prefs_self {l : List Nat} (h : l ≠ []) : l ∈ prefs l := by
  refine List.mem_map.mpr ⟨l.length - 1, List.mem_range.mpr ?_, ?_⟩
  · have := List.length_pos_iff.mpr h; omega
  · have := List.length_pos_iff.mpr h
    rw [Nat.sub_add_cancel this]
    exact List.take_length
theorem matchL_mem {ws : List (List Nat)} {x : List Nat} : ∀ y ∈ matchL ws x, y ∈ ws := by
  intro y hy
  unfold matchL at hy
  split at hy
  · rename_i h
    have : y = x := by simpa using hy
    rw [this]; exact h
  · exact (List.mem_filter.mp hy).1
theorem shortC_cons {ws : List (List Nat)} {l : List Nat} (h : l ∈ ws) (hne : l ≠ []) : ∃ r, (prefs l).filter (fun p => decide (matchL ws p = [l])) = shortC ws l :: r := by
  unfold shortC
  cases e : (prefs l).filter (fun p => decide (matchL ws p = [l])) with
  | nil =>
    have : l ∈ (prefs l).filter (fun p => decide (matchL ws p = [l])) := List.mem_filter.mpr ⟨prefs_self hne, decide_eq_true (matchL_self h)⟩
    rw [e] at this
    cases this
  | cons a r => exact ⟨r, rfl⟩
theorem shortC_spec {ws : List (List Nat)} {l : List Nat} (h : l ∈ ws) (hne : l ≠ []) : shortC ws l ∈ prefs l ∧ matchL ws (shortC ws l) = [l] := by
  obtain ⟨r, e⟩ := shortC_cons h hne
  have : shortC ws l ∈ (prefs l).filter (fun p => decide (matchL ws p = [l])) := by rw [e]; exact List.mem_cons_self
  obtain ⟨h1, h2⟩ := List.mem_filter.mp this
  exact ⟨h1, of_decide_eq_true h2⟩
theorem prefs_mem {l p : List Nat} (h : p ∈ prefs l) : ∃ i, i < l.length ∧ p = l.take (i + 1) := by
  obtain ⟨i, hi, e⟩ := List.mem_map.mp h
  exact ⟨i, List.mem_range.mp hi, e.symm⟩
def takeI (l : List Nat) : Wv → Wv
  | .int i => Wv.str (l.take i.toNat)
  | w => w
theorem rng1_map {l : List Nat} : (rngW 1 l.length).map (takeI l) = (prefs l).map Wv.str := by
  unfold rngW prefs
  rw [List.map_map, List.map_map]
  refine List.map_congr_left fun i _ => ?_
  show Wv.str (l.take ((1 : Int) + (i : Int)).toNat) = _
  rw [show ((1 : Int) + (i : Int)).toNat = i + 1 by omega]
  rfl
def onS (b : List Nat → Bool) : Wv → Bool
  | .str x => b x
  | _ => false
theorem filter_mapS {ls : List (List Nat)} {b : List Nat → Bool} : (ls.map Wv.str).filter (onS b) = (ls.filter b).map Wv.str := by
  induction ls with
  | nil => rfl
  | cons x r ih =>
    rw [List.map_cons, List.filter_cons, List.filter_cons, ih]
    show (if b x = true then _ else _) = _
    cases b x <;> rfl
theorem filter_mapS2 {ls : List (List Nat)} {b : List Nat → Bool} : ((ls.map Wv.str).filter (onS b)).map (fun w => w) = (ls.filter b).map Wv.str := by
  rw [List.map_id', filter_mapS]
theorem datP_strs {P : Pst} (ls : List (List Nat)) : datP P (.lst (ls.map .str)) = some (.list (ls.map fun l => PyData.str (S l))) := by
  show datW (.lst (ls.map .str)) = _
  unfold datW
  rw [datL_strs]
  rfl
/-- == of lists of texts -/
theorem e_eqL {n : Bool} {P : Pst} {x y : Wv} {a b : List (List Nat)} (h1 : datP P x = some (.list (a.map fun l => PyData.str (S l)))) (h2 : datP P y = some (.list (b.map fun l => PyData.str (S l)))) (h3 : ∀ l ∈ a, okT l) (h4 : ∀ l ∈ b, okT l) : fEqD n P x y = some (.bl (if n then !decide (a = b) else decide (a = b))) :=
  e_eqD h1 h2 (shaped_strs h3) (shaped_strs h4) (eqv_strs a b)
end Fc
namespace Fc
open PySem PySem.Spec PyProof.Rows L2
theorem e_intS {P : Pst} {l : List Nat} {n : Int} (h : l.length ≤ 600) (e : PySem.intText? (S l) = some n) : fInt P [.str l] = some (.int n) := by
  unfold fInt f1
  simp only
  rw [if_pos (by omega), e]
  rfl
end Fc
namespace Fc
open PySem PySem.Spec PyProof.Rows L2
theorem atI_0 {α : Type} (a : α) (r : List α) : atI (a :: r) 0 = some a := (atI_natL (a :: r) 0).trans rfl
theorem e_ix0 {P : Pst} {w x : Wv} {ws : List Wv} (h : seqP P w = some (x :: ws)) (hs : ∀ z, w ≠ .str z := by intro z e; cases e) : ixW P w (.int 0) = some x := e_ixL h (atI_0 x ws) hs
end Fc
namespace Fc
open PySem PySem.Spec PyProof.Rows L2
/-! ### dict comprehensions that change nothing -/
@[irreducible] def Dx (b : Wv → Bool) (f : Wv → List Nat × Wv) (ws : List Wv) (i : Nat) (acc : List (List Nat × Wv)) : Prop := acc = ((ws.take i).filter b).map f
theorem dx_def {b : Wv → Bool} {f : Wv → List Nat × Wv} {ws : List Wv} {i : Nat} {acc : List (List Nat × Wv)} : Dx b f ws i acc = (acc = ((ws.take i).filter b).map f) := by unfold Dx; rfl
theorem dx_yes {b : Wv → Bool} {f : Wv → List Nat × Wv} {ws : List Wv} {i : Nat} {acc : List (List Nat × Wv)} {w z : Wv} {l : List Nat} (nd : ((ws.filter b).map fun w => (f w).1).Nodup) (h : ws[i]? = some w) (I : Dx b f ws i acc) (hb : b w = true) (hy : f w = (l, z)) : Dx b f ws (i + 1) (putD acc l z) := by
  rw [dx_def] at I ⊢
  have hno : l ∉ acc.map (·.1) := by
    have hd : ws = ws.take i ++ w :: ws.drop (i + 1) := by
      obtain ⟨hil, ei⟩ := List.getElem?_eq_some_iff.mp h
      conv => lhs; rw [← List.take_append_drop i ws]
      congr 1
      rw [List.drop_eq_getElem_cons hil, ei]
    rw [hd, List.filter_append, List.map_append, List.filter_cons, if_pos hb] at nd
    have h2 := (List.nodup_append.mp nd).2.2
    intro hm
    rw [I, List.map_map] at hm
    refine h2 l hm l ?_ rfl
    rw [List.map_cons, hy]
    exact List.mem_cons_self
  rw [putD_none (lookD_none.mpr hno), I, take_succ_get h, List.filter_append, List.map_append]
  simp [hb, hy]
theorem dx_no {b : Wv → Bool} {f : Wv → List Nat × Wv} {ws : List Wv} {i : Nat} {acc : List (List Nat × Wv)} {w : Wv} (h : ws[i]? = some w) (I : Dx b f ws i acc) (hb : b w = false) : Dx b f ws (i + 1) acc := by
  rw [dx_def] at I ⊢
  rw [I, take_succ_get h, List.filter_append, List.map_append]
  simp [hb]
theorem dc_fm {ws : List Wv} {gu : Pst → Prop} {gd : WG} {dt : WT} {dk dv : WE} {G : Env} {P1 : Pst} {Po : Wv → Pst → Prop} (b : Wv → Bool) (f : Wv → List Nat × Wv) (hgu : gu P1) (hl : ws.length < 1000)
    (hs : ∀ i w acc, ws[i]? = some w → Dx b f ws i acc → gd w G P1 fun G3 P3 => dt G3 P3 fun c P4 => if c = true then dk G3 P4 fun y P5 => strP y fun l => dv G3 P5 fun z P6 => P6 = P1 ∧ Dx b f ws (i + 1) (putD acc l z) else P4 = P1 ∧ Dx b f ws (i + 1) acc)
    (hd : ∀ q, P1 q = none → Po (.r q) (updP P1 q (.dic ((ws.filter b).map f)))) : DcR ws gu gd dt dk dv G P1 Po := by
  unfold DcR
  refine ⟨Dx b f ws, by rw [dx_def]; rfl, hgu, ?_, hs, ?_⟩
  · intro i acc hI
    rw [dx_def] at hI
    rw [hI, List.length_map]
    have h1 := List.length_filter_le b (ws.take i)
    have h2 : (ws.take i).length ≤ ws.length := by rw [List.length_take]; exact Nat.min_le_right _ _
    omega
  · intro acc hI q hq
    rw [dx_def, List.take_length] at hI
    rw [hI]
    exact hd q hq
/-! ### the table of options -/
def kindsD (os : List Op) : List (List Nat × Wv) := os.map fun o => (o.nm, o.kd.w)
def lettersD (os : List Op) : List (List Nat × Wv) := (os.filter fun o => decide (o.lt ≠ [])).map fun o => (o.lt, .str o.nm)
def shortsD (os : List Op) : List (List Nat × Wv) := os.map fun o => (o.nm, .str o.lt)
def namesL (os : List Op) : List (List Nat) := os.map (·.nm)
def tabO (K : PySem.W.Frag) (dx : Addr) (os : List Op) (k l s : Addr) : SO := .ins (He.ga K "OptionTable") dx [(3, .lst ((namesL os).map .str)), (4, .r k), (5, .r l), (6, .r s)]
def TabAt (K : PySem.W.Frag) (P : Pst) (a : Addr) (os : List Op) : Prop := ∃ dx k l s, P a = some (tabO K dx os k l s) ∧ P k = some (.dic (kindsD os)) ∧ P l = some (.dic (lettersD os)) ∧ P s = some (.dic (shortsD os))
theorem TabAt.mono {K : PySem.W.Frag} {P P' : Pst} {a : Addr} {os : List Op} (h : TabAt K P a os) (s : SubP P P') : TabAt K P' a os := by
  obtain ⟨dx, k, l, u, h1, h2, h3, h4⟩ := h
  exact ⟨dx, k, l, u, s _ _ h1, s _ _ h2, s _ _ h3, s _ _ h4⟩
/-- on an option -/
def onO (b : List Nat → List Nat → Wv → Bool) : Wv → Bool
  | .tup [.str n, .str l, k] => b n l k
  | _ => false
def atO (f : List Nat → List Nat → Wv → List Nat × Wv) : Wv → List Nat × Wv
  | .tup [.str n, .str l, k] => f n l k
  | w => ([], w)
theorem filter_onO {b : List Nat → List Nat → Wv → Bool} {f : List Nat → List Nat → Wv → List Nat × Wv} (os : List Op) : ((os.map Op.w).filter (onO b)).map (atO f) = (os.filter fun o => b o.nm o.lt o.kd.w).map fun o => f o.nm o.lt o.kd.w := by
  induction os with
  | nil => rfl
  | cons o r ih =>
    rw [List.map_cons, List.filter_cons, List.filter_cons]
    have e : onO b o.w = b o.nm o.lt o.kd.w := rfl
    rw [e]
    cases b o.nm o.lt o.kd.w with
    | true => rw [if_pos rfl, if_pos rfl, List.map_cons, List.map_cons, ih]; rfl
    | false => rw [if_neg Bool.false_ne_true, if_neg Bool.false_ne_true, ih]
theorem look_mem {α : Type} {f : α → List Nat} {g : α → Wv} {os : List α} {o : α} (h : o ∈ os) (nd : (os.map f).Nodup) : lookD (os.map fun o => (f o, g o)) (f o) = some (g o) := by
  induction os with
  | nil => cases h
  | cons a r ih =>
    rw [List.map_cons] at nd
    obtain ⟨h1, h2⟩ := List.nodup_cons.mp nd
    rw [List.map_cons]
    unfold lookD
    rcases List.mem_cons.mp h with e | e
    · subst e; rw [if_pos rfl]
    · rw [if_neg, ih e h2]
      intro z
      exact h1 (by rw [z]; exact List.mem_map_of_mem e)
theorem look_kinds {os : List Op} {lo hi : Int} (g : GOk os lo hi) {o : Op} (h : o ∈ os) : lookD (kindsD os) o.nm = some o.kd.w := look_mem (α := Op) (f := fun o => o.nm) (g := fun o => o.kd.w) h g.nms
theorem look_shorts {os : List Op} {lo hi : Int} (g : GOk os lo hi) {o : Op} (h : o ∈ os) : lookD (shortsD os) o.nm = some (.str o.lt) := look_mem (α := Op) (f := fun o => o.nm) (g := fun o => .str o.lt) h g.nms
theorem lts_nd {os : List Op} {lo hi : Int} (g : GOk os lo hi) : ((os.filter fun o => decide (o.lt ≠ [])).map (·.lt)).Nodup := by
  have h := g.lts
  rw [List.filter_map] at h
  exact h
theorem look_letters {os : List Op} {lo hi : Int} (g : GOk os lo hi) {o : Op} (h : o ∈ os) (hne : o.lt ≠ []) : lookD (lettersD os) o.lt = some (.str o.nm) :=
  look_mem (α := Op) (f := fun o => o.lt) (g := fun o => .str o.nm) (List.mem_filter.mpr ⟨h, decide_eq_true hne⟩) (lts_nd g)
def abbrL (os : List Op) (n : List Nat) : List Nat := ((prefs n).filter fun p => decide (matchL (namesL os) p = [n])).headD []
theorem abbr_eq (os : List Op) (n : List Nat) : abbrL os n = shortC (namesL os) n := rfl
/-! ### kinds of tokens -/
def bundleB (x : List Nat) : Bool := match x with
  | 45 :: c :: _ => decide (c ∈ cLT)
  | _ => false
def longB (x : List Nat) : Bool := match x with
  | 45 :: 45 :: _ :: _ => true
  | _ => false
def ordB (x : List Nat) : Bool := !bundleB x && !longB x && !decide (x = [45, 45])
end Fc
namespace Fc
open PySem PySem.Spec PyProof.Rows L2
def bAll : Wv → Bool := onO fun _ _ _ => true
def bLet : Wv → Bool := onO fun _ l _ => decide (l ≠ [])
def fKind : Wv → List Nat × Wv := atO fun n _ k => (n, k)
def fLet : Wv → List Nat × Wv := atO fun n l _ => (l, .str n)
def fShort : Wv → List Nat × Wv := atO fun n l _ => (n, .str l)
theorem kinds_eq (os : List Op) : ((os.map Op.w).filter bAll).map fKind = kindsD os := (filter_onO os).trans (by rw [List.filter_eq_self.mpr (fun _ _ => rfl)]; rfl)
theorem letters_eq (os : List Op) : ((os.map Op.w).filter bLet).map fLet = lettersD os := filter_onO os
theorem shorts_eq (os : List Op) : ((os.map Op.w).filter bAll).map fShort = shortsD os := (filter_onO os).trans (by rw [List.filter_eq_self.mpr (fun _ _ => rfl)]; rfl)
theorem nd_keys {ws : List Wv} {f : Wv → List Nat × Wv} {ks : List (List Nat × Wv)} (e : ws.map f = ks) (h : (ks.map (·.1)).Nodup) : (ws.map fun w => (f w).1).Nodup := by
  rw [← e, List.map_map] at h
  exact h
theorem kinds_nd {os : List Op} {lo hi : Int} (g : GOk os lo hi) : ((kindsD os).map (·.1)).Nodup := by
  unfold kindsD
  rw [List.map_map]
  exact g.nms
theorem shorts_nd {os : List Op} {lo hi : Int} (g : GOk os lo hi) : ((shortsD os).map (·.1)).Nodup := by
  unfold shortsD
  rw [List.map_map]
  exact g.nms
theorem letters_nd {os : List Op} {lo hi : Int} (g : GOk os lo hi) : ((lettersD os).map (·.1)).Nodup := by
  unfold lettersD
  rw [List.map_map]
  exact lts_nd g
theorem names_nd {os : List Op} {lo hi : Int} (g : GOk os lo hi) : (namesL os).Nodup := g.nms
end Fc
namespace Fc
open PySem PySem.Spec PyProof.Rows L2
/-! ### the reader of tokens -/
structure Rs where
  asg : List (List Nat × Wv)
  words : List (List Nat)
  pend : Option (List Nat)
  only : Bool
def penW : Option (List Nat) → Wv
  | none => .non
  | some n => .str n
def rdO (K : PySem.W.Frag) (dx t : Addr) (hi : Int) (d w : Addr) (s : Rs) (cnt : Int) : SO := .ins (He.ga K "TokenReader") dx [(7, .r t), (8, .int hi), (9, .r d), (10, .r w), (11, penW s.pend), (12, .bl s.only), (13, .int cnt)]
structure RdA (K : PySem.W.Frag) (F : Pst) (os : List Op) (hi : Int) (P : Pst) (a : Addr) (s : Rs) (dx t d w : Addr) (cnt : Int) : Prop where
  pa : P a = some (rdO K dx t hi d w s cnt)
  pd : P d = some (.dic s.asg)
  pw : P w = some (.lst (s.words.map .str))
  sub : SubP F P
  fa : F a = none
  fd : F d = none
  fw : F w = none
  ad : a ≠ d
  aw : a ≠ w
  dw : d ≠ w
  tab : TabAt K F t os
  la : s.asg.length ≤ 100
  lw : s.words.length ≤ 100
def RdAt (K : PySem.W.Frag) (F : Pst) (os : List Op) (hi : Int) (P : Pst) (a : Addr) (s : Rs) : Prop := ∃ dx t d w cnt, RdA K F os hi P a s dx t d w cnt
section
variable {K : PySem.W.Frag} {F : Pst} {os : List Op} {hi : Int} {P : Pst} {a : Addr} {s : Rs} {dx t d w : Addr} {cnt : Int}
/-- the reader itself changes -/
theorem RdA.setA (h : RdA K F os hi P a s dx t d w cnt) (p : Option (List Nat)) (o : Bool) (c : Int) : RdA K F os hi (updP P a (rdO K dx t hi d w { s with pend := p, only := o } c)) a { s with pend := p, only := o } dx t d w c :=
  ⟨updP_same, updP_at (Ne.symm h.ad) h.pd, updP_at (Ne.symm h.aw) h.pw, SubP.new h.fa h.sub, h.fa, h.fd, h.fw, h.ad, h.aw, h.dw, h.tab, h.la, h.lw⟩
theorem RdA.setD (h : RdA K F os hi P a s dx t d w cnt) (g : List (List Nat × Wv)) (hg : g.length ≤ 100) : RdA K F os hi (updP P d (.dic g)) a { s with asg := g } dx t d w cnt :=
  ⟨updP_at h.ad h.pa, updP_same, updP_at (Ne.symm h.dw) h.pw, SubP.new h.fd h.sub, h.fa, h.fd, h.fw, h.ad, h.aw, h.dw, h.tab, hg, h.lw⟩
theorem RdA.setW (h : RdA K F os hi P a s dx t d w cnt) (ws : List (List Nat)) (hg : ws.length ≤ 100) : RdA K F os hi (updP P w (.lst (ws.map .str))) a { s with words := ws } dx t d w cnt :=
  ⟨updP_at h.aw h.pa, updP_at h.dw h.pd, updP_same, SubP.new h.fw h.sub, h.fa, h.fd, h.fw, h.ad, h.aw, h.dw, h.tab, h.la, hg⟩
theorem RdA.tabP (h : RdA K F os hi P a s dx t d w cnt) : TabAt K P t os := h.tab.mono h.sub
end
def noKey (g : List (List Nat × Wv)) (n : List Nat) : Prop := n ∉ g.map (·.1)
/-- letters of a bundle -/
inductive BunR (os : List Op) : List Nat → List (List Nat × Wv) → List (List Nat × Wv) → Option (List Nat) → Prop
  | nil (g : List (List Nat × Wv)) : BunR os [] g g none
  | flag {o : Op} {c : Nat} {r : List Nat} {g g' : List (List Nat × Wv)} {p : Option (List Nat)} : o ∈ os → o.lt = [c] → o.kd = .non → noKey g o.nm → BunR os r (putD g o.nm (.bl true)) g' p → BunR os (c :: r) g g' p
  | val {o : Op} {c : Nat} {r : List Nat} {g : List (List Nat × Wv)} {v : Wv} : o ∈ os → o.lt = [c] → o.kd ≠ .non → noKey g o.nm → r ≠ [] → TokOk r → ValR o.kd r [v] → BunR os (c :: r) g (putD g o.nm v) none
  | pend {o : Op} {c : Nat} {g : List (List Nat × Wv)} : o ∈ os → o.lt = [c] → o.kd ≠ .non → noKey g o.nm → BunR os [c] g g (some o.nm)
/-- a token read -/
inductive RStep (os : List Op) (hi : Int) : Rs → List Nat → Rs → Prop
  | pend {s : Rs} {o : Op} {tok : List Nat} {v : Wv} : o ∈ os → s.pend = some o.nm → o.kd ≠ .non → TokOk tok → ValR o.kd tok [v] → RStep os hi s tok { s with asg := putD s.asg o.nm v, pend := none }
  | word {s : Rs} {tok : List Nat} : s.pend = none → tok.length ≤ 200 → (s.only = true ∨ ordB tok = true) → (s.words.length : Int) < hi → RStep os hi s tok { s with words := s.words ++ [tok] }
  | sep {s : Rs} : s.pend = none → s.only = false → RStep os hi s [45, 45] { s with only := true }
  | long {s : Rs} {o : Op} {x : List Nat} : s.pend = none → s.only = false → o ∈ os → x ≠ [] → x.length ≤ 100 → 61 ∉ x → matchL (namesL os) x = [o.nm] → noKey s.asg o.nm → o.kd = .non → RStep os hi s (45 :: 45 :: x) { s with asg := putD s.asg o.nm (.bl true) }
  | longV {s : Rs} {o : Op} {x y : List Nat} {v : Wv} : s.pend = none → s.only = false → o ∈ os → x.length + y.length ≤ 200 → 61 ∉ x → matchL (namesL os) x = [o.nm] → noKey s.asg o.nm → o.kd ≠ .non → TokOk y → ValR o.kd y [v] → RStep os hi s (45 :: 45 :: (x ++ 61 :: y)) { s with asg := putD s.asg o.nm v }
  | bun {s : Rs} {c : Nat} {r : List Nat} {g' : List (List Nat × Wv)} {p : Option (List Nat)} : s.pend = none → s.only = false → c ∈ cLT → (c :: r).length ≤ 200 → BunR os (c :: r) s.asg g' p → g'.length ≤ 100 → RStep os hi s (45 :: c :: r) { s with asg := g', pend := p }
inductive RSteps (os : List Op) (hi : Int) : Rs → List (List Nat) → Rs → Prop
  | nil (s : Rs) : RSteps os hi s [] s
  | cons {s s1 s2 : Rs} {t : List Nat} {ts : List (List Nat)} : RStep os hi s t s1 → RSteps os hi s1 ts s2 → RSteps os hi s (t :: ts) s2
theorem lookK {os : List Op} {lo hi : Int} (g : GOk os lo hi) {o : Op} (h : o ∈ os) {n : List Nat} (e : n = o.nm) : lookD (kindsD os) n = some o.kd.w := by subst e; exact look_kinds g h
theorem putD_len {ks : List (List Nat × Wv)} {l : List Nat} {w : Wv} : (putD ks l w).length ≤ ks.length + 1 := by
  induction ks with
  | nil => simp [putD]
  | cons p r ih =>
    obtain ⟨x, u⟩ := p
    unfold putD
    split
    · simp
    · simp only [List.length_cons]; omega
theorem isNon_kd {k : Kd} (h : k ≠ .non) : isNon k.w = false := by
  cases k with
  | non => exact absurd rfl h
  | _ => rfl
theorem datP_nilL {P : Pst} : datP P (.lst []) = some (.list []) := rfl
/-- [v] against [] -/
theorem e_eqNil1 {n : Bool} {P : Pst} {v : Wv} {d : PyData} (h : datW v = some d) (h2 : PyData.canLay0 d = true) (h3 : PyData.depth d ≤ 5) : fEqD n P (.lst [v]) (.lst []) = some (.bl (if n then true else false)) := by
  have h1 : datP P (.lst [v]) = some (.list [d]) := by
    show datW (.lst [v]) = _
    unfold datW datL datL
    rw [h]
    rfl
  rw [e_eqD (n := n) h1 datP_nilL (shaped_list (by unfold PyData.canLayAll0 PyData.canLayAll0; rw [h2]; rfl) (by unfold PyData.depthAll PyData.depthAll; omega)) shaped_nil (eqv_nil _)]
  rfl
end Fc
namespace Fc
open PySem PySem.Spec PyProof.Rows L2
theorem valR_dat {k : Kd} {x : List Nat} {v : Wv} (hk : KdOk k) (hx : TokOk x) (h : ValR k x [v]) : ∃ d, datW v = some d ∧ PyData.canLay0 d = true ∧ PyData.depth d ≤ 5 := by
  generalize e : [v] = vs at h
  cases h with
  | word => cases e; exact ⟨.str (S x), rfl, okT_AB hx.2, by simp [PyData.depth]⟩
  | ch ws =>
    split at e
    · cases q : matchL ws x with
      | nil => rw [q] at e; cases e
      | cons l r =>
        rw [q, List.map_cons] at e
        injection e with e0 _
        subst e0
        have hl : l ∈ ws := matchL_mem (x := x) l (by rw [q]; exact List.mem_cons_self)
        exact ⟨.str (S l), rfl, okT_LT (hk.2.2.2 l hl).2.2, by simp [PyData.depth]⟩
    · cases e
  | @int lo hi i h1 h2 => cases e; exact ⟨.int i, rfl, rfl, by simp [PyData.depth]⟩
theorem e_letters {os : List Op} {lo hi : Int} (g : GOk os lo hi) {o : Op} {c : Nat} (h : o ∈ os) (e : o.lt = [c]) : lookD (lettersD os) [c] = some (.str o.nm) := by
  rw [← e]
  exact look_letters g h (by rw [e]; simp)
end Fc
namespace Fc
open PySem PySem.Spec PyProof.Rows L2
theorem putD_lenN {g : List (List Nat × Wv)} {n : List Nat} {v : Wv} (h : noKey g n) : (putD g n v).length = g.length + 1 := by
  rw [putD_none (lookD_none.mpr h)]
  simp
theorem BunR.len {os : List Op} {l : List Nat} {g g' : List (List Nat × Wv)} {p : Option (List Nat)} (h : BunR os l g g' p) : g.length ≤ g'.length := by
  induction h with
  | nil => exact Nat.le_refl _
  | flag _ _ _ hn _ ih => rw [putD_lenN hn] at ih; omega
  | val _ _ _ hn _ _ _ => rw [putD_lenN hn]; omega
  | pend => exact Nat.le_refl _
end Fc
namespace Fc
open PySem PySem.Spec PyProof.Rows L2
section
variable {K : PySem.W.Frag}
/-! ### locked dicts: the frozen thing named -/
def dLockK (d : WS) : WS := fun D G P => ∃ a ks, P a = some (.dic ks) ∧ ∀ (o : Obj) (kv : List (Key × V)), d ⟨fun G' P' => P' a = some (.fdic (.frz o (.dK kv)) ks) ∧ D.nx G' (updP P' a (.dic ks)), fun w P' => P' a = some (.fdic (.frz o (.dK kv)) ks) ∧ D.rt w (updP P' a (.dic ks)), fun G' P' => P' a = some (.fdic (.frz o (.dK kv)) ks) ∧ D.bk G' (updP P' a (.dic ks)), fun G' P' => P' a = some (.fdic (.frz o (.dK kv)) ks) ∧ D.ct G' (updP P' a (.dic ks))⟩ G (updP P a (.fdic (.frz o (.dK kv)) ks))
theorem ds_lockK {t : TS} {d : WS} (h : DS K t d) : DS K (tLock t) (dLockK d) := ⟨fun {G P D} p {σ Hb H} g s E k => by
  obtain ⟨a, ks, hp, q⟩ := p
  obtain ⟨kv, hH, mu, z⟩ := lock_in s hp
  refine ⟨a, _, hH, mu, fun od => ?_⟩
  obtain ⟨s1, g1⟩ := z od
  refine h.run (q od kv) g s1 ⟨?_, ?_, ?_, ?_⟩
  · rintro G' P' σ' Hb' H' ⟨e, q'⟩ g' s' m'
    obtain ⟨h1, s2, g2⟩ := lock_out s' e
    exact ⟨h1, k.nx _ _ _ _ _ q' ((g1.trans g').trans g2) s2 m'⟩
  · rintro w P' v Hb' H' ⟨e, q'⟩ g' s' r'
    obtain ⟨h1, s2, g2⟩ := lock_out s' e
    exact ⟨h1, k.rt _ _ _ _ _ q' ((g1.trans g').trans g2) s2 r'⟩
  · rintro G' P' σ' Hb' H' ⟨e, q'⟩ g' s' m'
    obtain ⟨h1, s2, g2⟩ := lock_out s' e
    exact ⟨h1, k.bk _ _ _ _ _ q' ((g1.trans g').trans g2) s2 m'⟩
  · rintro G' P' σ' Hb' H' ⟨e, q'⟩ g' s' m'
    obtain ⟨h1, s2, g2⟩ := lock_out s' e
    exact ⟨h1, k.ct _ _ _ _ _ q' ((g1.trans g').trans g2) s2 m'⟩⟩
def dLockKE (d : WE) : WE := fun G P Po => ∃ a ks, P a = some (.dic ks) ∧ ∀ (o : Obj) (kv : List (Key × V)), d G (updP P a (.fdic (.frz o (.dK kv)) ks)) fun w P' => P' a = some (.fdic (.frz o (.dK kv)) ks) ∧ Po w (updP P' a (.dic ks))
theorem de_lockK {t : TE} {d : WE} (h : De K t d) : De K (tLockE t) (dLockKE d) := ⟨fun {G P Po} p {σ Hb H} g s Q k => by
  obtain ⟨a, ks, hp, q⟩ := p
  obtain ⟨kv, hH, mu, z⟩ := lock_in s hp
  refine ⟨a, _, hH, mu, fun od => ?_⟩
  obtain ⟨s1, g1⟩ := z od
  refine h.run (q od kv) g s1 ?_
  rintro w P' v Hb' H' ⟨e, q'⟩ g' s' r'
  obtain ⟨h1, s2, g2⟩ := lock_out s' e
  exact ⟨h1, k _ _ _ _ _ q' ((g1.trans g').trans g2) s2 r'⟩⟩
theorem dicP_fz {P : Pst} {a : Addr} {u : HO} {ks : List (List Nat × Wv)} (h : P a = some (.fdic u ks)) : dicP P (.r a) = some ks := by
  unfold dicP
  simp only [h]
  rfl
/-! ### an operator whose answer is a new private list -/
def RdOpN (K : PySem.W.Frag) (r : R2) (f : Pst → Wv → Wv → Option SO) : Prop := ∀ {Hb H P x y vx vy so}, Sit K Hb H P → Rl K Hb x vx → Rl K Hb y vy → f P x y = some so → ∀ {Po : Wv → Pst → Prop} {Q : VK}, Ko K Hb P H Po Q → (∀ q, P q = none → Po (.r q) (updP P q so)) → r vx vy H Q
def dOpN (f : Pst → Wv → Wv → Option SO) (da db : WE) : WE := fun G P Po => da G P fun x P1 => db G P1 fun y P2 => OptP (f P2 x y) fun so => ∀ q, P2 q = none → Po (.r q) (updP P2 q so)
theorem de_opN {r : R2} {f : Pst → Wv → Wv → Option SO} {ta tb : TE} {da db : WE} (hr : RdOpN K r f) (ha : De K ta da) (hb : De K tb db) : De K (tOp r ta tb) (dOpN f da db) :=
  ⟨fun hd σ Hb H g s Q k => ha.run hd g s fun x P1 vx Hb1 H1 p1 g1 s1 r1 => hb.run p1 (g.mono g1.ex) s1 fun y P2 vy Hb2 H2 p2 g2 s2 r2 => by
    obtain ⟨w, e, q⟩ := p2
    exact hr s2 (r1.mono g2.ex) r2 e (k.go (g1.trans g2)) q⟩
def fCatN : Pst → Wv → Wv → Option SO := fun P x y => (lstP P x).bind fun a => (lstP P y).bind fun b => if a.length + b.length ≤ 1000 then some (.lst (a ++ b)) else none
theorem rd_catN : RdOpN K rCat fCatN := fun {Hb H P x y vx vy w} s rx ry h Po Q k p => by
  unfold fCatN at h
  cases e1 : lstP P x with
  | none => rw [e1] at h; cases h
  | some a =>
    cases e2 : lstP P y with
    | none => rw [e1, e2] at h; cases h
    | some b =>
      rw [e1, e2] at h
      simp only [Option.bind_some] at h
      split at h
      · rename_i hz
        cases h
        obtain ⟨pa, va, rfl, ha, ra⟩ := lstP_ok s rx e1
        obtain ⟨pb, vb, rfl, hb, rb⟩ := lstP_ok s ry e2
        exact ⟨pa, pb, va, vb, rfl, rfl, ha, hb, by rw [← ra.len, ← rb.len]; exact sz1000 hz, fun q hq => k.priv s (.lst (ra.append rb)) p hq⟩
      · cases h
theorem e_catN {P : Pst} {x y : Wv} {a b : List Wv} (h1 : lstP P x = some a) (h2 : lstP P y = some b) (h : a.length + b.length ≤ 1000) : fCatN P x y = some (.lst (a ++ b)) := by
  unfold fCatN
  rw [h1, h2]
  exact if_pos h
end
end Fc
namespace Fc
open PySem PySem.Spec PyProof.Rows L2
/-- name = {k: v for ..}: as ps_setLc does for lists -/
theorem ps_setDc {X : Cx} {i : Nat} {y : Str} {py : Pos} {kx vx tg iter : Expr} {ifs : List Expr} {scope : Scope} {own : List (Str × Nat)} {pos spos : Pos} {wi : TI} {g : TG} {tt : TT} {tk tv : TE} (hc : X.calm = true) (hN : X.N.Nodup) (hy : X.N[i]? = some y) (hyl : X.env.scope.names.lookup y = some .local)
    (hsw : swapsWith (.DictComp kx vx [⟨tg, iter, ifs, 0⟩] scope pos) (some (.Name y py)) spos.line X.env = pure true) (hi : PI X tg iter wi) (ok : BlkOk X.N X.env.scope scope own)
    (hg : ∀ (s : Shared) (H : Hp) (C : Addr) (cl : List (Str × Addr)) (fp : List Addr), PG (X.blk s H scope (compEnvC scope cl C X.env) fp) tg g) (ht : ∀ (s : Shared) (H : Hp) (C : Addr) (cl : List (Str × Addr)) (fp : List Addr), PTs (X.blk s H scope (compEnvC scope cl C X.env) fp) ifs tt)
    (hk : ∀ (s : Shared) (H : Hp) (C : Addr) (cl : List (Str × Addr)) (fp : List Addr), PE (X.blk s H scope (compEnvC scope cl C X.env) fp) kx tk)
    (he : ∀ (s : Shared) (H : Hp) (C : Addr) (cl : List (Str × Addr)) (fp : List Addr), PE (X.blk s H scope (compEnvC scope cl C X.env) fp) vx tv) (hs : ∀ x, foldedSetIterable iter X.env x = pure x := by intro _; rfl) :
    PS X (.Assign [.Name y py] (.DictComp kx vx [⟨tg, iter, ifs, 0⟩] scope pos) spos) (tAsg (tDc wi g tt tk tv (own.map (·.2))) (gName i)) := by
  refine ⟨fun pins s σ H D I h => ?_⟩
  rw [exec_Assign_Name_used _ _ _ _ hsw]
  refine wpAny_bind (wpAny_standAt (wpAny_bind ?_))
  show wpAny _ X.A (do let _ ← comprehension (.DictComp kx vx [⟨tg, iter, ifs, 0⟩] scope pos) scope X.env (firstIterPos [⟨tg, iter, ifs, 0⟩] pos) newDict false (eval iter X.env) (some (assign (.Name y py) X.env))) _ _ s
  have h : tDc wi g tt tk tv (own.map (·.2)) σ H (fun x H1 => gName i x σ H1 D.nx) := h
  refine wpAny_bind (thn (dc_core (Qf := fun _ s' => SP X pins D .next s') hc hN I hi ok hg ht hk he hs h fun L C s' m H' I' q hn f => ?_) fun _ s' hq => wpAny_pure (wpAny_pure hq))
  show wpAny _ _ (assign (.Name y py) X.env (.ref L)) _ _ _
  refine wpAny_assign_Name (store_ok2 (v := V.ref L) I' hN hy (.inl hyl) rfl (fun s2 I2 ⟨a, sb, ha⟩ => ?_) (.inr hyl))
  obtain ⟨f0, f1, f2, f3, f4, f5⟩ := f
  have haC : C ≠ a := by
    rcases ha with z | z
    · rw [z]; exact f1
    · exact fun e => f4 y a z e.symm
  refine ⟨m, hn.sameBut sb haC, fun h3 sb3 => ?_⟩
  exact ⟨_, H', I2.turned (t' := s2.toks) (fun b o hb e => (sb3.2 b hb).trans e) f0 f1 f3 f4 f5, q⟩
theorem sw_trueD {kx vx : Expr} {gs : List Comprehension} {scope : Scope} {pos py : Pos} {y : Str} {l : Nat} {env : PySem.Env} (hk : env.scope.kind = .function) (hy : env.scope.names.lookup y = some .local) (hl : (py.line == pos.line) = true)
    (ha : (scope.names.any fun (n, k) => n == y && (k == .local || k == .cell)) = false) : swapsWith (.DictComp kx vx gs scope pos) (some (.Name y py)) l env = pure true := by
  have ky : env.kindOf y = some .local := hy
  have hb : env.blockKind = .function := by unfold Env.blockKind; rw [hk]; rfl
  unfold swapsWith
  simp only [hb, ky, ha, Expr.pos, hl]
  rfl
end Fc
namespace Fc
open PySem PySem.Spec PyProof.Rows L2
/-! ### writing: the mirror -/
abbrev Asg := List (List Nat × Wv)
def hasK (g : Asg) (o : Op) : Bool := (lookD g o.nm).isSome
def gv (g : Asg) (o : Op) : Wv := (lookD g o.nm).getD .non
def txtL (g : Asg) (o : Op) : List Nat := shortT o.kd (gv g o)
def isFlag (o : Op) : Bool := decide (o.kd = .non)
/-- flags with a letter; without; with a value -/
def flagsL (g : Asg) (os : List Op) : List Nat := ((os.filter fun o => hasK g o && isFlag o && decide (o.lt ≠ [])).map (·.lt)).flatten
def partsLL (g : Asg) (os l : List Op) : List (List Nat) := (l.filter fun o => hasK g o && isFlag o && decide (o.lt = [])).map fun o => [45, 45] ++ abbrL os o.nm
def valsL (g : Asg) (os : List Op) : List Op := os.filter fun o => hasK g o && !isFlag o
def attL (g : Asg) (fl : List Nat) (o : Op) : List Nat := if txtL g o = [] then ([45] ++ fl ++ o.lt) ++ [32] ++ quoteW [] else quoteW (([45] ++ fl ++ o.lt) ++ txtL g o)
def aloneOs (g : Asg) (os : List Op) (o : Op) : List (List Nat) := [quoteW ([45, 45] ++ abbrL os o.nm ++ [61] ++ txtL g o)] ++ (if o.lt ≠ [] then [attL g [] o] else [])
def aloneL (g : Asg) (os : List Op) (o : Op) : List Nat := bestL (aloneOs g os o)
def rowL (g : Asg) (os : List Op) (fl : List Nat) (o : Op) : Int × List Nat := ((aloneL g os o).length + fl.length + 2 - (attL g fl o).length, o.nm)
def rowsL (g : Asg) (os : List Op) (fl : List Nat) (vs : List Op) : List (Int × List Nat) := (vs.filter fun o => decide (fl ≠ []) && decide (o.lt ≠ [])).map (rowL g os fl)
def joinedL (g : Asg) (os : List Op) (fl : List Nat) (vs : List Op) : List Nat := (maxP (0, []) (rowsL g os fl vs)).2
def opOf (os : List Op) (n : List Nat) : Op := (os.find? fun o => decide (o.nm = n)).getD ⟨[], [], .non⟩
def optionsL (g : Asg) (os : List Op) : List (List Nat) :=
  let fl := flagsL g os
  let vs := valsL g os
  let j := joinedL g os fl vs
  partsLL g os os ++ (if j ≠ [] then [attL g fl (opOf os j)] else if fl ≠ [] then [[45] ++ fl] else []) ++ (vs.filter fun o => decide (o.nm ≠ j)).map (aloneL g os)
def compactL (g : Asg) (os : List Op) (ws : List (List Nat)) : List Nat := TL.joinL [32] ((optionsL g os ++ (if ws.all ordB = true then [] else [[45, 45]])) ++ ws.map quoteW)
/-- what is handed to compact -/
structure AOk (os : List Op) (g : Asg) : Prop where
  ok : ∀ p ∈ g, ∃ o ∈ os, p.1 = o.nm ∧ VOk o.kd p.2
  len : g.length ≤ 12
theorem lookD_mem {g : Asg} {n : List Nat} {v : Wv} (h : lookD g n = some v) : (n, v) ∈ g := by
  induction g with
  | nil => cases h
  | cons p r ih =>
    obtain ⟨x, u⟩ := p
    unfold lookD at h
    split at h
    · rename_i e
      cases h
      rw [e]
      exact List.mem_cons_self
    · exact List.mem_cons_of_mem _ (ih h)
theorem op_nm {os : List Op} {lo hi : Int} (g : GOk os lo hi) {a b : Op} (ha : a ∈ os) (hb : b ∈ os) (e : a.nm = b.nm) : a = b := by
  have h := g.nms
  clear g
  induction os with
  | nil => cases ha
  | cons c r ih =>
    rw [List.map_cons] at h
    obtain ⟨h1, h2⟩ := List.nodup_cons.mp h
    rcases List.mem_cons.mp ha with q1 | q1
    · rcases List.mem_cons.mp hb with q2 | q2
      · rw [q1, q2]
      · subst q1
        exact absurd (by rw [e]; exact List.mem_map_of_mem q2) h1
    · rcases List.mem_cons.mp hb with q2 | q2
      · subst q2
        exact absurd (by rw [← e]; exact List.mem_map_of_mem q1) h1
      · exact ih q1 q2 h2
theorem gv_ok {os : List Op} {lo hi : Int} (G : GOk os lo hi) {g : Asg} (A : AOk os g) {o : Op} (ho : o ∈ os) (hk : hasK g o = true) : lookD g o.nm = some (gv g o) ∧ VOk o.kd (gv g o) := by
  unfold hasK at hk
  unfold gv
  cases e : lookD g o.nm with
  | none => rw [e] at hk; cases hk
  | some v =>
    obtain ⟨o2, h1, h2, h3⟩ := A.ok _ (lookD_mem e)
    have : o = o2 := op_nm G ho h1 h2
    subst this
    exact ⟨rfl, h3⟩
theorem prefs_len {l p : List Nat} (h : p ∈ prefs l) : p.length ≤ l.length := by
  obtain ⟨i, _, rfl⟩ := prefs_mem h
  rw [List.length_take]
  exact Nat.min_le_right _ _
theorem txt_len {os : List Op} {lo hi : Int} (G : GOk os lo hi) {g : Asg} (A : AOk os g) {o : Op} (ho : o ∈ os) (hk : hasK g o = true) : (txtL g o).length ≤ 200 := by
  obtain ⟨_, hv⟩ := gv_ok G A ho hk
  have hkd := (G.ops o ho).kd
  unfold txtL
  generalize gv g o = v at hv
  cases hk2 : o.kd with
  | non => rw [hk2] at hv; have : v = .bl true := hv; subst this; simp [shortT]
  | int lo hi =>
    rw [hk2] at hv hkd
    obtain ⟨i, rfl, h1, h2⟩ := hv
    obtain ⟨k1, k2, k3⟩ := hkd
    have := decW_len (i := i) (by omega) (by omega)
    show (decW i).length ≤ _
    omega
  | word => rw [hk2] at hv; obtain ⟨l, rfl, h1⟩ := hv; exact h1.1
  | ch ws =>
    rw [hk2] at hv hkd
    obtain ⟨l, rfl, h1⟩ := hv
    have hw := hkd.2.2.2 l h1
    have := prefs_len (shortC_spec h1 (by intro e; subst e; have := hw.1; simp at this)).1
    have := hw.2.1
    show (shortC ws l).length ≤ _
    omega
theorem abbr_len {os : List Op} {lo hi : Int} (G : GOk os lo hi) {o : Op} (ho : o ∈ os) : (abbrL os o.nm).length ≤ 12 := by
  have hn := (G.ops o ho).nm
  have := prefs_len (shortC_spec (ws := namesL os) (l := o.nm) (List.mem_map_of_mem ho) (by intro e; have := hn.1; rw [e] at this; simp at this)).1
  rw [abbr_eq]
  have := hn.2.1
  omega
theorem quote_len (x : List Nat) : (quoteW x).length ≤ 2 * x.length + 2 := by
  unfold quoteW
  split
  · simp
  · have := (dp_len x).1
    omega
theorem att_len {os : List Op} {lo hi : Int} (G : GOk os lo hi) {g : Asg} (A : AOk os g) {o : Op} (ho : o ∈ os) (hk : hasK g o = true) {fl : List Nat} (hf : fl.length ≤ 12) : (attL g fl o).length ≤ 500 := by
  have h1 := txt_len G A ho hk
  have h2 := letOk_len (G.ops o ho).lt
  unfold attL
  split
  · have : (quoteW []).length = 2 := rfl
    simp only [List.length_append, this]
    simp
    omega
  · refine Nat.le_trans (quote_len _) ?_
    simp
    omega
theorem alone_len {os : List Op} {lo hi : Int} (G : GOk os lo hi) {g : Asg} (A : AOk os g) {o : Op} (ho : o ∈ os) (hk : hasK g o = true) : (aloneL g os o).length ≤ 500 := by
  have h1 := txt_len G A ho hk
  have h2 := abbr_len G ho
  refine Nat.le_trans (bestL_le (os := aloneOs g os o) (x := quoteW ([45, 45] ++ abbrL os o.nm ++ [61] ++ txtL g o)) ?_) ?_
  · unfold aloneOs
    exact List.mem_append_left _ List.mem_cons_self
  · refine Nat.le_trans (quote_len _) ?_
    simp
    omega
theorem opOf_eq {os : List Op} {lo hi : Int} (G : GOk os lo hi) {o : Op} (ho : o ∈ os) : opOf os o.nm = o := by
  unfold opOf
  cases e : os.find? fun p => decide (p.nm = o.nm) with
  | none =>
    have := List.find?_eq_none.mp e o ho
    simp at this
  | some p =>
    have h1 := List.mem_of_find?_eq_some e
    have h2 := List.find?_some e
    exact op_nm G h1 ho (of_decide_eq_true h2)
theorem flags_len {os : List Op} {lo hi : Int} (G : GOk os lo hi) (g : Asg) : ∀ l : List Op, (∀ o ∈ l, o ∈ os) → (flagsL g l).length ≤ l.length := by
  intro l
  induction l with
  | nil => intro _; simp [flagsL]
  | cons o r ih =>
    intro h
    have h1 := ih fun x hx => h x (List.mem_cons_of_mem _ hx)
    have h2 := letOk_len (G.ops o (h o List.mem_cons_self)).lt
    unfold flagsL at h1 ⊢
    rw [List.filter_cons]
    split
    · rw [List.map_cons, List.flatten_cons, List.length_append, List.length_cons]
      omega
    · rw [List.length_cons]
      omega
end Fc
namespace Fc
open PySem PySem.Spec PyProof.Rows L2
def wrO (K : PySem.W.Frag) (dx t ga : Addr) (fl : List Nat) (p v : Addr) : SO := .ins (He.ga K "Writer") dx [(7, .r t), (9, .r ga), (14, .str fl), (15, .r p), (16, .r v)]
structure WrA (K : PySem.W.Frag) (F : Pst) (os : List Op) (g : Asg) (P : Pst) (a : Addr) (fl : List Nat) (parts vals : List (List Nat)) (dx t ga p v : Addr) : Prop where
  pa : P a = some (wrO K dx t ga fl p v)
  pp : P p = some (.lst (parts.map .str))
  pv : P v = some (.lst (vals.map .str))
  fg : F ga = some (.dic g)
  tab : TabAt K F t os
  sub : SubP F P
  fa : F a = none
  fp : F p = none
  fv : F v = none
  ap : a ≠ p
  av : a ≠ v
  pv2 : p ≠ v
def WrAt (K : PySem.W.Frag) (F : Pst) (os : List Op) (g : Asg) (P : Pst) (a : Addr) (fl : List Nat) (parts vals : List (List Nat)) : Prop := ∃ dx t ga p v, WrA K F os g P a fl parts vals dx t ga p v
section
variable {K : PySem.W.Frag} {F : Pst} {os : List Op} {g : Asg} {P : Pst} {a : Addr} {fl : List Nat} {parts vals : List (List Nat)} {dx t ga p v : Addr}
theorem WrA.setA (h : WrA K F os g P a fl parts vals dx t ga p v) (f2 : List Nat) : WrA K F os g (updP P a (wrO K dx t ga f2 p v)) a f2 parts vals dx t ga p v :=
  ⟨updP_same, updP_at (Ne.symm h.ap) h.pp, updP_at (Ne.symm h.av) h.pv, h.fg, h.tab, SubP.new h.fa h.sub, h.fa, h.fp, h.fv, h.ap, h.av, h.pv2⟩
theorem WrA.setP (h : WrA K F os g P a fl parts vals dx t ga p v) (x : List (List Nat)) : WrA K F os g (updP P p (.lst (x.map .str))) a fl x vals dx t ga p v :=
  ⟨updP_at h.ap h.pa, updP_same, updP_at (Ne.symm h.pv2) h.pv, h.fg, h.tab, SubP.new h.fp h.sub, h.fa, h.fp, h.fv, h.ap, h.av, h.pv2⟩
theorem WrA.setV (h : WrA K F os g P a fl parts vals dx t ga p v) (x : List (List Nat)) : WrA K F os g (updP P v (.lst (x.map .str))) a fl parts x dx t ga p v :=
  ⟨updP_at h.av h.pa, updP_at h.pv2 h.pp, updP_same, h.fg, h.tab, SubP.new h.fv h.sub, h.fa, h.fp, h.fv, h.ap, h.av, h.pv2⟩
theorem WrA.tabP (h : WrA K F os g P a fl parts vals dx t ga p v) : TabAt K P t os := h.tab.mono h.sub
theorem WrA.gP (h : WrA K F os g P a fl parts vals dx t ga p v) : P ga = some (.dic g) := h.sub _ _ h.fg
end
end Fc
namespace Fc
open PySem PySem.Spec PyProof.Rows L2
theorem SubP.trans {P P' P'' : Pst} (a : SubP P P') (b : SubP P' P'') : SubP P P'' := fun c so e => b c so (a c so e)
theorem WrA.mono {K : PySem.W.Frag} {F : Pst} {os : List Op} {g : Asg} {P P' : Pst} {a : Addr} {fl : List Nat} {parts vals : List (List Nat)} {dx t ga p v : Addr} (h : WrA K F os g P a fl parts vals dx t ga p v) (s : SubP P P') : WrA K F os g P' a fl parts vals dx t ga p v :=
  ⟨s _ _ h.pa, s _ _ h.pp, s _ _ h.pv, h.fg, h.tab, h.sub.trans s, h.fa, h.fp, h.fv, h.ap, h.av, h.pv2⟩
theorem vals_mem {g : Asg} {os : List Op} {o : Op} (h : o ∈ valsL g os) : o ∈ os ∧ hasK g o = true ∧ o.kd ≠ .non := by
  obtain ⟨h1, h2⟩ := List.mem_filter.mp h
  simp only [Bool.and_eq_true, Bool.not_eq_true', isFlag, decide_eq_false_iff_not] at h2
  exact ⟨h1, h2.1, h2.2⟩
theorem rows_snoc {g : Asg} {os : List Op} {fl : List Nat} {vs : List Op} {i : Nat} {o : Op} (h : vs[i]? = some o) : rowsL g os fl (vs.take (i + 1)) = rowsL g os fl (vs.take i) ++ (if decide (fl ≠ []) && decide (o.lt ≠ []) then [rowL g os fl o] else []) := by
  unfold rowsL
  rw [take_succ_get h, List.filter_append, List.map_append]
  congr 1
  rw [List.filter_cons]
  split <;> simp_all
theorem e_mmax {P : Pst} {w : Wv} {p : Int × List Nat} {r : List (Int × List Nat)} {mx : Bool} (h : lstP P w = some ((p :: r).map prW)) : fMM mx P [w] = some (prW (if mx then maxP p r else minP p r)) := by
  unfold fMM f1
  simp only
  rw [h, Option.bind_some, prsOf_map]
  rfl
theorem maxP_mem (xs : List (Int × List Nat)) : ∀ x, maxP x xs = x ∨ maxP x xs ∈ xs := by
  unfold maxP
  induction xs with
  | nil => intro x; exact .inl rfl
  | cons y ys ih =>
    intro x
    rw [List.foldl_cons]
    rcases ih (if ltP x y = true then y else x) with h | h
    · rw [h]
      by_cases q : ltP x y = true
      · rw [if_pos q]; exact .inr List.mem_cons_self
      · rw [if_neg q]; exact .inl rfl
    · exact .inr (List.mem_cons_of_mem _ h)
theorem joined_cases (g : Asg) (os : List Op) (fl : List Nat) (vs : List Op) : joinedL g os fl vs = [] ∨ ∃ o ∈ vs, joinedL g os fl vs = o.nm ∧ fl ≠ [] ∧ o.lt ≠ [] := by
  unfold joinedL
  rcases maxP_mem (rowsL g os fl vs) (0, []) with h | h
  · rw [h]; exact .inl rfl
  · obtain ⟨o, ho, e⟩ := List.mem_map.mp h
    obtain ⟨h1, h2⟩ := List.mem_filter.mp ho
    simp only [Bool.and_eq_true, decide_eq_true_eq] at h2
    rw [← e]
    exact .inr ⟨o, h1, rfl, h2.1, h2.2⟩
def prI : Wv → Wv
  | .str x => prW (lenP x)
  | w => w
theorem prI_map (os : List (List Nat)) : (os.map Wv.str).map prI = (os.map lenP).map prW := by
  rw [List.map_map, List.map_map]
  rfl
end Fc
namespace Fc
open PySem PySem.Spec PyProof.Rows L2
theorem vals_len {g : Asg} {os : List Op} : (valsL g os).length ≤ os.length := List.length_filter_le _ _
theorem parts_len {g : Asg} {os l : List Op} : (partsLL g os l).length ≤ l.length := by
  unfold partsLL
  rw [List.length_map]
  exact List.length_filter_le _ _
theorem parts_mem {os : List Op} {lo hi : Int} (G : GOk os lo hi) {g : Asg} {x : List Nat} (h : x ∈ partsLL g os os) : x.length ≤ 14 := by
  obtain ⟨o, ho, rfl⟩ := List.mem_map.mp h
  have := abbr_len G (List.mem_filter.mp ho).1
  simp
  omega
theorem options_cnt {os : List Op} {lo hi : Int} (G : GOk os lo hi) {g : Asg} : (optionsL g os).length ≤ 25 := by
  have h1 := parts_len (g := g) (os := os) (l := os)
  have h2 := vals_len (g := g) (os := os)
  have h3 := G.len2
  unfold optionsL
  have h4 := List.length_filter_le (fun o => decide (o.nm ≠ joinedL g os (flagsL g os) (valsL g os))) (valsL g os)
  have h5 : (if joinedL g os (flagsL g os) (valsL g os) ≠ [] then [attL g (flagsL g os) (opOf os (joinedL g os (flagsL g os) (valsL g os)))] else if flagsL g os ≠ [] then [[45] ++ flagsL g os] else []).length ≤ 1 := by
    split
    · simp
    · split <;> simp
  show (partsLL g os os ++ _ ++ _).length ≤ 25
  rw [List.length_append, List.length_append, List.length_map]
  omega
theorem options_mem {os : List Op} {lo hi : Int} (G : GOk os lo hi) {g : Asg} (A : AOk os g) {x : List Nat} (h : x ∈ optionsL g os) : x.length ≤ 500 := by
  have hf := flags_len G g os (fun _ h => h)
  have h3 := G.len2
  unfold optionsL at h
  simp only at h
  rcases List.mem_append.mp h with q | q
  · rcases List.mem_append.mp q with q | q
    · have := parts_mem G q; omega
    · split at q
      · rename_i hj
        rcases joined_cases g os (flagsL g os) (valsL g os) with e | ⟨o, ho, e, _, _⟩
        · exact absurd e hj
        · obtain ⟨m1, m2, m3⟩ := vals_mem ho
          rw [e, opOf_eq G m1] at q
          rw [List.mem_singleton.mp q]
          exact att_len G A m1 m2 (by omega)
      · split at q
        · rw [List.mem_singleton.mp q]; simp; omega
        · cases q
  · obtain ⟨o, ho, rfl⟩ := List.mem_map.mp q
    obtain ⟨m1, m2, m3⟩ := vals_mem (List.mem_filter.mp ho).1
    exact alone_len G A m1 m2
end Fc
namespace Fc
open PySem PySem.Spec PyProof.Rows L2
/-! ### the law's draws -/
def rowO (ns : List Int) (p s q : Int) : SO := .lst [.scr ns, .int p, .int s, .int q]
def RowAt (P : Pst) (a : Addr) (ns : List Int) : Prop := ∃ p s q, P a = some (rowO ns p s q) ∧ 0 ≤ p ∧ 0 ≤ s ∧ s < 2147483647
structure RowP (P P' : Pst) (a : Addr) (ns : List Int) : Prop where
  eq : ∃ o, P' = updP P a o
  row : RowAt P' a ns
theorem RowP.trans {P P' P'' : Pst} {a : Addr} {ns : List Int} (h : RowP P P' a ns) (k : RowP P' P'' a ns) : RowP P P'' a ns := by
  obtain ⟨o, rfl⟩ := h.eq
  obtain ⟨u, rfl⟩ := k.eq
  exact ⟨⟨u, updP_updP⟩, k.row⟩
theorem RowP.refl {P : Pst} {a : Addr} {ns : List Int} (h : RowAt P a ns) : RowP P P a ns := by
  obtain ⟨p, s, q, h1, h2⟩ := h
  exact ⟨⟨_, (updP_id h1).symm⟩, p, s, q, h1, h2⟩
theorem RowP.at {P P' : Pst} {a b : Addr} {ns : List Int} (h : RowP P P' a ns) (hb : b ≠ a) : P' b = P b := by
  obtain ⟨o, rfl⟩ := h.eq
  exact updP_ne hb
theorem RowP.none {P P' : Pst} {a b : Addr} {ns : List Int} (h : RowP P P' a ns) (hb : P' b = none) : P b = none := by
  obtain ⟨o, rfl⟩ := h.eq
  exact (updP_none hb).2
end Fc
namespace Fc
open PySem PySem.Spec PyProof.Rows L2
theorem RowP.fin {Ps P2 : Pst} {a : Addr} {ns : List Int} (s : SubP (delP Ps a) P2) (r : RowAt P2 a ns) : ∃ P', RowP Ps P' a ns ∧ SubP P' P2 := by
  obtain ⟨p, s', q, h1, h2⟩ := r
  exact ⟨updP Ps a (rowO ns p s' q), ⟨⟨_, rfl⟩, p, s', q, updP_same, h2⟩, SubP.putU s h1⟩
theorem RowP.del {Ps P2 P3 : Pst} {a : Addr} {ns : List Int} (s : SubP (delP Ps a) P2) (r : RowP P2 P3 a ns) : SubP (delP Ps a) P3 := by
  obtain ⟨o, rfl⟩ := r.eq
  exact SubP.delU s
theorem RowAt.upd {P : Pst} {a b : Addr} {ns : List Int} {o : SO} (h : RowAt P a ns) (hb : a ≠ b) : RowAt (updP P b o) a ns := by
  obtain ⟨p, s, q, h1, h2⟩ := h
  exact ⟨p, s, q, updP_at hb h1, h2⟩
/-- kinds drawn -/
def KdL : Kd → Prop
  | .int lo hi => -15 ≤ lo ∧ lo ≤ hi ∧ hi ≤ 53
  | .ch ws => ∀ w ∈ ws, w.length ≤ 4
  | _ => True
def W7 : List (List Nat) := [[102, 97, 115, 116], [102, 117, 108, 108], [102], [115, 108, 111, 119], [115], [115, 108], [111, 102, 102]]
theorem W7_nd : W7.Nodup := by decide +kernel
theorem W7_ok : ∀ w ∈ W7, 1 ≤ w.length ∧ w.length ≤ 4 ∧ ∀ c ∈ w, c ∈ cLT := by decide +kernel
def N12 : List (List Nat) := [[97, 108, 108], [97], [98, 101, 116, 97], [98, 101, 116], [99, 45, 100], [99, 111, 108, 111, 114], [107, 101, 121], [107, 101, 121, 115], [108, 101, 118, 101, 108], [109, 111, 100, 101], [108], [122, 101, 100]]
theorem N12_nd : ∀ s, s < 12 → ∀ c, c < 7 → (((N12 ++ N12).drop s).take c).Nodup := by decide +kernel
theorem N12_ok : ∀ w ∈ N12 ++ N12, 1 ≤ w.length ∧ w.length ≤ 5 ∧ w.getD 0 0 ≠ 45 ∧ w.getD (w.length - 1) 0 ≠ 45 ∧ ∀ c ∈ w, c ∈ cLT ++ [45] := by decide +kernel
theorem N12_name {w : List Nat} (h : w ∈ N12 ++ N12) : NameOk w ∧ w.length ≤ 5 := by
  obtain ⟨h1, h2, h3, h4, h5⟩ := N12_ok w h
  refine ⟨⟨h1, by omega, ⟨w.getD 0 0, ?_, h3⟩, ⟨w.getD (w.length - 1) 0, ?_, h4⟩, h5⟩, h2⟩
  · rw [List.getD_eq_getElem?_getD, List.getElem?_eq_getElem (by omega)]
    rfl
  · rw [List.getD_eq_getElem?_getD, List.getElem?_eq_getElem (by omega)]
    rfl
structure LG (os : List Op) (lo hi : Int) : Prop where
  ok : GOk os lo hi
  len : os.length ≤ 6
  nm : ∀ o ∈ os, o.nm.length ≤ 5
  kd : ∀ o ∈ os, KdL o.kd
  hi5 : hi ≤ 5
  lo2 : lo ≤ 2
/-- a word drawn -/
def WdL (m : Nat) (l : List Nat) : Prop := l.length ≤ m ∧ ∀ c ∈ l, c ∈ cAB
/-- values drawn -/
def VL : Kd → Wv → Prop
  | .non, w => w = .bl true
  | .int lo hi, w => ∃ i, w = .int i ∧ lo ≤ i ∧ i ≤ hi
  | .ch ws, w => ∃ l, w = .str l ∧ l ∈ ws
  | .word, w => ∃ l, w = .str l ∧ WdL 4 l
end Fc
namespace Fc
open PySem PySem.Spec PyProof.Rows L2
/-! ### the cost of tokens -/
def ccost (c : Nat) : Nat := if c = 32 ∨ c = 34 ∨ c = 39 ∨ c = 92 then 2 else 1
def cost (t : List Nat) : Nat := (t.map ccost).sum
def tcost (t : List Nat) : Nat := if t = [] then 2 else cost t
theorem ccost_le (c : Nat) : ccost c ≤ 2 := by unfold ccost; split <;> omega
theorem cost_le (t : List Nat) : cost t ≤ 2 * t.length := by
  induction t with
  | nil => exact Nat.le_refl _
  | cons c r ih =>
    have := ccost_le c
    unfold cost at ih ⊢
    rw [List.map_cons, List.sum_cons, List.length_cons]
    omega
theorem cost_app (a b : List Nat) : cost (a ++ b) = cost a + cost b := by unfold cost; rw [List.map_append, List.sum_append]
theorem tcost_le {t : List Nat} {n : Nat} (h : cost t ≤ n) (h2 : 2 ≤ n) : tcost t ≤ n := by unfold tcost; split <;> omega
theorem cost_plain {t : List Nat} (h : ∀ c ∈ t, c ∈ cLT ++ [45]) : cost t = t.length := by
  have hc : ∀ c ∈ cLT ++ [45], ccost c = 1 := by decide +kernel
  induction t with
  | nil => rfl
  | cons c r ih =>
    have h1 := hc c (h c List.mem_cons_self)
    have h2 := ih fun x hx => h x (List.mem_cons_of_mem _ hx)
    unfold cost at h2 ⊢
    rw [List.map_cons, List.sum_cons, List.length_cons, h1, h2]
    omega
theorem LTH_AB : ∀ c ∈ cLT ++ [45], c ∈ cAB := by decide +kernel
def TkOk (t : List Nat) : Prop := t.length ≤ 16 ∧ ∀ c ∈ t, c ∈ cAB
def TsOk (i : Nat) (ts : List (List Nat)) : Prop := ts.length ≤ 2 * i ∧ (∀ t ∈ ts, TkOk t) ∧ (ts.map tcost).sum ≤ 16 * i
theorem TsOk.add {i : Nat} {ts new : List (List Nat)} (h : TsOk i ts) (h1 : new.length ≤ 2) (h2 : ∀ t ∈ new, TkOk t) (h3 : (new.map tcost).sum ≤ 16) : TsOk (i + 1) (ts ++ new) := by
  obtain ⟨a, b, c⟩ := h
  refine ⟨by rw [List.length_append]; omega, fun t ht => ?_, by rw [List.map_append, List.sum_append]; omega⟩
  rcases List.mem_append.mp ht with e | e
  · exact b t e
  · exact h2 t e
theorem decW_len3 {i : Int} (h : -99 ≤ i) (h2 : i ≤ 99) : (decW i).length ≤ 3 := by
  cases i with
  | ofNat n =>
    have e : decW (Int.ofNat n) = TL.numL n := decW_nat n
    rw [e]
    have := TL.numL_len (n := n) (k := 2) (by decide) (by have : (n : Int) ≤ 99 := h2; omega)
    omega
  | negSucc m =>
    rw [decW_neg, List.length_cons]
    have := TL.numL_len (n := m + 1) (k := 2) (by decide) (by omega)
    omega
/-- a value's text -/
theorem vl_text {os : List Op} {lo hi : Int} (L : LG os lo hi) {o : Op} (ho : o ∈ os) (hn : o.kd ≠ .non) {v : Wv} (hv : VL o.kd v) : ∃ x : List Nat, (∀ P, fStr P [v] = some (.str x)) ∧ x.length ≤ 4 ∧ ∀ c ∈ x, c ∈ cAB := by
  have hk := L.kd o ho
  have hkd := (L.ok.ops o ho).kd
  cases e : o.kd with
  | non => exact absurd e hn
  | int a b =>
    rw [e] at hv hk
    obtain ⟨i, rfl, h1, h2⟩ := hv
    obtain ⟨k1, k2, k3⟩ := hk
    refine ⟨decW i, fun P => ?_, by have := decW_len3 (i := i) (by omega) (by omega); omega, decW_AB i⟩
    unfold fStr f1
    simp only
    rw [if_pos (by omega)]
  | ch ws =>
    rw [e] at hv hk hkd
    obtain ⟨l, rfl, h1⟩ := hv
    exact ⟨l, fun P => rfl, hk l h1, fun c hc => LT_AB c ((hkd.2.2.2 l h1).2.2 c hc)⟩
  | word =>
    rw [e] at hv
    obtain ⟨l, rfl, h1, h2⟩ := hv
    exact ⟨l, fun P => rfl, h1, h2⟩
end Fc
namespace Fc
open PySem PySem.Spec PyProof.Rows L2
/-! ### the law's reader: the mirror -/
def digB (x : List Nat) : List Nat := if x.take 1 = [45] then x.drop 1 else x
def numD (d : List Nat) : Int := (PySem.intText? (S d)).getD 0
def badD (d : List Nat) : List Nat := d.filter fun c => !decide (c ∈ cDG)
def lawDigits (x : List Nat) : List Int :=
  if ¬ (1 ≤ (digB x).length ∧ (digB x).length ≤ 4) ∨ badD (digB x) ≠ [] then []
  else if (digB x)[0]? = some 48 ∧ x ≠ [48] then []
  else if x.take 1 = [45] then [0 - numD (digB x)] else [numD (digB x)]
def lawValue : Kd → List Nat → List Wv
  | .word, x => [.str x]
  | .int lo hi, x => ((lawDigits x).filter fun n => decide (lo ≤ n) && decide (n ≤ hi)).map .int
  | .ch ws, x => if (matchL ws x).length = 1 then (matchL ws x).map .str else []
  | .non, _ => []
def lawLong (os : List Op) (x : List Nat) : List (List Nat) := if x ∈ namesL os ∨ x = [] then (namesL os).filter fun n => decide (n = x) else (namesL os).filter fun n => decide (n.take x.length = x)
def lawBun (os : List Op) (given : Asg) : List Nat → Asg → Option (Asg × Option (List Nat))
  | [], acc => some (acc, none)
  | c :: r, acc => match os.find? fun o => decide (o.lt = [c]) with
    | none => none
    | some o => if hasK given o = true ∨ o.nm ∈ acc.map (·.1) then none
      else if o.kd = .non then lawBun os given r (acc ++ [(o.nm, .bl true)])
      else if r = [] then some (acc, some o.nm)
      else match lawValue o.kd r with
        | [] => none
        | v :: _ => some (acc ++ [(o.nm, v)], none)
def lawOption (os : List Op) (given : Asg) (tok : List Nat) : Option (Asg × Option (List Nat)) :=
  if tok.take 2 ≠ [45, 45] then lawBun os given (tok.drop 1) []
  else match lawLong os ((tok.drop 2).takeWhile fun c => decide (c ≠ 61)) with
    | [n] => if hasK given (opOf os n) = true then none
      else if (opOf os n).kd = .non then (if 61 ∈ tok.drop 2 then none else some ([(n, .bl true)], none))
      else if 61 ∈ tok.drop 2 then (match lawValue (opOf os n).kd (((tok.drop 2).dropWhile fun c => decide (c ≠ 61)).drop 1) with
        | [] => none
        | v :: _ => some ([(n, v)], none))
      else some ([], some n)
    | _ => none
def wordB (tok : List Nat) : Bool := !decide (tok.take 1 = [45]) || !decide ((tok.drop 1).take 1 ∈ ((45 :: cLT).map fun c => [c]))
def lawStep (os : List Op) (hi : Int) (s : Rs) (tok : List Nat) : Option Rs :=
  match s.pend with
  | some n => (match lawValue (opOf os n).kd tok with
    | [] => none
    | v :: _ => some { s with asg := putD s.asg n v, pend := none })
  | none => if s.only = false ∧ tok = [45, 45] then some { s with only := true }
    else if s.only = true ∨ wordB tok = true then (if (s.words.length : Int) = hi then none else some { s with words := s.words ++ [tok] })
    else match lawOption os s.asg tok with
      | none => none
      | some (ps, pd) => some { s with asg := mergeW s.asg (mergeW [] ps), pend := pd }
def lawReadF (os : List Op) (hi : Int) : Rs → List (List Nat) → Option Rs
  | s, [] => some s
  | s, t :: ts => (lawStep os hi s t).bind fun s1 => lawReadF os hi s1 ts
end Fc
namespace Fc
open PySem PySem.Spec PyProof.Rows L2
theorem datL_ints (ls : List Int) : datL (ls.map Wv.int) = some (ls.map PyData.int) := by
  induction ls with
  | nil => unfold datL; rfl
  | cons i r ih =>
    rw [List.map_cons, datL, ih, datW]
    rfl
theorem canL_ints (ls : List Int) : PyData.canLayAll0 (ls.map PyData.int) = true := by
  induction ls with
  | nil => rfl
  | cons i r ih =>
    rw [List.map_cons]
    unfold PyData.canLayAll0
    rw [ih]
    rfl
theorem dep_ints (ls : List Int) : PyData.depthAll (ls.map PyData.int) = 0 := by
  induction ls with
  | nil => rfl
  | cons l r ih =>
    rw [List.map_cons]
    unfold PyData.depthAll
    rw [ih]
    rfl
theorem lawValue_dat {k : Kd} {x : List Nat} (hk : KdOk k) (hx : ∀ c ∈ x, c ∈ cAB) : ∃ ds, datL (lawValue k x) = some ds ∧ PyData.canLayAll0 ds = true ∧ PyData.depthAll ds ≤ 5 := by
  cases k with
  | non => exact ⟨[], by unfold lawValue datL; rfl, rfl, Nat.zero_le _⟩
  | word =>
    have hs : ∀ l ∈ [x], okT l := fun l hl => by rw [List.mem_singleton.mp hl]; exact okT_AB hx
    exact ⟨[x].map fun l => PyData.str (S l), datL_strs [x], canL_strs hs, by rw [dep_strs]; decide⟩
  | int lo hi => exact ⟨_, datL_ints _, canL_ints _, by rw [dep_ints]; decide⟩
  | ch ws =>
    have e : lawValue (.ch ws) x = (if (matchL ws x).length = 1 then matchL ws x else []).map Wv.str := by
      show (if (matchL ws x).length = 1 then (matchL ws x).map Wv.str else []) = _
      split <;> rfl
    rw [e]
    refine ⟨_, datL_strs _, canL_strs fun l hl => ?_, by rw [dep_strs]; decide⟩
    split at hl
    · exact okT_LT (hk.2.2.2 l (matchL_mem l hl)).2.2
    · cases hl
theorem e_valNil {n : Bool} {P : Pst} {k : Kd} {x : List Nat} (hk : KdOk k) (hx : ∀ c ∈ x, c ∈ cAB) : fEqD n P (.lst (lawValue k x)) (.lst []) = some (.bl (if n then !(lawValue k x).isEmpty else (lawValue k x).isEmpty)) := by
  obtain ⟨ds, h1, h2, h3⟩ := lawValue_dat hk hx
  have h4 := datL_len h1
  have hd : datP P (.lst (lawValue k x)) = some (.list ds) := by
    show datW (.lst (lawValue k x)) = _
    unfold datW
    rw [h1]
    rfl
  have hb : ds.isEmpty = (lawValue k x).isEmpty := by
    generalize lawValue k x = vs at h4
    cases ds <;> cases vs <;> simp at h4 ⊢
  rw [e_eqD (n := n) hd datP_nilL (shaped_list h2 (by omega)) shaped_nil (eqv_nil ds), hb]
/-! ### options by their letter -/
def byL (os : List Op) : Asg := (os.filter fun o => decide (o.lt ≠ [])).map fun o => (o.lt, o.w)
theorem mergeW_nd_eq {b : Asg} : ∀ {a : Asg}, ((a ++ b).map (·.1)).Nodup → mergeW a b = a ++ b := by
  induction b with
  | nil => intro a _; rw [List.append_nil]; rfl
  | cons p r ih =>
    intro a h
    obtain ⟨l, w⟩ := p
    have hno : l ∉ a.map (·.1) := by
      rw [List.map_append, List.map_cons] at h
      intro hm
      exact (List.nodup_append.mp h).2.2 l hm l List.mem_cons_self rfl
    show mergeW (putD a l w) r = _
    rw [putD_none (lookD_none.mpr hno), ih (by rw [List.append_assoc]; exact h), List.append_assoc]
    rfl
theorem byL_nd {os : List Op} {lo hi : Int} (g : GOk os lo hi) : ((byL os).map (·.1)).Nodup := by
  unfold byL
  rw [List.map_map]
  exact lts_nd g
theorem merge_byL {os : List Op} {lo hi : Int} (g : GOk os lo hi) : mergeW [] (byL os) = byL os := mergeW_nd_eq (byL_nd g)
theorem look_byL (os : List Op) (c : Nat) : lookD (byL os) [c] = (os.find? fun o => decide (o.lt = [c])).map Op.w := by
  induction os with
  | nil => rfl
  | cons o r ih =>
    unfold byL at ih ⊢
    rw [List.filter_cons, List.find?_cons]
    by_cases h : o.lt = [c]
    · rw [if_pos (by simp [h]), List.map_cons]
      unfold lookD
      rw [if_pos h]
      simp [h]
    · by_cases h0 : o.lt = []
      · rw [if_neg (by simp [h0]), ih]
        simp [h0]
      · rw [if_pos (by simp [h0]), List.map_cons]
        unfold lookD
        rw [if_neg h, ih]
        simp [h]
def bnL : Wv → Wv
  | .tup [n, l, k] => .tup [l, .tup [n, l, k]]
  | w => w
theorem byL_eq (os : List Op) : ((os.map Op.w).filter bLet).map bnL = (byL os).map kvW := by
  induction os with
  | nil => rfl
  | cons o r ih =>
    unfold byL at ih ⊢
    rw [List.map_cons, List.filter_cons, List.filter_cons]
    have e : bLet o.w = decide (o.lt ≠ []) := rfl
    rw [e]
    by_cases h : o.lt = []
    · rw [if_neg (by simp [h]), if_neg (by simp [h]), ih]
    · rw [if_pos (by simp [h]), if_pos (by simp [h]), List.map_cons, ih]
      rfl
end Fc
namespace Fc
open PySem PySem.Spec PyProof.Rows L2
/-! ### M1: what the law's reader gives -/
def POk (os : List Op) (p : List Nat × Wv) : Prop := ∃ o ∈ os, p.1 = o.nm ∧ VOk o.kd p.2
def PendOk (os : List Op) (pd : Option (List Nat)) : Prop := ∀ n, pd = some n → n ∈ namesL os ∧ (opOf os n).kd ≠ .non
theorem lawValue_ok {k : Kd} {x : List Nat} {v : Wv} (hx : TokOk x) (h : v ∈ lawValue k x) : VOk k v := by
  cases k with
  | non => cases h
  | word =>
    have : v = .str x := by simpa [lawValue] using h
    exact ⟨x, this, hx⟩
  | int lo hi =>
    obtain ⟨n, hn, rfl⟩ := List.mem_map.mp h
    have := (List.mem_filter.mp hn).2
    simp only [Bool.and_eq_true, decide_eq_true_eq] at this
    exact ⟨n, rfl, this.1, this.2⟩
  | ch ws =>
    have h : v ∈ (if (matchL ws x).length = 1 then (matchL ws x).map Wv.str else []) := h
    split at h
    · obtain ⟨l, hl, rfl⟩ := List.mem_map.mp h
      exact ⟨l, rfl, matchL_mem l hl⟩
    · cases h
theorem opOf_of {os : List Op} {lo hi : Int} (G : GOk os lo hi) {n : List Nat} (h : n ∈ namesL os) : opOf os n ∈ os ∧ (opOf os n).nm = n := by
  obtain ⟨o, ho, rfl⟩ := List.mem_map.mp h
  rw [opOf_eq G ho]
  exact ⟨ho, rfl⟩
theorem lawBun_ok {os : List Op} {lo hi : Int} (G : GOk os lo hi) {given : Asg} : ∀ (x : List Nat) (acc ps : Asg) (pd : Option (List Nat)), TokOk x → (∀ p ∈ acc, POk os p) → lawBun os given x acc = some (ps, pd) → (∀ p ∈ ps, POk os p) ∧ PendOk os pd
  | [], acc, ps, pd, _, ha, h => by
    unfold lawBun at h
    cases h
    exact ⟨ha, fun n e => (by cases e)⟩
  | c :: r, acc, ps, pd, hx, ha, h => by
    have hr : TokOk r := ⟨by have := hx.1; simp at this; omega, fun d hd => hx.2 d (List.mem_cons_of_mem _ hd)⟩
    unfold lawBun at h
    cases hf : os.find? fun o => decide (o.lt = [c]) with
    | none => rw [hf] at h; cases h
    | some o =>
      have ho := List.mem_of_find?_eq_some hf
      rw [hf] at h
      simp only at h
      split at h
      · cases h
      · split at h
        · rename_i hk
          refine lawBun_ok G r _ ps pd hr (fun p hp => ?_) h
          rcases List.mem_append.mp hp with e | e
          · exact ha p e
          · rw [List.mem_singleton.mp e]
            exact ⟨o, ho, rfl, by rw [hk]; rfl⟩
        · rename_i hk
          split at h
          · cases h
            refine ⟨ha, fun n e => ?_⟩
            cases e
            exact ⟨List.mem_map_of_mem ho, by rw [opOf_eq G ho]; exact hk⟩
          · split at h
            · cases h
            · rename_i v vs hv
              cases h
              refine ⟨fun p hp => ?_, fun n e => (by cases e)⟩
              rcases List.mem_append.mp hp with e | e
              · exact ha p e
              · rw [List.mem_singleton.mp e]
                exact ⟨o, ho, rfl, lawValue_ok hr (by rw [hv]; exact List.mem_cons_self)⟩
end Fc
namespace Fc
open PySem PySem.Spec PyProof.Rows L2
theorem lawOption_ok {os : List Op} {lo hi : Int} (G : GOk os lo hi) {given ps : Asg} {x : List Nat} {pd : Option (List Nat)} (hx : TokOk x) (h : lawOption os given x = some (ps, pd)) : (∀ p ∈ ps, POk os p) ∧ PendOk os pd := by
  have hd : ∀ k, TokOk (x.drop k) := fun k => ⟨by rw [List.length_drop]; have := hx.1; omega, fun c hc => hx.2 c (List.mem_of_mem_drop hc)⟩
  unfold lawOption at h
  split at h
  · exact lawBun_ok G _ _ _ _ (hd 1) (fun p hp => by cases hp) h
  · split at h
    · rename_i n hn
      have hmem : n ∈ namesL os := by
        have : n ∈ lawLong os ((x.drop 2).takeWhile fun c => decide (c ≠ 61)) := by rw [hn]; exact List.mem_cons_self
        unfold lawLong at this
        split at this
        · exact (List.mem_filter.mp this).1
        · exact (List.mem_filter.mp this).1
      obtain ⟨ho, hnm⟩ := opOf_of G hmem
      split at h
      · cases h
      · split at h
        · rename_i hk
          split at h
          · cases h
          · cases h
            refine ⟨fun p hp => ?_, fun n e => (by cases e)⟩
            rw [List.mem_singleton.mp hp]
            exact ⟨_, ho, hnm.symm, by rw [hk]; rfl⟩
        · rename_i hk
          split at h
          · split at h
            · cases h
            · rename_i v vs hv
              cases h
              refine ⟨fun p hp => ?_, fun n e => (by cases e)⟩
              rw [List.mem_singleton.mp hp]
              have ht : TokOk (((x.drop 2).dropWhile fun c => decide (c ≠ 61)).drop 1) := by
                have h2 := hd 2
                refine ⟨?_, fun c hc => h2.2 c ((List.dropWhile_sublist _).mem (List.mem_of_mem_drop hc))⟩
                rw [List.length_drop]
                have := (List.dropWhile_sublist (fun c => decide (c ≠ 61)) (l := x.drop 2)).length_le
                have := h2.1
                omega
              exact ⟨_, ho, hnm.symm, lawValue_ok ht (by rw [hv]; exact List.mem_cons_self)⟩
          · cases h
            refine ⟨fun p hp => (by cases hp), fun m e => ?_⟩
            cases e
            exact ⟨hmem, hk⟩
    · cases h
/-- a state of the law's reader -/
structure LsOk (os : List Op) (s : Rs) : Prop where
  ps : ∀ p ∈ s.asg, POk os p
  nd : NdK s.asg
  pd : PendOk os s.pend
theorem putD_mem {g : Asg} {n : List Nat} {v : Wv} : ∀ p ∈ putD g n v, p ∈ g ∨ p = (n, v) := by
  induction g with
  | nil => intro p hp; exact .inr (List.mem_singleton.mp hp)
  | cons q r ih =>
    obtain ⟨x, u⟩ := q
    intro p hp
    unfold putD at hp
    split at hp
    · rename_i e
      subst e
      rcases List.mem_cons.mp hp with z | z
      · exact .inr z
      · exact .inl (List.mem_cons_of_mem _ z)
    · rcases List.mem_cons.mp hp with z | z
      · exact .inl (by rw [z]; exact List.mem_cons_self)
      · rcases ih p z with w | w
        · exact .inl (List.mem_cons_of_mem _ w)
        · exact .inr w
theorem mergeW_mem {b : Asg} : ∀ {a : Asg}, ∀ p ∈ mergeW a b, p ∈ a ∨ p ∈ b := by
  induction b with
  | nil => intro a p hp; exact .inl hp
  | cons q r ih =>
    intro a p hp
    rcases ih (a := putD a q.1 q.2) p hp with z | z
    · rcases putD_mem p z with w | w
      · exact .inl w
      · exact .inr (by rw [w]; exact List.mem_cons_self)
    · exact .inr (List.mem_cons_of_mem _ z)
theorem lawStep_ok {os : List Op} {lo hi : Int} (G : GOk os lo hi) {s s' : Rs} {t : List Nat} (ht : TokOk t) (L : LsOk os s) (h : lawStep os hi s t = some s') : LsOk os s' := by
  unfold lawStep at h
  split at h
  · rename_i n hn
    obtain ⟨hm, hk⟩ := L.pd n hn
    obtain ⟨ho, hnm⟩ := opOf_of G hm
    split at h
    · cases h
    · rename_i v vs hv
      cases h
      refine ⟨fun p hp => ?_, putD_nd L.nd, fun n e => (by cases e)⟩
      rcases putD_mem p hp with z | z
      · exact L.ps p z
      · rw [z]
        exact ⟨_, ho, hnm.symm, lawValue_ok ht (by rw [hv]; exact List.mem_cons_self)⟩
  · rename_i hn
    split at h
    · cases h
      exact ⟨L.ps, L.nd, L.pd⟩
    · split at h
      · split at h
        · cases h
        · cases h
          exact ⟨L.ps, L.nd, L.pd⟩
      · split at h
        · cases h
        · rename_i ps pd ho
          cases h
          obtain ⟨h1, h2⟩ := lawOption_ok G ht ho
          refine ⟨fun p hp => ?_, mergeW_nd L.nd, h2⟩
          rcases mergeW_mem p hp with z | z
          · exact L.ps p z
          · rcases mergeW_mem p z with w | w
            · cases w
            · exact h1 p w
theorem nodup_sub_len {l D : List (List Nat)} (h : l.Nodup) (sb : ∀ x ∈ l, x ∈ D) : l.length ≤ D.length := by
  induction l generalizing D with
  | nil => exact Nat.zero_le _
  | cons x r ih =>
    obtain ⟨h1, h2⟩ := List.nodup_cons.mp h
    have hx := sb x List.mem_cons_self
    have := ih (D := D.erase x) h2 fun y hy => by
      have hne : y ≠ x := fun e => h1 (e ▸ hy)
      exact (List.mem_erase_of_ne hne).mpr (sb y (List.mem_cons_of_mem _ hy))
    rw [List.length_erase_of_mem hx] at this
    have hp := List.length_pos_of_mem hx
    rw [List.length_cons]
    omega
theorem LsOk.len {os : List Op} {s : Rs} (L : LsOk os s) : s.asg.length ≤ os.length := by
  have hnd : (s.asg.map fun p => p.1).Nodup := L.nd
  have h := nodup_sub_len (l := s.asg.map fun p => p.1) (D := namesL os) hnd (fun x hx => by
    obtain ⟨p, hp, rfl⟩ := List.mem_map.mp hx
    obtain ⟨o, ho, e, _⟩ := L.ps p hp
    rw [e]
    exact List.mem_map_of_mem ho)
  unfold namesL at h
  rw [List.length_map, List.length_map] at h
  exact h
end Fc
namespace Fc
open PySem PySem.Spec PyProof.Rows L2
/-! ### M3: what quote_token writes is read back -/
def InQ (q : Nat) (l x rest : List Nat) : Prop := ∃ t1 r1 t2, QQ q l t1 r1 ∧ LO r1 t2 rest ∧ x = t1 ++ t2
theorem InQ.stop {q : Nat} {l x rest : List Nat} (h : LO l x rest) : InQ q (q :: l) x rest := ⟨[], l, x, .stop l, h, rfl⟩
theorem InQ.plain {q c : Nat} {l x rest : List Nat} (h1 : c ≠ q) (h2 : c = 92 → q ≠ 34) (h : InQ q l x rest) : InQ q (c :: l) (c :: x) rest := by
  obtain ⟨t1, r1, t2, a, b, rfl⟩ := h
  exact ⟨c :: t1, r1, t2, .plain h1 h2 a, b, rfl⟩
theorem InQ.esc {d : Nat} {l x rest : List Nat} (h : InQ 34 l x rest) : InQ 34 (92 :: d :: l) (d :: x) rest := by
  obtain ⟨t1, r1, t2, a, b, rfl⟩ := h
  exact ⟨d :: t1, r1, t2, .esc rfl a, b, rfl⟩
theorem InQ.open {q : Nat} (hq : q = 39 ∨ q = 34) {l x rest : List Nat} (h : InQ q l x rest) : LO (q :: l) x rest := by
  obtain ⟨t1, r1, t2, a, b, rfl⟩ := h
  exact .quo hq a b
theorem inS_read {c : Nat} {sg x rest y : List Nat} (h : InQ 39 (sg ++ rest) x rest) (hy : y ∈ inS c sg) : InQ 39 (y ++ rest) (c :: x) rest := by
  unfold inS at hy
  split at hy
  · rename_i hc
    rw [List.mem_singleton.mp hy]
    exact InQ.plain (by intro e; subst e; simp at hc) (fun _ => by decide) h
  · cases hy
theorem inD_read {c : Nat} {db x rest y : List Nat} (h : InQ 34 (db ++ rest) x rest) (hy : y ∈ inD c db) : InQ 34 (y ++ rest) (c :: x) rest := by
  unfold inD at hy
  rcases List.mem_append.mp hy with q | q
  · rw [List.mem_singleton.mp q]
    exact InQ.esc h
  · split at q
    · rename_i hc
      rw [List.mem_singleton.mp q]
      simp at hc
      exact InQ.plain hc.1 (fun e => absurd e hc.2) h
    · cases q
theorem dp_reads (x rest : List Nat) (hr : LO rest [] rest) : LO ((dp x).1 ++ rest) x rest ∧ InQ 39 ((dp x).2.1 ++ rest) x rest ∧ InQ 34 ((dp x).2.2 ++ rest) x rest := by
  induction x with
  | nil => exact ⟨hr, InQ.stop hr, InQ.stop hr⟩
  | cons c r ih =>
    obtain ⟨h1, h2, h3⟩ := ih
    have e1 : LO ((dp (c :: r)).1 ++ rest) (c :: r) rest := by
      have hm : (dp (c :: r)).1 ∈ outS c (dp r).1 (dp r).2.1 (dp r).2.2 := bestL_mem (by unfold outS; simp)
      generalize (dp (c :: r)).1 = y at hm
      unfold outS at hm
      rcases List.mem_append.mp hm with q | q
      · rcases List.mem_append.mp q with q | q
        · rw [List.mem_singleton.mp q]
          exact .esc h1
        · split at q
          · rename_i hc
            rw [List.mem_singleton.mp q]
            simp at hc
            exact .plain hc.1 hc.2.1 hc.2.2.1 hc.2.2.2 h1
          · cases q
      · rcases List.mem_append.mp q with q | q
        · obtain ⟨z, hz, rfl⟩ := List.mem_map.mp q
          exact InQ.open (.inl rfl) (inS_read h2 hz)
        · obtain ⟨z, hz, rfl⟩ := List.mem_map.mp q
          exact InQ.open (.inr rfl) (inD_read h3 hz)
    refine ⟨e1, ?_, ?_⟩
    · have hm : (dp (c :: r)).2.1 ∈ inS c (dp r).2.1 ++ [[39] ++ (dp (c :: r)).1] := bestL_mem (by simp)
      rcases List.mem_append.mp hm with q | q
      · exact inS_read h2 q
      · rw [List.mem_singleton.mp q]
        exact InQ.stop e1
    · have hm : (dp (c :: r)).2.2 ∈ inD c (dp r).2.2 ++ [[34] ++ (dp (c :: r)).1] := bestL_mem (by simp)
      rcases List.mem_append.mp hm with q | q
      · exact inD_read h3 q
      · rw [List.mem_singleton.mp q]
        exact InQ.stop e1
end Fc
namespace Fc
open PySem PySem.Spec PyProof.Rows L2
/-! ### M3: parts of a line read as tokens -/
def EndT (rest : List Nat) : Prop := rest = [] ∨ ∃ r, rest = 32 :: r
theorem EndT.lo {rest : List Nat} (h : EndT rest) : LO rest [] rest := by
  rcases h with rfl | ⟨r, rfl⟩
  · exact .nil
  · exact .sp r
theorem LO.end32 {r x r' : List Nat} (h : LO (32 :: r) x r') : x = [] := by
  generalize e : 32 :: r = l at h
  cases h with
  | nil => rfl
  | sp r => rfl
  | plain h1 => cases e; exact absurd rfl h1
  | esc _ => cases e
  | quo hq _ _ => cases e; rcases hq with z | z <;> cases z
theorem LO.endT {rest x r' : List Nat} (h : LO rest x r') (e : EndT rest) : x = [] := by
  rcases e with rfl | ⟨r, rfl⟩
  · cases h; rfl
  · exact h.end32
/-- a text read as tokens -/
def RdT (p : List Nat) (tk : List (List Nat)) : Prop := ∀ rest ts, EndT rest → LL rest ts → LL (p ++ rest) (tk ++ ts)
theorem rdT_tok {p x : List Nat} (hx : x ≠ []) (h : ∀ rest, LO rest [] rest → LO (p ++ rest) x rest) : RdT p [x] := by
  intro rest ts he hl
  have h1 := h rest he.lo
  cases p with
  | nil => exact absurd (h1.endT he) hx
  | cons c r =>
    have hc : c ≠ 32 := fun e => by subst e; exact hx h1.end32
    exact .tok hc h1 hl
theorem rdT_quote (x : List Nat) : RdT (quoteW x) [x] := by
  by_cases hx : x = []
  · subst hx
    intro rest ts he hl
    exact .tok (c := 34) (by decide) (LO.quo (t1 := []) (t2 := []) (.inr rfl) (.stop rest) he.lo) hl
  · unfold quoteW
    rw [if_neg hx]
    exact rdT_tok hx fun rest hr => (dp_reads x rest hr).1
/-- signs that stand for themselves -/
def PlainC (c : Nat) : Prop := c ≠ 32 ∧ c ≠ 39 ∧ c ≠ 34 ∧ c ≠ 92
theorem plain_lo {x rest : List Nat} (h : ∀ c ∈ x, PlainC c) (hr : LO rest [] rest) : LO (x ++ rest) x rest := by
  induction x with
  | nil => exact hr
  | cons c r ih =>
    obtain ⟨h1, h2, h3, h4⟩ := h c List.mem_cons_self
    exact .plain h1 h2 h3 h4 (ih fun d hd => h d (List.mem_cons_of_mem _ hd))
theorem rdT_plain {x : List Nat} (hx : x ≠ []) (h : ∀ c ∈ x, PlainC c) : RdT x [x] := rdT_tok hx fun _ hr => plain_lo h hr
theorem RdT.sp {p q : List Nat} {a b : List (List Nat)} (h : RdT p a) (k : RdT q b) : RdT (p ++ [32] ++ q) (a ++ b) := by
  intro rest ts he hl
  rw [List.append_assoc, List.append_assoc, List.append_assoc]
  exact h _ _ (.inr ⟨_, rfl⟩) (.sp (k rest ts he hl))
theorem rdT_join : ∀ ps : List (List Nat × List (List Nat)), (∀ q ∈ ps, RdT q.1 q.2) → LL (TL.joinL [32] (ps.map (·.1))) (ps.map (·.2)).flatten
  | [], _ => .nil
  | [p], h => by
    have := h p List.mem_cons_self [] [] (.inl rfl) .nil
    simpa [TL.joinL] using this
  | p :: q :: r, h => by
    have h1 := rdT_join (q :: r) fun x hx => h x (List.mem_cons_of_mem _ hx)
    have h2 := h p List.mem_cons_self _ _ (.inr ⟨_, rfl⟩) (.sp h1)
    show LL (p.1 ++ ([32] ++ TL.joinL [32] ((q :: r).map (·.1)))) (p.2 ++ ((q :: r).map (·.2)).flatten)
    exact h2
/-! ### a line's tokens -/
theorem QQ.memb {q : Nat} {r t r' : List Nat} (h : QQ q r t r') : (∀ c ∈ t, c ∈ r) ∧ ∀ c ∈ r', c ∈ r := by
  induction h with
  | stop r => exact ⟨fun c hc => (by cases hc), fun c hc => List.mem_cons_of_mem _ hc⟩
  | plain _ _ _ ih =>
    refine ⟨fun c hc => ?_, fun c hc => List.mem_cons_of_mem _ (ih.2 c hc)⟩
    rcases List.mem_cons.mp hc with e | e
    · rw [e]; exact List.mem_cons_self
    · exact List.mem_cons_of_mem _ (ih.1 c e)
  | esc _ _ ih =>
    refine ⟨fun c hc => ?_, fun c hc => List.mem_cons_of_mem _ (List.mem_cons_of_mem _ (ih.2 c hc))⟩
    rcases List.mem_cons.mp hc with e | e
    · rw [e]; exact List.mem_cons_of_mem _ List.mem_cons_self
    · exact List.mem_cons_of_mem _ (List.mem_cons_of_mem _ (ih.1 c e))
theorem LO.memb {r t r' : List Nat} (h : LO r t r') : (∀ c ∈ t, c ∈ r) ∧ ∀ c ∈ r', c ∈ r := by
  induction h with
  | nil => exact ⟨fun c hc => (by cases hc), fun c hc => (by cases hc)⟩
  | sp r => exact ⟨fun c hc => (by cases hc), fun c hc => hc⟩
  | plain _ _ _ _ _ ih =>
    refine ⟨fun c hc => ?_, fun c hc => List.mem_cons_of_mem _ (ih.2 c hc)⟩
    rcases List.mem_cons.mp hc with e | e
    · rw [e]; exact List.mem_cons_self
    · exact List.mem_cons_of_mem _ (ih.1 c e)
  | esc _ ih =>
    refine ⟨fun c hc => ?_, fun c hc => List.mem_cons_of_mem _ (List.mem_cons_of_mem _ (ih.2 c hc))⟩
    rcases List.mem_cons.mp hc with e | e
    · rw [e]; exact List.mem_cons_of_mem _ List.mem_cons_self
    · exact List.mem_cons_of_mem _ (List.mem_cons_of_mem _ (ih.1 c e))
  | quo _ hq _ ih =>
    have hm := hq.memb
    refine ⟨fun c hc => ?_, fun c hc => List.mem_cons_of_mem _ (hm.2 c (ih.2 c hc))⟩
    rcases List.mem_append.mp hc with e | e
    · exact List.mem_cons_of_mem _ (hm.1 c e)
    · exact List.mem_cons_of_mem _ (hm.2 c (ih.1 c e))
theorem LL.memb {l : List Nat} {ts : List (List Nat)} (h : LL l ts) : ∀ t ∈ ts, t.length ≤ l.length ∧ ∀ c ∈ t, c ∈ l := by
  induction h with
  | nil => intro t ht; cases ht
  | sp _ ih =>
    intro t ht
    obtain ⟨h1, h2⟩ := ih t ht
    exact ⟨by rw [List.length_cons]; omega, fun c hc => List.mem_cons_of_mem _ (h2 c hc)⟩
  | tok hc h _ ih =>
    intro t ht
    have hl := h.len
    have hm := h.memb
    rcases List.mem_cons.mp ht with e | e
    · subst e; exact ⟨by omega, hm.1⟩
    · obtain ⟨h1, h2⟩ := ih t e
      exact ⟨by omega, fun c hc => hm.2 c (h2 c hc)⟩
theorem LL.tok_ok {l : List Nat} {ts : List (List Nat)} (h : LL l ts) (hl : TokOk l) : ∀ t ∈ ts, TokOk t := fun t ht => by
  obtain ⟨h1, h2⟩ := h.memb t ht
  exact ⟨Nat.le_trans h1 hl.1, fun c hc => hl.2 c (h2 c hc)⟩
end Fc
namespace Fc
open PySem PySem.Spec PyProof.Rows L2
/-! ### M3: the tokens of a line read as options -/
theorem LTE_plain : ∀ c ∈ cLT ++ [45, 61], c ≠ 32 ∧ c ≠ 39 ∧ c ≠ 34 ∧ c ≠ 92 := by decide +kernel
theorem LTH_plain {c : Nat} (h : c ∈ cLT ++ [45]) : PlainC c := LTE_plain c (by
  rcases List.mem_append.mp h with e | e
  · exact List.mem_append_left _ e
  · exact List.mem_append_right _ (by rw [List.mem_singleton.mp e]; exact List.mem_cons_self))
theorem LT_plain {c : Nat} (h : c ∈ cLT) : PlainC c := LTH_plain (List.mem_append_left _ h)
theorem LTH_61 : ∀ c ∈ cLT ++ [45], c ≠ 61 := by decide +kernel
theorem abbr_spec {os : List Op} {lo hi : Int} (G : GOk os lo hi) {o : Op} (ho : o ∈ os) : abbrL os o.nm ≠ [] ∧ (abbrL os o.nm).length ≤ o.nm.length ∧ (∀ c ∈ abbrL os o.nm, c ∈ cLT ++ [45]) ∧ matchL (namesL os) (abbrL os o.nm) = [o.nm] := by
  have hn := (G.ops o ho).nm
  have hne : o.nm ≠ [] := by intro e; have := hn.1; rw [e] at this; simp at this
  obtain ⟨h1, h2⟩ := shortC_spec (ws := namesL os) (l := o.nm) (List.mem_map_of_mem ho) hne
  rw [abbr_eq]
  refine ⟨?_, prefs_len h1, ?_, h2⟩
  · obtain ⟨i, hi, e⟩ := prefs_mem h1
    intro z
    rw [z] at e
    have := congrArg List.length e
    rw [List.length_take] at this
    simp at this
    omega
  · obtain ⟨i, hi, e⟩ := prefs_mem h1
    intro c hc
    rw [e] at hc
    exact hn.2.2.2.2 c (List.mem_of_mem_take hc)
theorem short_val {k : Kd} {v : Wv} (hk : KdOk k) (hv : VOk k v) (hn : k ≠ .non) : ValR k (shortT k v) [v] ∧ TokOk (shortT k v) := by
  cases k with
  | non => exact absurd rfl hn
  | int lo hi =>
    obtain ⟨i, rfl, h1, h2⟩ := hv
    obtain ⟨k1, k2, k3⟩ := hk
    exact ⟨.int h1 h2, decW_ok (by omega) (by omega)⟩
  | word =>
    obtain ⟨l, rfl, h1⟩ := hv
    exact ⟨.word l, h1⟩
  | ch ws =>
    obtain ⟨l, rfl, h1⟩ := hv
    have hw := hk.2.2.2 l h1
    have hne : l ≠ [] := by intro e; subst e; have := hw.1; simp at this
    obtain ⟨h2, h3⟩ := shortC_spec h1 hne
    have hr := ValR.ch ws (shortC ws l)
    rw [h3] at hr
    refine ⟨hr, ?_, fun c hc => ?_⟩
    · have := prefs_len h2
      have := hw.2.1
      show (shortC ws l).length ≤ 200
      omega
    · obtain ⟨i, _, e⟩ := prefs_mem h2
      have hc : c ∈ shortC ws l := hc
      rw [e] at hc
      exact LT_AB c (hw.2.2 c (List.mem_of_mem_take hc))
theorem RSteps.app {os : List Op} {hi : Int} {s s1 s2 : Rs} {t1 t2 : List (List Nat)} (h : RSteps os hi s t1 s1) (k : RSteps os hi s1 t2 s2) : RSteps os hi s (t1 ++ t2) s2 := by
  induction h with
  | nil => exact k
  | cons h _ ih => exact .cons h (ih k)
theorem RSteps.one {os : List Op} {hi : Int} {s s1 : Rs} {t : List Nat} (h : RStep os hi s t s1) : RSteps os hi s [t] s1 := .cons h (.nil _)
/-- tokens that give pairs -/
def Stp (os : List Op) (hi : Int) (tk : List (List Nat)) (kv : Asg) : Prop := ∀ A : Asg, ((A ++ kv).map (·.1)).Nodup → A.length + kv.length ≤ 100 → RSteps os hi ⟨A, [], none, false⟩ tk ⟨A ++ kv, [], none, false⟩
theorem Stp.nil {os : List Op} {hi : Int} : Stp os hi [] [] := fun A _ _ => by rw [List.append_nil]; exact .nil _
theorem Stp.app {os : List Op} {hi : Int} {t1 t2 : List (List Nat)} {k1 k2 : Asg} (h : Stp os hi t1 k1) (k : Stp os hi t2 k2) : Stp os hi (t1 ++ t2) (k1 ++ k2) := fun A nd hl => by
  rw [List.length_append] at hl
  rw [← List.append_assoc] at nd ⊢
  have nd1 : ((A ++ k1).map (·.1)).Nodup := by
    rw [List.map_append] at nd
    exact (List.nodup_append.mp nd).1
  exact (h A nd1 (by omega)).app (k (A ++ k1) nd (by rw [List.length_append]; omega))
theorem Stp.list {os : List Op} {hi : Int} {tf : Op → List (List Nat)} {kv : Op → List Nat × Wv} : ∀ l : List Op, (∀ o ∈ l, Stp os hi (tf o) [kv o]) → Stp os hi (l.map tf).flatten (l.map kv)
  | [], _ => Stp.nil
  | o :: r, h => (h o List.mem_cons_self).app (Stp.list r fun x hx => h x (List.mem_cons_of_mem _ hx))
theorem nk_of {A kv : Asg} {n : List Nat} {v : Wv} (h : ((A ++ (n, v) :: kv).map (·.1)).Nodup) : noKey A n := by
  rw [List.map_append, List.map_cons] at h
  intro hm
  exact (List.nodup_append.mp h).2.2 n hm n List.mem_cons_self rfl
theorem putD_app {A : Asg} {n : List Nat} {v : Wv} (h : noKey A n) : putD A n v = A ++ [(n, v)] := putD_none (lookD_none.mpr h)
def kvO (g : Asg) (o : Op) : List Nat × Wv := (o.nm, gv g o)
/-- what is written -/
structure GwOk (os : List Op) (lo hi : Int) (g : Asg) : Prop where
  ok : GOk os lo hi
  ao : AOk os g
  tl : ∀ o ∈ os, hasK g o = true → o.kd ≠ .non → (txtL g o).length ≤ 120
section
variable {os : List Op} {lo hi : Int} {g : Asg}
theorem GwOk.flag (W : GwOk os lo hi g) {o : Op} (ho : o ∈ os) (hh : hasK g o = true) (hk : o.kd = .non) : gv g o = .bl true := by
  have h := (gv_ok W.ok W.ao ho hh).2
  rw [hk] at h
  exact h
theorem GwOk.val (W : GwOk os lo hi g) {o : Op} (ho : o ∈ os) (hh : hasK g o = true) (hk : o.kd ≠ .non) : ValR o.kd (txtL g o) [gv g o] ∧ TokOk (txtL g o) :=
  short_val (W.ok.ops o ho).kd (gv_ok W.ok W.ao ho hh).2 hk
def longT (g : Asg) (os : List Op) (o : Op) : List Nat := [45, 45] ++ abbrL os o.nm ++ [61] ++ txtL g o
def attT (g : Asg) (fl : List Nat) (o : Op) : List (List Nat) := if txtL g o = [] then [[45] ++ fl ++ o.lt, []] else [([45] ++ fl ++ o.lt) ++ txtL g o]
def aloneT (g : Asg) (os : List Op) (o : Op) : List (List Nat) := if aloneL g os o = quoteW (longT g os o) then [longT g os o] else attT g [] o
theorem stp_flag0 (W : GwOk os lo hi g) {o : Op} (ho : o ∈ os) (hh : hasK g o = true) (hk : o.kd = .non) : Stp os hi [[45, 45] ++ abbrL os o.nm] [kvO g o] := fun A nd _ => by
  obtain ⟨h1, h2, h3, h4⟩ := abbr_spec W.ok ho
  have hnk := nk_of nd
  have h5 := abbr_len W.ok ho
  have := RStep.long (os := os) (hi := hi) (s := ⟨A, [], none, false⟩) (o := o) (x := abbrL os o.nm) rfl rfl ho h1 (by omega) (fun hc => LTH_61 _ (h3 _ hc) rfl) h4 hnk hk
  rw [putD_app hnk] at this
  unfold kvO
  rw [W.flag ho hh hk]
  exact .one this
theorem stp_long (W : GwOk os lo hi g) {o : Op} (ho : o ∈ os) (hh : hasK g o = true) (hk : o.kd ≠ .non) : Stp os hi [longT g os o] [kvO g o] := fun A nd _ => by
  obtain ⟨h1, h2, h3, h4⟩ := abbr_spec W.ok ho
  have hnk := nk_of nd
  have h5 := abbr_len W.ok ho
  have h6 := W.tl o ho hh hk
  obtain ⟨h7, h8⟩ := W.val ho hh hk
  have := RStep.longV (os := os) (hi := hi) (s := ⟨A, [], none, false⟩) (o := o) (x := abbrL os o.nm) (y := txtL g o) rfl rfl ho (by omega) (fun hc => LTH_61 _ (h3 _ hc) rfl) h4 hnk hk h8 h7
  rw [putD_app hnk] at this
  have e : longT g os o = 45 :: 45 :: (abbrL os o.nm ++ 61 :: txtL g o) := by
    unfold longT
    simp
  rw [e]
  exact .one this
theorem letOk_one {x : List Nat} (h : LetOk x) (hne : x ≠ []) : ∃ c, x = [c] ∧ c ∈ cLT := by
  rcases h with e | e
  · exact absurd e hne
  · exact e
/-- flags with a letter -/
def FlOk (os : List Op) (g : Asg) (l : List Op) : Prop := ∀ o ∈ l, o ∈ os ∧ hasK g o = true ∧ o.kd = .non ∧ o.lt ≠ []
theorem bun_flags (W : GwOk os lo hi g) {r : List Nat} {g' : Asg} {p : Option (List Nat)} : ∀ (l : List Op) (A : Asg), FlOk os g l → ((A ++ l.map (kvO g)).map (·.1)).Nodup → BunR os r (A ++ l.map (kvO g)) g' p → BunR os ((l.map (·.lt)).flatten ++ r) A g' p
  | [], A, _, _, h => by
    rw [List.map_nil, List.append_nil] at h
    exact h
  | o :: l, A, hf, nd, h => by
    obtain ⟨ho, hh, hk, hlt⟩ := hf o List.mem_cons_self
    obtain ⟨c, hc, hcl⟩ := letOk_one (W.ok.ops o ho).lt hlt
    rw [List.map_cons] at nd h
    have hnk : noKey A o.nm := nk_of nd
    have e : A ++ kvO g o :: l.map (kvO g) = (A ++ [kvO g o]) ++ l.map (kvO g) := by rw [List.append_assoc]; rfl
    rw [e] at nd h
    have ih := bun_flags W l (A ++ [kvO g o]) (fun x hx => hf x (List.mem_cons_of_mem _ hx)) nd h
    rw [List.map_cons, List.flatten_cons, hc]
    refine .flag ho hc hk hnk ?_
    rw [putD_app hnk]
    unfold kvO at ih
    rw [W.flag ho hh hk] at ih
    exact ih
theorem fl_mem (W : GwOk os lo hi g) {l : List Op} (hf : FlOk os g l) : ∀ c ∈ (l.map (·.lt)).flatten, c ∈ cLT := by
  intro c hc
  obtain ⟨x, hx, hcx⟩ := List.mem_flatten.mp hc
  obtain ⟨o, ho, rfl⟩ := List.mem_map.mp hx
  exact letOk_mem (W.ok.ops o (hf o ho).1).lt c hcx
theorem fl_len (W : GwOk os lo hi g) : ∀ {l : List Op}, FlOk os g l → (l.map (·.lt)).flatten.length = l.length
  | [], _ => rfl
  | o :: l, hf => by
    obtain ⟨ho, _, _, hlt⟩ := hf o List.mem_cons_self
    obtain ⟨c, hc, _⟩ := letOk_one (W.ok.ops o ho).lt hlt
    rw [List.map_cons, List.flatten_cons, hc, List.length_append, fl_len W (l := l) fun x hx => hf x (List.mem_cons_of_mem _ hx), List.length_cons]
    simp
    omega
theorem bun_step {A g' : Asg} {x : List Nat} {p : Option (List Nat)} (hx : x ≠ []) (hc : ∀ c, x[0]? = some c → c ∈ cLT) (hl : x.length ≤ 200) (hg : g'.length ≤ 100) (h : BunR os x A g' p) : RStep os hi ⟨A, [], none, false⟩ ([45] ++ x) ⟨g', [], p, false⟩ := by
  cases x with
  | nil => exact absurd rfl hx
  | cons c r => exact RStep.bun (s := ⟨A, [], none, false⟩) rfl rfl (hc c rfl) hl h hg
theorem head_app {a b : List Nat} {P : Nat → Prop} (ha : ∀ c ∈ a, P c) (hb : a = [] → ∀ c, b[0]? = some c → P c) : ∀ c, (a ++ b)[0]? = some c → P c := by
  cases a with
  | nil => exact hb rfl
  | cons d r =>
    intro c hc
    have : d = c := by simpa using hc
    exact ha c (by rw [← this]; exact List.mem_cons_self)
theorem stp_bun (W : GwOk os lo hi g) {l : List Op} (hf : FlOk os g l) (hne : l ≠ []) (hl : l.length ≤ 12) : Stp os hi [[45] ++ (l.map (·.lt)).flatten] (l.map (kvO g)) := fun A nd hA => by
  have h := bun_flags W (r := []) (p := none) l A hf nd (.nil _)
  rw [List.append_nil] at h
  have hlen := fl_len W hf
  refine .one (bun_step ?_ ?_ (by omega) (by rw [List.length_append]; exact hA) h)
  · intro e
    rw [e] at hlen
    have := List.length_pos_iff.mpr hne
    simp at hlen
    omega
  · intro c hc
    exact fl_mem W hf c (List.mem_of_getElem? hc)
theorem stp_att (W : GwOk os lo hi g) {l : List Op} (hf : FlOk os g l) (hl : l.length ≤ 12) {o : Op} (ho : o ∈ os) (hh : hasK g o = true) (hk : o.kd ≠ .non) (hlt : o.lt ≠ []) : Stp os hi (attT g (l.map (·.lt)).flatten o) (l.map (kvO g) ++ [kvO g o]) := fun A nd hA => by
  obtain ⟨c, hc, hcl⟩ := letOk_one (W.ok.ops o ho).lt hlt
  obtain ⟨h7, h8⟩ := W.val ho hh hk
  have h6 := W.tl o ho hh hk
  have hlen := fl_len W hf
  rw [← List.append_assoc] at nd ⊢
  rw [List.length_append] at hA
  have hA : A.length + (l.length + 1) ≤ 100 := by simpa using hA
  have nd1 : ((A ++ l.map (kvO g)).map (·.1)).Nodup := by
    rw [List.map_append] at nd
    exact (List.nodup_append.mp nd).1
  have hnk : noKey (A ++ l.map (kvO g)) o.nm := nk_of nd
  have hput := putD_app (v := gv g o) hnk
  have hgl : (A ++ l.map (kvO g)).length ≤ 99 := by rw [List.length_append, List.length_map]; omega
  unfold attT
  rw [hc]
  split
  · rename_i ht
    rw [ht] at h7 h8
    have h := bun_flags W (r := [c]) l A hf nd1 (.pend ho hc hk hnk)
    have s1 := bun_step (hi := hi) (x := (l.map (·.lt)).flatten ++ [c]) (by simp) (head_app (fl_mem W hf) fun _ d hd => by
      have : c = d := by simpa using hd
      rw [← this]; exact hcl) (by rw [List.length_append, List.length_singleton]; omega) (by omega) h
    have s2 := RStep.pend (os := os) (hi := hi) (s := ⟨A ++ l.map (kvO g), [], some o.nm, false⟩) ho rfl hk h8 h7
    rw [hput] at s2
    rw [List.append_assoc]
    exact .cons s1 (.one s2)
  · rename_i ht
    have h := bun_flags W (r := c :: txtL g o) l A hf nd1 (.val ho hc hk hnk ht h8 h7)
    have s1 := bun_step (hi := hi) (x := (l.map (·.lt)).flatten ++ c :: txtL g o) (by simp) (head_app (fl_mem W hf) fun _ d hd => by
      have : c = d := by simpa using hd
      rw [← this]; exact hcl) (by rw [List.length_append, List.length_cons]; omega) (by
        rw [hput, List.length_append]; simp only [List.length_cons, List.length_nil]; omega) h
    rw [hput] at s1
    have e : ([45] ++ (l.map (·.lt)).flatten ++ [c]) ++ txtL g o = [45] ++ ((l.map (·.lt)).flatten ++ c :: txtL g o) := by simp
    rw [e]
    exact .one s1
theorem alone_cases (g : Asg) (os : List Op) (o : Op) : (aloneL g os o = quoteW (longT g os o) ∧ aloneT g os o = [longT g os o]) ∨ (o.lt ≠ [] ∧ aloneL g os o = attL g [] o ∧ aloneT g os o = attT g [] o) := by
  unfold aloneT
  by_cases h : aloneL g os o = quoteW (longT g os o)
  · exact .inl ⟨h, if_pos h⟩
  · rw [if_neg h]
    have hm : aloneL g os o ∈ aloneOs g os o := bestL_mem (by unfold aloneOs; simp)
    unfold aloneOs at hm
    rcases List.mem_append.mp hm with q | q
    · exact absurd (List.mem_singleton.mp q) h
    · split at q
      · rename_i hlt
        exact .inr ⟨hlt, List.mem_singleton.mp q, rfl⟩
      · cases q
theorem stp_alone (W : GwOk os lo hi g) {o : Op} (ho : o ∈ os) (hh : hasK g o = true) (hk : o.kd ≠ .non) : Stp os hi (aloneT g os o) [kvO g o] := by
  rcases alone_cases g os o with ⟨_, h2⟩ | ⟨h1, _, h3⟩
  · rw [h2]; exact stp_long W ho hh hk
  · rw [h3]; exact stp_att W (l := []) (fun x hx => by cases hx) (by simp) ho hh hk h1
/-! ### the parts as tokens -/
theorem rdT_flag0 (G : GOk os lo hi) {o : Op} (ho : o ∈ os) : RdT ([45, 45] ++ abbrL os o.nm) [[45, 45] ++ abbrL os o.nm] := by
  obtain ⟨h1, h2, h3, h4⟩ := abbr_spec G ho
  refine rdT_plain (by simp) fun c hc => LTH_plain ?_
  rcases List.mem_append.mp hc with e | e
  · refine List.mem_append_right _ ?_
    have : c = 45 := by simpa using e
    rw [this]; exact List.mem_cons_self
  · exact h3 c e
theorem rdT_bun {fl : List Nat} (h : ∀ c ∈ fl, c ∈ cLT) : RdT ([45] ++ fl) [[45] ++ fl] := by
  refine rdT_plain (by simp) fun c hc => LTH_plain ?_
  rcases List.mem_append.mp hc with e | e
  · exact List.mem_append_right _ e
  · exact List.mem_append_left _ (h c e)
theorem rdT_att {fl : List Nat} {o : Op} (h : ∀ c ∈ fl, c ∈ cLT) (ho : LetOk o.lt) : RdT (attL g fl o) (attT g fl o) := by
  unfold attL attT
  have h2 : ∀ c ∈ fl ++ o.lt, c ∈ cLT := fun c hc => by
    rcases List.mem_append.mp hc with e | e
    · exact h c e
    · exact letOk_mem ho c e
  split
  · have := (rdT_bun h2).sp (rdT_quote [])
    rw [← List.append_assoc] at this
    exact this
  · exact rdT_quote _
theorem rdT_alone (G : GOk os lo hi) {o : Op} (ho : o ∈ os) : RdT (aloneL g os o) (aloneT g os o) := by
  rcases alone_cases g os o with ⟨h1, h2⟩ | ⟨_, h2, h3⟩
  · rw [h1, h2]; exact rdT_quote _
  · rw [h2, h3]; exact rdT_att (fun c hc => by cases hc) (G.ops o ho).lt
end
end Fc
namespace Fc
open PySem PySem.Spec PyProof.Rows L2
/-! ### M3: the whole line -/
section
variable {os : List Op} {lo hi : Int} {g : Asg}
def f0L (g : Asg) (os : List Op) : List Op := os.filter fun o => hasK g o && isFlag o && decide (o.lt = [])
def f1L (g : Asg) (os : List Op) : List Op := os.filter fun o => hasK g o && isFlag o && decide (o.lt ≠ [])
def jn (g : Asg) (os : List Op) : List Nat := joinedL g os (flagsL g os) (valsL g os)
def restL (g : Asg) (os : List Op) : List Op := (valsL g os).filter fun o => decide (o.nm ≠ jn g os)
def jL (g : Asg) (os : List Op) : List Op := if jn g os ≠ [] then [opOf os (jn g os)] else []
def midP (g : Asg) (os : List Op) : List (List Nat × List (List Nat)) := if jn g os ≠ [] then [(attL g (flagsL g os) (opOf os (jn g os)), attT g (flagsL g os) (opOf os (jn g os)))] else if flagsL g os ≠ [] then [([45] ++ flagsL g os, [[45] ++ flagsL g os])] else []
def f0P (os : List Op) (o : Op) : List Nat × List (List Nat) := ([45, 45] ++ abbrL os o.nm, [[45, 45] ++ abbrL os o.nm])
def aloneP (g : Asg) (os : List Op) (o : Op) : List Nat × List (List Nat) := (aloneL g os o, aloneT g os o)
def optionsP (g : Asg) (os : List Op) : List (List Nat × List (List Nat)) := (f0L g os).map (f0P os) ++ midP g os ++ (restL g os).map (aloneP g os)
theorem optionsP_fst : (optionsP g os).map (·.1) = optionsL g os := by
  unfold optionsP
  rw [List.map_append, List.map_append, List.map_map, List.map_map]
  have e : (midP g os).map (·.1) = (if joinedL g os (flagsL g os) (valsL g os) ≠ [] then [attL g (flagsL g os) (opOf os (joinedL g os (flagsL g os) (valsL g os)))] else if flagsL g os ≠ [] then [[45] ++ flagsL g os] else []) := by
    unfold midP jn
    split
    · rfl
    · split <;> rfl
  rw [e]
  rfl
theorem flg_ok : FlOk os g (f1L g os) := fun o ho => by
  obtain ⟨h1, h2⟩ := List.mem_filter.mp ho
  simp only [Bool.and_eq_true, isFlag, decide_eq_true_eq] at h2
  exact ⟨h1, h2.1.1, h2.1.2, h2.2⟩
theorem flags_eq : flagsL g os = ((f1L g os).map (·.lt)).flatten := rfl
theorem f1_len (G : GOk os lo hi) : (f1L g os).length ≤ 12 := Nat.le_trans (List.length_filter_le _ _) G.len2
theorem jn_cases (g : Asg) (os : List Op) : jn g os = [] ∨ ∃ o ∈ valsL g os, jn g os = o.nm ∧ flagsL g os ≠ [] ∧ o.lt ≠ [] := joined_cases g os _ _
theorem nm_ne (G : GOk os lo hi) {o : Op} (ho : o ∈ os) : o.nm ≠ [] := by
  intro e
  have := (G.ops o ho).nm.1
  rw [e] at this
  simp at this
theorem stp_mid (W : GwOk os lo hi g) : Stp os hi ((midP g os).map (·.2)).flatten ((f1L g os).map (kvO g) ++ (jL g os).map (kvO g)) := by
  have hlen := fl_len W (flg_ok (os := os) (g := g))
  unfold midP jL
  split
  · rename_i hj
    rcases jn_cases g os with e | ⟨o, ho, e, _, hlt⟩
    · exact absurd e hj
    · obtain ⟨m1, m2, m3⟩ := vals_mem ho
      rw [e, opOf_eq W.ok m1]
      have h := stp_att W flg_ok (f1_len W.ok) m1 m2 m3 hlt
      rw [← flags_eq] at h
      simpa using h
  · split
    · rename_i hf
      have h := stp_bun W flg_ok (fun e => hf (by rw [flags_eq, e]; rfl)) (f1_len W.ok)
      rw [← flags_eq] at h
      simpa using h
    · rename_i hf
      have hf : flagsL g os = [] := Classical.not_not.mp hf
      rw [← flags_eq, hf] at hlen
      have : f1L g os = [] := List.length_eq_zero_iff.mp hlen.symm
      rw [this]
      exact Stp.nil
def ordL (g : Asg) (os : List Op) : List Op := f0L g os ++ (f1L g os ++ jL g os) ++ restL g os
theorem rest_mem {o : Op} (h : o ∈ restL g os) : o ∈ os ∧ hasK g o = true ∧ o.kd ≠ .non := vals_mem (List.mem_filter.mp h).1
theorem stp_all (W : GwOk os lo hi g) : Stp os hi ((optionsP g os).map (·.2)).flatten ((ordL g os).map (kvO g)) := by
  unfold optionsP ordL
  rw [List.map_append, List.map_append, List.map_append, List.map_append, List.map_append, List.flatten_append, List.flatten_append, List.map_map, List.map_map]
  refine Stp.app (Stp.app ?_ (stp_mid W)) ?_
  · refine Stp.list _ fun o ho => ?_
    obtain ⟨h1, h2⟩ := List.mem_filter.mp ho
    simp only [Bool.and_eq_true, isFlag, decide_eq_true_eq] at h2
    exact stp_flag0 W h1 h2.1.1 h2.1.2
  · refine Stp.list _ fun o ho => ?_
    obtain ⟨h1, h2, h3⟩ := rest_mem ho
    exact stp_alone W h1 h2 h3
theorem filter_one {l : List Op} (h : (l.map (·.nm)).Nodup) {o : Op} (ho : o ∈ l) : l.filter (fun p => decide (p.nm = o.nm)) = [o] := by
  induction l with
  | nil => cases ho
  | cons a r ih =>
    rw [List.map_cons] at h
    obtain ⟨h1, h2⟩ := List.nodup_cons.mp h
    rw [List.filter_cons]
    rcases List.mem_cons.mp ho with e | e
    · subst e
      rw [if_pos (decide_eq_true rfl), List.filter_eq_nil_iff.mpr]
      intro p hp hc
      exact h1 (by rw [← of_decide_eq_true hc]; exact List.mem_map_of_mem hp)
    · rw [if_neg, ih h2 e]
      intro hc
      exact h1 (by rw [of_decide_eq_true hc]; exact List.mem_map_of_mem e)
theorem vals_nd (G : GOk os lo hi) : ((valsL g os).map (·.nm)).Nodup := (List.filter_sublist.map (fun o : Op => o.nm)).nodup G.nms
theorem perm_vals (G : GOk os lo hi) : (jL g os ++ restL g os).Perm (valsL g os) := by
  have h := List.filter_append_perm (fun o : Op => decide (o.nm = jn g os)) (valsL g os)
  have e1 : (valsL g os).filter (fun o => !decide (o.nm = jn g os)) = restL g os := by
    unfold restL
    refine List.filter_congr fun o _ => ?_
    simp
  have e2 : (valsL g os).filter (fun o => decide (o.nm = jn g os)) = jL g os := by
    unfold jL
    rcases jn_cases g os with e | ⟨o, ho, e, _, _⟩
    · rw [e, if_neg (by simp), List.filter_eq_nil_iff.mpr]
      intro o ho hc
      exact nm_ne G (vals_mem ho).1 (of_decide_eq_true hc)
    · have hne := nm_ne G (vals_mem ho).1
      rw [e, if_pos hne, opOf_eq G (vals_mem ho).1]
      exact filter_one (vals_nd G) ho
  rw [e1, e2] at h
  exact h
theorem perm_flags : (f0L g os ++ f1L g os).Perm (os.filter fun o => hasK g o && isFlag o) := by
  have h := List.filter_append_perm (fun o : Op => decide (o.lt = [])) (os.filter fun o => hasK g o && isFlag o)
  rw [List.filter_filter, List.filter_filter] at h
  have e1 : os.filter (fun o => decide (o.lt = []) && (hasK g o && isFlag o)) = f0L g os := List.filter_congr fun o _ => Bool.and_comm _ _
  have e2 : os.filter (fun o => (!decide (o.lt = [])) && (hasK g o && isFlag o)) = f1L g os := List.filter_congr fun o _ => by
    rw [Bool.and_comm]
    simp
  rw [e1, e2] at h
  exact h
theorem perm_all (G : GOk os lo hi) : (ordL g os).Perm (os.filter (hasK g)) := by
  have h := List.filter_append_perm isFlag (os.filter (hasK g))
  rw [List.filter_filter, List.filter_filter] at h
  have e1 : os.filter (fun o => isFlag o && hasK g o) = os.filter fun o => hasK g o && isFlag o := List.filter_congr fun o _ => Bool.and_comm _ _
  have e2 : os.filter (fun o => (!isFlag o) && hasK g o) = valsL g os := List.filter_congr fun o _ => Bool.and_comm _ _
  rw [e1, e2] at h
  have e : ordL g os = (f0L g os ++ f1L g os) ++ (jL g os ++ restL g os) := by
    unfold ordL
    simp only [List.append_assoc]
  rw [e]
  exact (List.Perm.append perm_flags (perm_vals G)).trans h
theorem ord_mem (G : GOk os lo hi) {o : Op} (h : o ∈ ordL g os) : o ∈ os ∧ hasK g o = true := List.mem_filter.mp ((perm_all G).mem_iff.mp h)
theorem ord_nd (G : GOk os lo hi) : ((ordL g os).map (·.nm)).Nodup := ((perm_all G).map (fun o : Op => o.nm)).nodup_iff.mpr ((List.filter_sublist.map (fun o : Op => o.nm)).nodup G.nms)
theorem has_key {n : List Nat} : n ∈ g.map (·.1) ↔ (lookD g n).isSome = true := by
  cases e : lookD g n with
  | none => simp [lookD_none.mp e]
  | some v =>
    have h := lookD_mem e
    simp only [Option.isSome_some, iff_true]
    exact List.mem_map.mpr ⟨_, h, rfl⟩
theorem count_keys (G : GOk os lo hi) (A : AOk os g) (nd : NdK g) : (os.filter (hasK g)).length = g.length := by
  have h1 := nodup_sub_len (l := (os.filter (hasK g)).map (·.nm)) (D := g.map (·.1)) ((List.filter_sublist.map (fun o : Op => o.nm)).nodup G.nms) (fun x hx => by
    obtain ⟨o, ho, rfl⟩ := List.mem_map.mp hx
    exact has_key.mpr (List.mem_filter.mp ho).2)
  have h2 := nodup_sub_len (l := g.map (·.1)) (D := (os.filter (hasK g)).map (·.nm)) (show (g.map (·.1)).Nodup from nd) (fun x hx => by
    obtain ⟨p, hp, rfl⟩ := List.mem_map.mp hx
    obtain ⟨o, ho, e, _⟩ := A.ok p hp
    refine List.mem_map.mpr ⟨o, List.mem_filter.mpr ⟨ho, ?_⟩, e.symm⟩
    unfold hasK
    rw [← e]
    exact has_key.mp hx)
  rw [List.length_map, List.length_map] at h1 h2
  omega
theorem vok_flat {k : Kd} {v : Wv} (h : VOk k v) : flatW v = true := by
  cases k with
  | non => have : v = .bl true := h; rw [this]; rfl
  | int lo hi => obtain ⟨i, rfl, _⟩ := h; rfl
  | ch ws => obtain ⟨i, rfl, _⟩ := h; rfl
  | word => obtain ⟨i, rfl, _⟩ := h; rfl
theorem same_all (G : GOk os lo hi) (A : AOk os g) (nd : NdK g) : SameD ((ordL g os).map (kvO g)) g := by
  refine ⟨by rw [List.length_map, (perm_all G).length_eq, count_keys G A nd], fun p hp => ?_⟩
  obtain ⟨o, ho, rfl⟩ := List.mem_map.mp hp
  obtain ⟨h1, h2⟩ := ord_mem G ho
  obtain ⟨h3, h4⟩ := gv_ok G A h1 h2
  exact ⟨h3, vok_flat h4⟩
/-! ### the words -/
theorem stp_words {A : Asg} {on : Bool} : ∀ (ws W : List (List Nat)), (∀ w ∈ ws, w.length ≤ 200 ∧ (on = true ∨ ordB w = true)) → ((W.length + ws.length : Nat) : Int) ≤ hi → RSteps os hi ⟨A, W, none, on⟩ ws ⟨A, W ++ ws, none, on⟩
  | [], W, _, _ => by rw [List.append_nil]; exact .nil _
  | w :: r, W, h, hl => by
    obtain ⟨h1, h2⟩ := h w List.mem_cons_self
    rw [List.length_cons] at hl
    have s := RStep.word (os := os) (hi := hi) (s := ⟨A, W, none, on⟩) (tok := w) rfl h1 h2 (by show (W.length : Int) < hi; omega)
    have ih := stp_words (A := A) (on := on) r (W ++ [w]) (fun x hx => h x (List.mem_cons_of_mem _ hx)) (by rw [List.length_append, List.length_singleton]; omega)
    rw [List.append_assoc] at ih
    exact RSteps.cons s ih
def sepP (ws : List (List Nat)) : List (List Nat × List (List Nat)) := if ws.all ordB = true then [] else [([45, 45], [[45, 45]])]
def wordP (w : List Nat) : List Nat × List (List Nat) := (quoteW w, [w])
def lineP (g : Asg) (os : List Op) (ws : List (List Nat)) : List (List Nat × List (List Nat)) := (optionsP g os ++ sepP ws) ++ ws.map wordP
theorem lineP_fst (ws : List (List Nat)) : TL.joinL [32] ((lineP g os ws).map (·.1)) = compactL g os ws := by
  unfold lineP compactL
  rw [List.map_append, List.map_append, optionsP_fst, List.map_map]
  have e : (sepP ws).map (·.1) = if ws.all ordB = true then [] else [[45, 45]] := by
    unfold sepP
    split <;> rfl
  rw [e]
  rfl
theorem flat_words : ∀ ws : List (List Nat), ((ws.map wordP).map (·.2)).flatten = ws
  | [] => rfl
  | w :: r => by
    rw [List.map_cons, List.map_cons, List.flatten_cons, flat_words r]
    rfl
theorem line_reads (W : GwOk os lo hi g) (ws : List (List Nat)) : LL (compactL g os ws) ((lineP g os ws).map (·.2)).flatten := by
  rw [← lineP_fst]
  refine rdT_join _ fun q hq => ?_
  unfold lineP at hq
  rcases List.mem_append.mp hq with h | h
  · rcases List.mem_append.mp h with h | h
    · unfold optionsP at h
      rcases List.mem_append.mp h with h | h
      · rcases List.mem_append.mp h with h | h
        · obtain ⟨o, ho, rfl⟩ := List.mem_map.mp h
          exact rdT_flag0 W.ok (List.mem_filter.mp ho).1
        · have hfl : ∀ c ∈ flagsL g os, c ∈ cLT := by rw [flags_eq]; exact fl_mem W flg_ok
          unfold midP at h
          split at h
          · rename_i hj
            rcases jn_cases g os with e | ⟨o, ho, e, _, hlt⟩
            · exact absurd e hj
            · rw [e, opOf_eq W.ok (vals_mem ho).1] at h
              rw [List.mem_singleton.mp h]
              exact rdT_att hfl (W.ok.ops o (vals_mem ho).1).lt
          · split at h
            · rw [List.mem_singleton.mp h]
              exact rdT_bun hfl
            · cases h
      · obtain ⟨o, ho, rfl⟩ := List.mem_map.mp h
        exact rdT_alone W.ok (rest_mem ho).1
    · unfold sepP at h
      split at h
      · cases h
      · rw [List.mem_singleton.mp h]
        exact rdT_plain (by simp) (fun c hc => LTH_plain (List.mem_append_right _ (by
          have : c = 45 := by simpa using hc
          rw [this]; exact List.mem_cons_self)))
  · obtain ⟨w, _, rfl⟩ := List.mem_map.mp h
    exact rdT_quote w
theorem line_steps (W : GwOk os lo hi g) {ws : List (List Nat)} (hw : ∀ w ∈ ws, w.length ≤ 200) (hl : (ws.length : Int) ≤ hi) : ∃ on, RSteps os hi ⟨[], [], none, false⟩ ((lineP g os ws).map (·.2)).flatten ⟨(ordL g os).map (kvO g), ws, none, on⟩ := by
  unfold lineP
  rw [List.map_append, List.map_append, List.flatten_append, List.flatten_append, flat_words]
  have hnd : ((([] : Asg) ++ (ordL g os).map (kvO g)).map (·.1)).Nodup := by
    rw [List.nil_append, List.map_map]
    exact ord_nd W.ok
  have hlen : (ordL g os).length ≤ 12 := by
    rw [(perm_all W.ok).length_eq]
    exact Nat.le_trans (List.length_filter_le _ _) W.ok.len2
  have h1 := stp_all W [] hnd (by rw [List.length_map]; simp; omega)
  rw [List.nil_append] at h1
  unfold sepP
  split
  · rename_i ho
    refine ⟨false, (h1.app (.nil _)).app ?_⟩
    exact stp_words ws [] (fun w h => ⟨hw w h, .inr (List.all_eq_true.mp ho w h)⟩) (by simpa using hl)
  · refine ⟨true, (h1.app (.one (RStep.sep (s := ⟨(ordL g os).map (kvO g), [], none, false⟩) rfl rfl))).app ?_⟩
    exact stp_words ws [] (fun w h => ⟨hw w h, .inl rfl⟩) (by simpa using hl)
/-! ### what is read holds names of the grammar, each once -/
def KeyOk (os : List Op) (g : Asg) : Prop := NdK g ∧ ∀ n ∈ g.map (·.1), n ∈ namesL os
theorem putD_keyOk {n : List Nat} {v : Wv} (h : KeyOk os g) (hn : n ∈ namesL os) : KeyOk os (putD g n v) := by
  refine ⟨putD_nd h.1, fun m hm => ?_⟩
  rw [putD_keys] at hm
  split at hm
  · exact h.2 m hm
  · rcases List.mem_append.mp hm with e | e
    · exact h.2 m e
    · rw [List.mem_singleton.mp e]; exact hn
theorem BunR.keys {x : List Nat} {g g' : Asg} {p : Option (List Nat)} (h : BunR os x g g' p) : KeyOk os g → KeyOk os g' := by
  induction h with
  | nil => exact id
  | flag ho _ _ _ _ ih => exact fun k => ih (putD_keyOk k (List.mem_map_of_mem ho))
  | val ho _ _ _ _ _ _ => exact fun k => putD_keyOk k (List.mem_map_of_mem ho)
  | pend => exact id
theorem RStep.keys {s s' : Rs} {t : List Nat} (h : RStep os hi s t s') : KeyOk os s.asg → KeyOk os s'.asg := by
  cases h with
  | pend ho _ _ _ _ => exact fun k => putD_keyOk k (List.mem_map_of_mem ho)
  | word => exact id
  | sep => exact id
  | long _ _ ho _ _ _ _ _ _ => exact fun k => putD_keyOk k (List.mem_map_of_mem ho)
  | longV _ _ ho _ _ _ _ _ _ _ => exact fun k => putD_keyOk k (List.mem_map_of_mem ho)
  | bun _ _ _ _ hb _ => exact hb.keys
theorem RSteps.keys {s s' : Rs} {t : List (List Nat)} (h : RSteps os hi s t s') : KeyOk os s.asg → KeyOk os s'.asg := by
  induction h with
  | nil => exact id
  | cons h _ ih => exact fun k => ih (h.keys k)
theorem KeyOk.len (h : KeyOk os g) : g.length ≤ os.length := by
  have hnd : (g.map (·.1)).Nodup := h.1
  have := nodup_sub_len (l := g.map (·.1)) (D := namesL os) hnd h.2
  unfold namesL at this
  rw [List.length_map, List.length_map] at this
  exact this
theorem steps_len (G : GOk os lo hi) {ts : List (List Nat)} {s : Rs} (h : RSteps os hi ⟨[], [], none, false⟩ ts s) : s.asg.length ≤ 99 := by
  have := (h.keys ⟨List.nodup_nil, fun n hn => (by cases hn)⟩).len
  have := G.len2
  omega
end
end Fc
namespace Fc
open PySem PySem.Spec PyProof.Rows L2
/-! ### M2, M4: lengths -/
def plen (ps : List (List Nat)) : Nat := (ps.map fun p => p.length + 1).sum
theorem plen_app (a b : List (List Nat)) : plen (a ++ b) = plen a + plen b := by unfold plen; rw [List.map_append, List.sum_append]
theorem plen_map {α : Type} (f : α → List Nat) (l : List α) : plen (l.map f) = (l.map fun o => (f o).length + 1).sum := by
  unfold plen
  rw [List.map_map]
  rfl
theorem plen_one (p : List Nat) : plen [p] = p.length + 1 := by simp [plen]
theorem joinL_len : ∀ ps : List (List Nat), (TL.joinL [32] ps).length = plen ps - 1
  | [] => rfl
  | [p] => by rw [plen_one]; rfl
  | p :: q :: r => by
    have ih := joinL_len (q :: r)
    have e : plen (p :: q :: r) = p.length + 1 + plen (q :: r) := by simp [plen]
    have h1 : 1 ≤ plen (q :: r) := by simp [plen]; omega
    show (p ++ ([32] ++ TL.joinL [32] (q :: r))).length = _
    rw [List.length_append, List.length_append, ih, e]
    simp
    omega
theorem dp_mono (x : List Nat) : (dp x).1.length ≤ (dp x).2.1.length + 1 ∧ (dp x).1.length ≤ (dp x).2.2.length + 1 := by
  cases x with
  | nil => simp [dp]
  | cons c r =>
    have hle : ∀ y, y ∈ outS c (dp r).1 (dp r).2.1 (dp r).2.2 → (dp (c :: r)).1.length ≤ y.length := fun y hy => bestL_le hy
    constructor
    · have hm : (dp (c :: r)).2.1 ∈ inS c (dp r).2.1 ++ [[39] ++ (dp (c :: r)).1] := bestL_mem (by simp)
      rcases List.mem_append.mp hm with q | q
      · have := hle ([39] ++ (dp (c :: r)).2.1) (by
          unfold outS
          exact List.mem_append_right _ (List.mem_append_left _ (List.mem_map_of_mem q)))
        simp at this
        omega
      · have e := congrArg List.length (List.mem_singleton.mp q)
        simp at e
        omega
    · have hm : (dp (c :: r)).2.2 ∈ inD c (dp r).2.2 ++ [[34] ++ (dp (c :: r)).1] := bestL_mem (by simp)
      rcases List.mem_append.mp hm with q | q
      · have := hle ([34] ++ (dp (c :: r)).2.2) (by
          unfold outS
          exact List.mem_append_right _ (List.mem_append_right _ (List.mem_map_of_mem q)))
        simp at this
        omega
      · have e := congrArg List.length (List.mem_singleton.mp q)
        simp at e
        omega
theorem dp_plain {c : Nat} (r : List Nat) (h : PlainC c) : (dp (c :: r)).1.length = 1 + (dp r).1.length := by
  obtain ⟨h1, h2, h3, h4⟩ := h
  obtain ⟨m1, m2⟩ := dp_mono r
  have hle : (dp (c :: r)).1.length ≤ ([c] ++ (dp r).1).length := bestL_le (os := outS c (dp r).1 (dp r).2.1 (dp r).2.2) (by
    unfold outS
    refine List.mem_append_left _ (List.mem_append_right _ ?_)
    rw [if_pos (by simp [h1, h2, h3, h4])]
    exact List.mem_cons_self)
  have hge : 1 + (dp r).1.length ≤ (dp (c :: r)).1.length := by
    have hm : (dp (c :: r)).1 ∈ outS c (dp r).1 (dp r).2.1 (dp r).2.2 := bestL_mem (by unfold outS; simp)
    generalize (dp (c :: r)).1 = y at hm
    unfold outS at hm
    rcases List.mem_append.mp hm with q | q
    · rcases List.mem_append.mp q with q | q
      · rw [List.mem_singleton.mp q]; simp; omega
      · split at q
        · rw [List.mem_singleton.mp q]; simp; omega
        · cases q
    · rcases List.mem_append.mp q with q | q
      · obtain ⟨z, hz, rfl⟩ := List.mem_map.mp q
        unfold inS at hz
        split at hz
        · rw [List.mem_singleton.mp hz]; simp; omega
        · cases hz
      · obtain ⟨z, hz, rfl⟩ := List.mem_map.mp q
        unfold inD at hz
        rcases List.mem_append.mp hz with w | w
        · rw [List.mem_singleton.mp w]; simp; omega
        · split at w
          · rw [List.mem_singleton.mp w]; simp; omega
          · cases w
  simp at hle
  omega
theorem dp_app {a : List Nat} (x : List Nat) (h : ∀ c ∈ a, PlainC c) : (dp (a ++ x)).1.length = a.length + (dp x).1.length := by
  induction a with
  | nil => simp
  | cons c r ih =>
    have := ih fun d hd => h d (List.mem_cons_of_mem _ hd)
    rw [List.cons_append, dp_plain _ (h c List.mem_cons_self), this, List.length_cons]
    omega
theorem quote_app {a : List Nat} (x : List Nat) (ha : a ≠ []) (h : ∀ c ∈ a, PlainC c) : (quoteW (a ++ x)).length = a.length + (dp x).1.length := by
  unfold quoteW
  rw [if_neg (by simp [ha])]
  exact dp_app x h
theorem dp_pos {x : List Nat} (h : x ≠ []) : 1 ≤ (dp x).1.length := by
  have hr := (dp_reads x [] .nil).1
  rw [List.append_nil] at hr
  cases e : (dp x).1 with
  | nil =>
    rw [e] at hr
    exact absurd (hr.endT (.inl rfl)) h
  | cons a r => simp
theorem dp_cost (x : List Nat) : (dp x).1.length ≤ cost x := by
  induction x with
  | nil => exact Nat.le_refl _
  | cons c r ih =>
    have e : cost (c :: r) = ccost c + cost r := by unfold cost; rw [List.map_cons, List.sum_cons]
    rw [e]
    by_cases h : c = 32 ∨ c = 34 ∨ c = 39 ∨ c = 92
    · have h2 : ccost c = 2 := if_pos h
      have hle : (dp (c :: r)).1.length ≤ ([92, c] ++ (dp r).1).length := bestL_le (os := outS c (dp r).1 (dp r).2.1 (dp r).2.2) (by
        unfold outS
        exact List.mem_append_left _ (List.mem_append_left _ List.mem_cons_self))
      simp at hle
      omega
    · have h2 : ccost c = 1 := if_neg h
      have hp : PlainC c := ⟨fun e => h (.inl e), fun e => h (.inr (.inr (.inl e))), fun e => h (.inr (.inl e)), fun e => h (.inr (.inr (.inr e)))⟩
      rw [dp_plain r hp]
      omega
theorem quote_tcost (x : List Nat) : (quoteW x).length ≤ tcost x := by
  unfold quoteW tcost
  split
  · exact Nat.le_refl _
  · exact dp_cost x
theorem dp_plain_len {a : List Nat} (h : ∀ c ∈ a, PlainC c) : (dp a).1.length = a.length := by
  have := dp_app [] h
  rw [List.append_nil] at this
  exact this
/-! ### signs of a line -/
theorem dp_AB {x : List Nat} (h : ∀ c ∈ x, c ∈ cAB) : (∀ c ∈ (dp x).1, c ∈ cAB) ∧ (∀ c ∈ (dp x).2.1, c ∈ cAB) ∧ ∀ c ∈ (dp x).2.2, c ∈ cAB := by
  have k34 : (34 : Nat) ∈ cAB := by decide +kernel
  have k39 : (39 : Nat) ∈ cAB := by decide +kernel
  have k92 : (92 : Nat) ∈ cAB := by decide +kernel
  have app : ∀ {a b : List Nat}, (∀ c ∈ a, c ∈ cAB) → (∀ c ∈ b, c ∈ cAB) → ∀ c ∈ a ++ b, c ∈ cAB := fun ha hb c hc => by
    rcases List.mem_append.mp hc with e | e
    · exact ha c e
    · exact hb c e
  have one : ∀ {d : Nat}, d ∈ cAB → ∀ c ∈ [d], c ∈ cAB := fun hd c hc => by rw [List.mem_singleton.mp hc]; exact hd
  induction x with
  | nil => exact ⟨fun c hc => (by cases hc), one k39, one k34⟩
  | cons d r ih =>
    obtain ⟨h1, h2, h3⟩ := ih fun c hc => h c (List.mem_cons_of_mem _ hc)
    have hd := h d List.mem_cons_self
    have hesc : ∀ c ∈ [92, d], c ∈ cAB := app (a := [92]) (one k92) (one hd)
    have hS : ∀ y ∈ inS d (dp r).2.1, ∀ c ∈ y, c ∈ cAB := fun y hy => by
      unfold inS at hy
      split at hy
      · rw [List.mem_singleton.mp hy]; exact app (one hd) h2
      · cases hy
    have hD : ∀ y ∈ inD d (dp r).2.2, ∀ c ∈ y, c ∈ cAB := fun y hy => by
      unfold inD at hy
      rcases List.mem_append.mp hy with q | q
      · rw [List.mem_singleton.mp q]; exact app hesc h3
      · split at q
        · rw [List.mem_singleton.mp q]; exact app (one hd) h3
        · cases q
    have e1 : ∀ c ∈ (dp (d :: r)).1, c ∈ cAB := by
      have hm : (dp (d :: r)).1 ∈ outS d (dp r).1 (dp r).2.1 (dp r).2.2 := bestL_mem (by unfold outS; simp)
      generalize (dp (d :: r)).1 = y at hm
      unfold outS at hm
      rcases List.mem_append.mp hm with q | q
      · rcases List.mem_append.mp q with q | q
        · rw [List.mem_singleton.mp q]; exact app hesc h1
        · split at q
          · rw [List.mem_singleton.mp q]; exact app (one hd) h1
          · cases q
      · rcases List.mem_append.mp q with q | q
        · obtain ⟨z, hz, rfl⟩ := List.mem_map.mp q
          exact app (one k39) (hS z hz)
        · obtain ⟨z, hz, rfl⟩ := List.mem_map.mp q
          exact app (one k34) (hD z hz)
    refine ⟨e1, ?_, ?_⟩
    · have hm : (dp (d :: r)).2.1 ∈ inS d (dp r).2.1 ++ [[39] ++ (dp (d :: r)).1] := bestL_mem (by simp)
      rcases List.mem_append.mp hm with q | q
      · exact hS _ q
      · rw [List.mem_singleton.mp q]; exact app (one k39) e1
    · have hm : (dp (d :: r)).2.2 ∈ inD d (dp r).2.2 ++ [[34] ++ (dp (d :: r)).1] := bestL_mem (by simp)
      rcases List.mem_append.mp hm with q | q
      · exact hD _ q
      · rw [List.mem_singleton.mp q]; exact app (one k34) e1
theorem quote_AB {x : List Nat} (h : ∀ c ∈ x, c ∈ cAB) : ∀ c ∈ quoteW x, c ∈ cAB := by
  unfold quoteW
  split
  · intro c hc
    have k34 : (34 : Nat) ∈ cAB := by decide +kernel
    have : c = 34 := by simpa using hc
    rw [this]; exact k34
  · exact (dp_AB h).1
theorem joinL_AB : ∀ ps : List (List Nat), (∀ p ∈ ps, ∀ c ∈ p, c ∈ cAB) → ∀ c ∈ TL.joinL [32] ps, c ∈ cAB
  | [], _ => fun c hc => by cases hc
  | [p], h => h p List.mem_cons_self
  | p :: q :: r, h => fun c hc => by
    have k32 : (32 : Nat) ∈ cAB := by decide +kernel
    have ih := joinL_AB (q :: r) fun x hx => h x (List.mem_cons_of_mem _ hx)
    have hc : c ∈ p ++ ([32] ++ TL.joinL [32] (q :: r)) := hc
    rcases List.mem_append.mp hc with e | e
    · exact h p List.mem_cons_self c e
    · rcases List.mem_append.mp e with e | e
      · rw [List.mem_singleton.mp e]; exact k32
      · exact ih c e
section
variable {os : List Op} {lo hi : Int} {g : Asg}
theorem pre_plain {fl lt : List Nat} (hf : ∀ c ∈ fl, c ∈ cLT) (hl : LetOk lt) : ∀ c ∈ [45] ++ fl ++ lt, PlainC c := fun c hc => LTH_plain (by
  rcases List.mem_append.mp hc with e | e
  · rcases List.mem_append.mp e with e | e
    · exact List.mem_append_right _ e
    · exact List.mem_append_left _ (hf c e)
  · exact List.mem_append_left _ (letOk_mem hl c e))
theorem att_leng (G : GOk os lo hi) {o : Op} (ho : o ∈ os) (hlt : o.lt ≠ []) {fl : List Nat} (hf : ∀ c ∈ fl, c ∈ cLT) : (attL g fl o).length = fl.length + (if txtL g o = [] then 5 else 2 + (dp (txtL g o)).1.length) := by
  obtain ⟨c, hc, _⟩ := letOk_one (G.ops o ho).lt hlt
  unfold attL
  split
  · have : (quoteW []).length = 2 := rfl
    simp only [List.length_append, this, hc]
    simp
    omega
  · rw [quote_app _ (by simp) (pre_plain hf (G.ops o ho).lt), hc]
    simp
    omega
theorem long_leng (G : GOk os lo hi) {o : Op} (ho : o ∈ os) : (quoteW (longT g os o)).length = 3 + (abbrL os o.nm).length + (dp (txtL g o)).1.length := by
  obtain ⟨h1, h2, h3, h4⟩ := abbr_spec G ho
  unfold longT
  rw [quote_app _ (by simp) (fun c hc => ?_)]
  · simp
    omega
  · have k : ∀ d : Nat, d = 45 ∨ d = 61 → PlainC d := by
      rintro d (rfl | rfl) <;> exact ⟨by decide, by decide, by decide, by decide⟩
    rcases List.mem_append.mp hc with e | e
    · rcases List.mem_append.mp e with e | e
      · exact k c (.inl (by simpa using e))
      · exact LTH_plain (h3 c e)
    · exact k c (.inr (by simpa using e))
theorem alone_le_long (g : Asg) (os : List Op) (o : Op) : (aloneL g os o).length ≤ (quoteW (longT g os o)).length := bestL_le (by
  unfold aloneOs longT
  exact List.mem_append_left _ List.mem_cons_self)
theorem alone_le_att {o : Op} (hlt : o.lt ≠ []) : (aloneL g os o).length ≤ (attL g [] o).length := bestL_le (by
  unfold aloneOs
  rw [if_pos hlt]
  exact List.mem_append_right _ List.mem_cons_self)
theorem alone_ge (G : GOk os lo hi) {o : Op} (ho : o ∈ os) : 3 ≤ (aloneL g os o).length := by
  rcases alone_cases g os o with ⟨h1, _⟩ | ⟨h1, h2, _⟩
  · obtain ⟨h3, _⟩ := abbr_spec G ho
    have := List.length_pos_iff.mpr h3
    rw [h1, long_leng G ho]
    omega
  · rw [h2, att_leng G ho h1 (fun c hc => by cases hc)]
    split
    · simp
    · rename_i ht
      have := dp_pos ht
      simp
      omega
/-! ### what is saved -/
def sv (g : Asg) (os : List Op) : Int := (maxP (0, []) (rowsL g os (flagsL g os) (valsL g os))).1
theorem flags_LT (G : GOk os lo hi) (g : Asg) : ∀ c ∈ flagsL g os, c ∈ cLT := fun c hc => by
  obtain ⟨x, hx, hcx⟩ := List.mem_flatten.mp hc
  obtain ⟨o, ho, rfl⟩ := List.mem_map.mp hx
  exact letOk_mem (G.ops o (List.mem_filter.mp ho).1).lt c hcx
theorem row_eq (G : GOk os lo hi) {o : Op} (ho : o ∈ os) (hlt : o.lt ≠ []) : rowL g os (flagsL g os) o = (((aloneL g os o).length : Int) + 2 - ((attL g [] o).length : Int), o.nm) := by
  have h1 := att_leng (g := g) G ho hlt (flags_LT G g)
  have h2 := att_leng (g := g) G ho hlt (fl := []) (fun c hc => by cases hc)
  unfold rowL
  refine Prod.ext ?_ rfl
  show ((aloneL g os o).length : Int) + (flagsL g os).length + 2 - (attL g (flagsL g os) o).length = _
  rw [h1, h2]
  simp
  omega
theorem maxP_ge (xs : List (Int × List Nat)) : ∀ x, x.1 ≤ (maxP x xs).1 := by
  unfold maxP
  induction xs with
  | nil => intro x; exact Int.le_refl _
  | cons y ys ih =>
    intro x
    rw [List.foldl_cons]
    have h := ih (if ltP x y = true then y else x)
    by_cases q : ltP x y = true
    · rw [if_pos q] at h ⊢
      exact Int.le_trans (ltP_fst q) h
    · rw [if_neg q] at h ⊢
      exact h
theorem sv_cases (g : Asg) (os : List Op) : (sv g os = 0 ∧ jn g os = []) ∨ ∃ o ∈ valsL g os, sv g os = (rowL g os (flagsL g os) o).1 ∧ jn g os = o.nm ∧ flagsL g os ≠ [] ∧ o.lt ≠ [] := by
  unfold sv jn joinedL
  rcases maxP_mem (rowsL g os (flagsL g os) (valsL g os)) (0, []) with h | h
  · rw [h]; exact .inl ⟨rfl, rfl⟩
  · obtain ⟨o, ho, e⟩ := List.mem_map.mp h
    obtain ⟨h1, h2⟩ := List.mem_filter.mp ho
    simp only [Bool.and_eq_true, decide_eq_true_eq] at h2
    rw [← e]
    exact .inr ⟨o, h1, rfl, rfl, h2.1, h2.2⟩
theorem sv_ge (g : Asg) (os : List Op) : 0 ≤ sv g os := maxP_ge _ (0, [])
theorem sv_le (G : GOk os lo hi) (g : Asg) : sv g os ≤ 2 ∧ (flagsL g os = [] → sv g os = 0) := by
  rcases sv_cases g os with ⟨h, _⟩ | ⟨o, ho, h, _, hf, hlt⟩
  · exact ⟨by omega, fun _ => h⟩
  · refine ⟨?_, fun e => absurd e hf⟩
    rw [h, row_eq G (vals_mem ho).1 hlt]
    have := alone_le_att (g := g) (os := os) hlt
    show ((aloneL g os o).length : Int) + 2 - ((attL g [] o).length : Int) ≤ 2
    omega
/-! ### the options' length -/
def t0 (os : List Op) (o : Op) : Nat := (abbrL os o.nm).length + 3
def t1 (g : Asg) (os : List Op) (o : Op) : Nat := (aloneL g os o).length + 1
theorem sum_perm {l r : List Op} (h : l.Perm r) (f : Op → Nat) : (l.map f).sum = (r.map f).sum := (h.map f).sum_nat
theorem options_len (G : GOk os lo hi) (g : Asg) : (plen (optionsL g os) : Int) + sv g os = (((f0L g os).map (t0 os)).sum : Int) + (flagsL g os).length + (((valsL g os).map (t1 g os)).sum : Int) + (if flagsL g os ≠ [] then 2 else 0) := by
  rw [← optionsP_fst]
  unfold optionsP
  rw [List.map_append, List.map_append, plen_app, plen_app, List.map_map, List.map_map, plen_map (_ ∘ f0P os), plen_map (_ ∘ aloneP g os)]
  have e0 : ((f0L g os).map fun o => (((fun x : List Nat × List (List Nat) => x.1) ∘ f0P os) o).length + 1).sum = ((f0L g os).map (t0 os)).sum := by
    refine congrArg List.sum (List.map_congr_left fun o _ => ?_)
    show ([45, 45] ++ abbrL os o.nm).length + 1 = (abbrL os o.nm).length + 3
    simp only [List.length_append, List.length_cons, List.length_nil]
    omega
  have e1 : ((restL g os).map fun o => (((fun x : List Nat × List (List Nat) => x.1) ∘ aloneP g os) o).length + 1).sum = ((restL g os).map (t1 g os)).sum := rfl
  rw [e0, e1, ← sum_perm (perm_vals G) (t1 g os), List.map_append, List.sum_append]
  rcases sv_cases g os with ⟨h, hj⟩ | ⟨o, ho, h, hj, hf, hlt⟩
  · rw [h]
    have em : plen ((midP g os).map (·.1)) = if flagsL g os ≠ [] then (flagsL g os).length + 2 else 0 := by
      unfold midP
      rw [if_neg (by rw [hj]; simp)]
      split
      · show plen [[45] ++ flagsL g os] = _
        rw [plen_one]
        simp
      · rfl
    have ej : jL g os = [] := by unfold jL; rw [if_neg (by rw [hj]; simp)]
    rw [em, ej]
    split
    · simp
      omega
    · rename_i hf
      have hf : flagsL g os = [] := Classical.not_not.mp hf
      rw [hf]
      simp
  · have ho1 := (vals_mem ho).1
    have hne := nm_ne G ho1
    have em : plen ((midP g os).map (·.1)) = (attL g (flagsL g os) o).length + 1 := by
      unfold midP
      rw [hj, if_pos hne, opOf_eq G ho1]
      exact plen_one _
    have ej : jL g os = [o] := by unfold jL; rw [hj, if_pos hne, opOf_eq G ho1]
    have h1 := att_leng (g := g) G ho1 hlt (flags_LT G g)
    have h2 := att_leng (g := g) G ho1 hlt (fl := []) (fun c hc => by cases hc)
    rw [em, ej, h, row_eq G ho1 hlt, h1, h2, if_pos hf]
    simp only [List.map_cons, List.map_nil, List.sum_cons, List.sum_nil, List.length_nil]
    unfold t1
    push_cast
    omega
/-! ### sums over the grammar's options -/
theorem sum_filter (p : Op → Bool) (f : Op → Nat) : ∀ l : List Op, ((l.filter p).map f).sum = (l.map fun o => if p o = true then f o else 0).sum
  | [] => rfl
  | o :: r => by
    rw [List.filter_cons, List.map_cons, List.sum_cons, ← sum_filter p f r]
    split
    · rw [List.map_cons, List.sum_cons]
    · omega
theorem sum_add (f h : Op → Nat) : ∀ l : List Op, (l.map fun o => f o + h o).sum = (l.map f).sum + (l.map h).sum
  | [] => rfl
  | o :: r => by
    rw [List.map_cons, List.sum_cons, sum_add f h r, List.map_cons, List.sum_cons, List.map_cons, List.sum_cons]
    omega
theorem sum_le (f h : Op → Nat) : ∀ l : List Op, (∀ o ∈ l, f o ≤ h o) → (l.map f).sum ≤ (l.map h).sum
  | [], _ => Nat.le_refl _
  | o :: r, H => by
    have h1 := H o List.mem_cons_self
    have h2 := sum_le f h r fun x hx => H x (List.mem_cons_of_mem _ hx)
    rw [List.map_cons, List.sum_cons, List.map_cons, List.sum_cons]
    omega
theorem sum_eqv (f h : Op → Nat) (l : List Op) (H : ∀ o ∈ l, f o = h o) : (l.map f).sum = (l.map h).sum := by
  rw [List.map_congr_left H]
/-- one option's share taken out -/
theorem sum_out (f h : Op → Nat) : ∀ (l : List Op), (l.map (·.nm)).Nodup → ∀ o1 ∈ l, (∀ o ∈ l, o.nm ≠ o1.nm → f o = h o) → f o1 = 0 → (l.map f).sum + h o1 = (l.map h).sum
  | [], _, o1, hm, _, _ => by cases hm
  | o :: r, nd, o1, hm, H, hz => by
    rw [List.map_cons] at nd
    obtain ⟨n1, n2⟩ := List.nodup_cons.mp nd
    rw [List.map_cons, List.sum_cons, List.map_cons, List.sum_cons]
    rcases List.mem_cons.mp hm with e | e
    · subst e
      have := sum_eqv f h r fun x hx => H x (List.mem_cons_of_mem _ hx) (fun z => n1 (by rw [← z]; exact List.mem_map_of_mem hx))
      omega
    · have h1 := sum_out f h r n2 o1 e (fun x hx => H x (List.mem_cons_of_mem _ hx)) hz
      have h2 := H o List.mem_cons_self (fun z => n1 (by rw [z]; exact List.mem_map_of_mem e))
      omega
def tA (g : Asg) (os : List Op) (o : Op) : Nat := (if (hasK g o && isFlag o && decide (o.lt = [])) = true then t0 os o else 0) + (if (hasK g o && isFlag o && decide (o.lt ≠ [])) = true then 1 else 0) + (if (hasK g o && !isFlag o) = true then t1 g os o else 0)
def tF (g : Asg) (o : Op) : Nat := if (hasK g o && isFlag o && decide (o.lt ≠ [])) = true then 1 else 0
theorem flags_sum (G : GOk os lo hi) (g : Asg) : (flagsL g os).length = (os.map (tF g)).sum := by
  have h : ∀ l : List Op, (∀ o ∈ l, o ∈ os ∧ o.lt ≠ []) → (l.map (·.lt)).flatten.length = (l.map fun _ => 1).sum := by
    intro l
    induction l with
    | nil => intro _; rfl
    | cons o r ih =>
      intro H
      obtain ⟨h1, h2⟩ := H o List.mem_cons_self
      obtain ⟨c, hc, _⟩ := letOk_one (G.ops o h1).lt h2
      have := ih fun x hx => H x (List.mem_cons_of_mem _ hx)
      rw [List.map_cons, List.flatten_cons, List.length_append, this, hc, List.map_cons, List.sum_cons]
      rfl
  rw [flags_eq, h _ fun o ho => ⟨(flg_ok o ho).1, (flg_ok o ho).2.2.2⟩]
  exact sum_filter (fun o => hasK g o && isFlag o && decide (o.lt ≠ [])) (fun _ => 1) os
theorem tA_sum (G : GOk os lo hi) (g : Asg) : ((f0L g os).map (t0 os)).sum + (flagsL g os).length + ((valsL g os).map (t1 g os)).sum = (os.map (tA g os)).sum := by
  rw [flags_sum G g]
  unfold f0L valsL
  rw [sum_filter, sum_filter]
  have e : (os.map (tA g os)).sum = (os.map fun o => ((if (hasK g o && isFlag o && decide (o.lt = [])) = true then t0 os o else 0) + tF g o) + (if (hasK g o && !isFlag o) = true then t1 g os o else 0)).sum := rfl
  rw [e, sum_add, sum_add]
theorem options_leng (G : GOk os lo hi) (g : Asg) : (plen (optionsL g os) : Int) + sv g os = ((os.map (tA g os)).sum : Int) + (if flagsL g os ≠ [] then 2 else 0) := by
  rw [options_len G g, ← tA_sum G g]
  push_cast
  omega
end
end Fc
namespace Fc
open PySem PySem.Spec PyProof.Rows L2
/-! ### M5: a line depends on lookups alone -/
section
variable {g g' : Asg}
theorem hasK_cg (h : lookD g = lookD g') : hasK g = hasK g' := by funext o; unfold hasK; rw [h]
theorem gv_cg (h : lookD g = lookD g') : gv g = gv g' := by funext o; unfold gv; rw [h]
theorem txtL_cg (h : lookD g = lookD g') : txtL g = txtL g' := by funext o; unfold txtL; rw [gv_cg h]
theorem attL_cg (h : lookD g = lookD g') : attL g = attL g' := by funext fl o; unfold attL; rw [txtL_cg h]
theorem aloneL_cg (h : lookD g = lookD g') : aloneL g = aloneL g' := by funext os o; unfold aloneL aloneOs; rw [txtL_cg h, attL_cg h]
theorem flagsL_cg (h : lookD g = lookD g') : flagsL g = flagsL g' := by funext os; unfold flagsL; rw [hasK_cg h]
theorem partsLL_cg (h : lookD g = lookD g') : partsLL g = partsLL g' := by funext os l; unfold partsLL; rw [hasK_cg h]
theorem valsL_cg (h : lookD g = lookD g') : valsL g = valsL g' := by funext os; unfold valsL; rw [hasK_cg h]
theorem rowL_cg (h : lookD g = lookD g') : rowL g = rowL g' := by funext os fl o; unfold rowL; rw [aloneL_cg h, attL_cg h]
theorem joinedL_cg (h : lookD g = lookD g') : joinedL g = joinedL g' := by funext os fl vs; unfold joinedL rowsL; rw [rowL_cg h]
theorem optionsL_cg (h : lookD g = lookD g') : optionsL g = optionsL g' := by
  funext os
  unfold optionsL
  rw [partsLL_cg h, joinedL_cg h, attL_cg h, aloneL_cg h, valsL_cg h, flagsL_cg h]
theorem compactL_cg (h : lookD g = lookD g') : compactL g = compactL g' := by funext os ws; unfold compactL; rw [optionsL_cg h]
end
/-! ### M4: one option less is shorter -/
section
variable {os : List Op} {lo hi : Int} {g g' : Asg}
theorem hasK_at {o : Op} (h : lookD g' o.nm = lookD g o.nm) : hasK g' o = hasK g o := by unfold hasK; rw [h]
theorem txtL_at {o : Op} (h : lookD g' o.nm = lookD g o.nm) : txtL g' o = txtL g o := by unfold txtL gv; rw [h]
theorem attL_at {o : Op} (h : lookD g' o.nm = lookD g o.nm) (fl : List Nat) : attL g' fl o = attL g fl o := by unfold attL; rw [txtL_at h]
theorem aloneL_at {o : Op} (h : lookD g' o.nm = lookD g o.nm) : aloneL g' os o = aloneL g os o := by unfold aloneL aloneOs; rw [txtL_at h, attL_at h]
theorem tA_at {o : Op} (h : lookD g' o.nm = lookD g o.nm) : tA g' os o = tA g os o := by
  unfold tA t1
  rw [hasK_at h, aloneL_at h]
theorem tF_at {o : Op} (h : lookD g' o.nm = lookD g o.nm) : tF g' o = tF g o := by unfold tF; rw [hasK_at h]
theorem sum_mem (f : Op → Nat) : ∀ l : List Op, ∀ o ∈ l, f o ≤ (l.map f).sum
  | [], _, h => by cases h
  | a :: r, o, h => by
    rw [List.map_cons, List.sum_cons]
    rcases List.mem_cons.mp h with e | e
    · subst e; omega
    · have := sum_mem f r o e; omega
theorem abbr_pos (G : GOk os lo hi) {o : Op} (ho : o ∈ os) : 1 ≤ (abbrL os o.nm).length := List.length_pos_iff.mpr (abbr_spec G ho).1
/-- an option's share -/
theorem share (G : GOk os lo hi) {o : Op} (ho : o ∈ os) (hh : hasK g o = true) : (4 ≤ tA g os o ∧ tF g o = 0) ∨ (isFlag o = true ∧ tA g os o = 1 ∧ tF g o = 1) := by
  have h1 := abbr_pos G ho
  have h2 := alone_ge (g := g) G ho
  unfold tA tF t0 t1
  rw [hh]
  cases hf : isFlag o with
  | false => simp; omega
  | true =>
    by_cases hlt : o.lt = []
    · simp [hlt]; omega
    · simp [hlt]
theorem two (G : GOk os lo hi) {o : Op} (ho : o ∈ os) (hh : hasK g o = true) : 2 ≤ plen (optionsL g os) := by
  have h := options_leng G g
  have hs := sum_mem (tA g os) os o ho
  obtain ⟨s1, s2⟩ := sv_le G g
  have hfs := flags_sum G g
  have hfm := sum_mem (tF g) os o ho
  by_cases hf : flagsL g os = []
  · rw [if_neg (by simp [hf])] at h
    have := s2 hf
    rw [hf, List.length_nil] at hfs
    rcases share G ho hh with ⟨q1, _⟩ | ⟨_, _, q3⟩
    · omega
    · omega
  · rw [if_pos hf] at h
    rcases sv_cases g os with ⟨z, _⟩ | ⟨p, hp, _⟩
    · rcases share G ho hh with ⟨q1, _⟩ | ⟨_, q2, q3⟩ <;> omega
    · obtain ⟨p1, p2, p3⟩ := vals_mem hp
      have hs2 := sum_mem (tA g os) os p p1
      rcases share G p1 p2 with ⟨q1, _⟩ | ⟨q0, _, _⟩
      · omega
      · exact absurd (of_decide_eq_true q0) p3
theorem less_opt (G : GOk os lo hi) {o1 : Op} (h1 : o1 ∈ os) (hh : hasK g o1 = true) (hn : lookD g' o1.nm = none) (hs : ∀ n, n ≠ o1.nm → lookD g' n = lookD g n) : plen (optionsL g' os) < plen (optionsL g os) := by
  have hz : hasK g' o1 = false := by unfold hasK; rw [hn]; rfl
  have e1 := sum_out (tA g' os) (tA g os) os G.nms o1 h1 (fun o _ hne => tA_at (hs _ hne)) (by unfold tA; rw [hz]; rfl)
  have e2 := sum_out (tF g') (tF g) os G.nms o1 h1 (fun o _ hne => tF_at (hs _ hne)) (by unfold tF; rw [hz]; rfl)
  rw [← flags_sum G g, ← flags_sum G g'] at e2
  have L := options_leng G g
  have L' := options_leng G g'
  obtain ⟨s1, s2⟩ := sv_le G g
  obtain ⟨s1', s2'⟩ := sv_le G g'
  have s0 := sv_ge g os
  have s0' := sv_ge g' os
  have emp : ∀ x : Asg, flagsL x os = [] ↔ (flagsL x os).length = 0 := fun x => List.length_eq_zero_iff.symm
  rcases share G h1 hh with ⟨q1, q2⟩ | ⟨q0, q1, q2⟩
  · by_cases hf : flagsL g os = []
    · have hf' : flagsL g' os = [] := (emp g').mpr (by have := (emp g).mp hf; omega)
      have := s2 hf
      have := s2' hf'
      rw [if_neg (by simp [hf])] at L
      rw [if_neg (by simp [hf'])] at L'
      omega
    · have hf' : ¬ flagsL g' os = [] := fun z => hf ((emp g).mpr (by have := (emp g').mp z; omega))
      rw [if_pos hf] at L
      rw [if_pos hf'] at L'
      omega
  · have hf : ¬ flagsL g os = [] := fun z => by have := (emp g).mp z; omega
    rw [if_pos hf] at L
    by_cases hf' : flagsL g' os = []
    · have := s2' hf'
      rw [if_neg (by simp [hf'])] at L'
      omega
    · rw [if_pos hf'] at L'
      have hne : ∀ o ∈ os, isFlag o = false → o.nm ≠ o1.nm := fun o ho hfl z => by
        rw [op_nm G ho h1 z, q0] at hfl
        cases hfl
      have hv : valsL g' os = valsL g os := by
        unfold valsL
        refine List.filter_congr fun o ho => ?_
        cases hfl : isFlag o with
        | true => simp
        | false => rw [hasK_at (hs _ (hne o ho hfl))]
      have hr : rowsL g' os (flagsL g' os) (valsL g' os) = rowsL g os (flagsL g os) (valsL g os) := by
        unfold rowsL
        rw [hv]
        have ef : (valsL g os).filter (fun o => decide (flagsL g' os ≠ []) && decide (o.lt ≠ [])) = (valsL g os).filter (fun o => decide (flagsL g os ≠ []) && decide (o.lt ≠ [])) := List.filter_congr fun o _ => by
          rw [decide_eq_true hf, decide_eq_true hf']
        rw [ef]
        refine List.map_congr_left fun o ho => ?_
        obtain ⟨w1, w2⟩ := List.mem_filter.mp ho
        simp only [Bool.and_eq_true, decide_eq_true_eq] at w2
        obtain ⟨p1, p2, p3⟩ := vals_mem w1
        have hnm := hne o p1 (decide_eq_false p3)
        rw [row_eq G p1 w2.2, row_eq G p1 w2.2, aloneL_at (hs _ hnm), attL_at (hs _ hnm)]
      have hsv : sv g' os = sv g os := by unfold sv; rw [hr]
      omega
def tailL (ws : List (List Nat)) : List (List Nat) := (if ws.all ordB = true then [] else [[45, 45]]) ++ ws.map quoteW
theorem compact_len (g : Asg) (os : List Op) (ws : List (List Nat)) : (compactL g os ws).length = plen (optionsL g os) + plen (tailL ws) - 1 := by
  unfold compactL
  rw [joinL_len, List.append_assoc, plen_app]
  rfl
theorem less_line (G : GOk os lo hi) {o1 : Op} (h1 : o1 ∈ os) (hh : hasK g o1 = true) (hn : lookD g' o1.nm = none) (hs : ∀ n, n ≠ o1.nm → lookD g' n = lookD g n) (ws : List (List Nat)) : (compactL g' os ws).length < (compactL g os ws).length := by
  have a := less_opt G h1 hh hn hs
  have b := two G h1 hh
  rw [compact_len, compact_len]
  omega
end
/-! ### M1: the cost of what is read -/
def vc : Kd → Wv → Nat
  | .word, .str l => cost l
  | _, _ => 0
def wc (g : Asg) (o : Op) : Nat := match lookD g o.nm with
  | some v => vc o.kd v
  | none => 0
def wsum (os : List Op) (g : Asg) : Nat := (os.map (wc g)).sum
def pc (os : List Op) (n : List Nat) (v : Wv) : Nat := (os.map fun o => if o.nm = n then vc o.kd v else 0).sum
def psum (os : List Op) (ps : Asg) : Nat := (ps.map fun p => pc os p.1 p.2).sum
def wcst (ws : List (List Nat)) : Nat := (ws.map tcost).sum
section
variable {os : List Op} {lo hi : Int}
theorem lookD_put {k n : List Nat} {w : Wv} (g : Asg) : lookD (putD g k w) n = if k = n then some w else lookD g n := by
  induction g with
  | nil => rfl
  | cons p r ih =>
    obtain ⟨x, u⟩ := p
    unfold putD
    by_cases hx : x = k
    · subst hx
      rw [if_pos rfl]
      show (if x = n then some w else lookD r n) = (if x = n then some w else (if x = n then some u else lookD r n))
      by_cases h1 : x = n <;> simp [h1]
    · rw [if_neg hx]
      show (if x = n then some u else lookD (putD r k w) n) = (if k = n then some w else (if x = n then some u else lookD r n))
      rw [ih]
      by_cases h1 : x = n
      · have h2 : ¬ k = n := fun z => hx (h1.trans z.symm)
        simp [h1, h2]
      · simp [h1]
theorem wsum_put (os : List Op) (g : Asg) (n : List Nat) (v : Wv) : wsum os (putD g n v) ≤ wsum os g + pc os n v := by
  unfold wsum pc
  rw [← sum_add]
  refine sum_le _ _ os fun o _ => ?_
  show wc (putD g n v) o ≤ wc g o + if o.nm = n then vc o.kd v else 0
  unfold wc
  rw [lookD_put]
  by_cases h : n = o.nm
  · rw [if_pos h, if_pos h.symm]
    exact Nat.le_add_left _ _
  · rw [if_neg h]
    exact Nat.le_add_right _ _
theorem wsum_merge (os : List Op) : ∀ (b a : Asg), wsum os (mergeW a b) ≤ wsum os a + psum os b
  | [], a => Nat.le_refl _
  | p :: r, a => by
    have h1 := wsum_merge os r (putD a p.1 p.2)
    have h2 := wsum_put os a p.1 p.2
    have e : psum os (p :: r) = pc os p.1 p.2 + psum os r := by unfold psum; rw [List.map_cons, List.sum_cons]
    show wsum os (mergeW (putD a p.1 p.2) r) ≤ _
    omega
theorem psum_put (os : List Op) (n : List Nat) (v : Wv) : ∀ g : Asg, psum os (putD g n v) ≤ psum os g + pc os n v
  | [] => by show (([(n, v)] : Asg).map fun p => pc os p.1 p.2).sum ≤ _; simp [psum]
  | (x, u) :: r => by
    have ih := psum_put os n v r
    unfold putD
    have e : ∀ (y : List Nat) (w : Wv) (l : Asg), psum os ((y, w) :: l) = pc os y w + psum os l := fun y w l => by unfold psum; rw [List.map_cons, List.sum_cons]
    split
    · rename_i h
      subst h
      rw [e, e]
      omega
    · rw [e, e]
      omega
theorem psum_merge (os : List Op) : ∀ (b a : Asg), psum os (mergeW a b) ≤ psum os a + psum os b
  | [], a => Nat.le_refl _
  | p :: r, a => by
    have h1 := psum_merge os r (putD a p.1 p.2)
    have h2 := psum_put os p.1 p.2 a
    have e : psum os (p :: r) = pc os p.1 p.2 + psum os r := by unfold psum; rw [List.map_cons, List.sum_cons]
    show psum os (mergeW (putD a p.1 p.2) r) ≤ _
    omega
theorem sum_single {n : List Nat} {f : Op → Nat} {c : Nat} : ∀ l : List Op, (l.map (·.nm)).Nodup → (∀ o ∈ l, o.nm = n → f o ≤ c) → (l.map fun o => if o.nm = n then f o else 0).sum ≤ c
  | [], _, _ => Nat.zero_le _
  | o :: r, nd, H => by
    rw [List.map_cons] at nd
    obtain ⟨n1, n2⟩ := List.nodup_cons.mp nd
    rw [List.map_cons, List.sum_cons]
    by_cases h : o.nm = n
    · have hz : (r.map fun o => if o.nm = n then f o else 0).sum = 0 := by
        have := sum_eqv (fun o => if o.nm = n then f o else 0) (fun _ => 0) r fun x hx => by
          rw [if_neg]
          intro z
          exact n1 (by rw [h, ← z]; exact List.mem_map_of_mem hx)
        rw [this]
        clear n1 n2 nd H this
        induction r with
        | nil => rfl
        | cons a r ih => rw [List.map_cons, List.sum_cons, ih]
      have := H o List.mem_cons_self h
      rw [if_pos h, hz]
      omega
    · rw [if_neg h]
      have := sum_single r n2 fun x hx => H x (List.mem_cons_of_mem _ hx)
      omega
theorem pc_le (G : GOk os lo hi) {o : Op} (ho : o ∈ os) {v : Wv} {c : Nat} (h : vc o.kd v ≤ c) : pc os o.nm v ≤ c :=
  sum_single os G.nms fun p hp e => by rw [op_nm G hp ho e]; exact h
theorem val_cost {k : Kd} {x : List Nat} {v : Wv} (h : v ∈ lawValue k x) : vc k v ≤ cost x := by
  cases k with
  | word =>
    have : v = .str x := by simpa [lawValue] using h
    rw [this]
    exact Nat.le_refl _
  | _ => exact Nat.zero_le _
theorem psum_app (a b : Asg) : psum os (a ++ b) = psum os a + psum os b := by unfold psum; rw [List.map_append, List.sum_append]
theorem psum_one (n : List Nat) (v : Wv) : psum os [(n, v)] = pc os n v := by simp [psum]
theorem vc_bl (k : Kd) : vc k (.bl true) = 0 := by cases k <;> rfl
theorem cost_cons (c : Nat) (r : List Nat) : cost (c :: r) = ccost c + cost r := by unfold cost; rw [List.map_cons, List.sum_cons]
theorem cost_sub {a b : List Nat} (h : a.Sublist b) : cost a ≤ cost b := by
  induction h with
  | slnil => exact Nat.le_refl _
  | cons x _ ih => rw [cost_cons]; omega
  | cons_cons x _ ih => rw [cost_cons, cost_cons]; omega
theorem bunL_cost (G : GOk os lo hi) {given : Asg} : ∀ (x : List Nat) (acc ps : Asg) (pd : Option (List Nat)), lawBun os given x acc = some (ps, pd) → psum os ps ≤ psum os acc + cost x
  | [], acc, ps, pd, h => by
    unfold lawBun at h
    cases h
    exact Nat.le_add_right _ _
  | c :: r, acc, ps, pd, h => by
    rw [cost_cons]
    unfold lawBun at h
    cases hf : os.find? fun o => decide (o.lt = [c]) with
    | none => rw [hf] at h; cases h
    | some o =>
      have ho := List.mem_of_find?_eq_some hf
      rw [hf] at h
      simp only at h
      split at h
      · cases h
      · split at h
        · have h1 := bunL_cost G r _ ps pd h
          have h2 := pc_le G ho (v := .bl true) (c := 0) (by rw [vc_bl]; exact Nat.le_refl _)
          rw [psum_app, psum_one] at h1
          omega
        · split at h
          · cases h
            omega
          · split at h
            · cases h
            · rename_i v vs hv
              cases h
              have h2 := pc_le G ho (val_cost (k := o.kd) (x := r) (v := v) (by rw [hv]; exact List.mem_cons_self))
              rw [psum_app, psum_one]
              omega
theorem option_cost (G : GOk os lo hi) {given ps : Asg} {x : List Nat} {pd : Option (List Nat)} (h : lawOption os given x = some (ps, pd)) : psum os ps ≤ cost x := by
  unfold lawOption at h
  split at h
  · have := bunL_cost G _ _ _ _ h
    have h2 := cost_sub (List.drop_sublist 1 x)
    have h3 : psum os [] = 0 := rfl
    omega
  · split at h
    · rename_i n hn
      have hmem : n ∈ namesL os := by
        have : n ∈ lawLong os ((x.drop 2).takeWhile fun c => decide (c ≠ 61)) := by rw [hn]; exact List.mem_cons_self
        unfold lawLong at this
        split at this
        · exact (List.mem_filter.mp this).1
        · exact (List.mem_filter.mp this).1
      obtain ⟨ho, hnm⟩ := opOf_of G hmem
      split at h
      · cases h
      · split at h
        · split at h
          · cases h
          · cases h
            have h2 := pc_le G ho (v := .bl true) (c := 0) (by rw [vc_bl]; exact Nat.le_refl _)
            rw [hnm] at h2
            rw [psum_one]
            omega
        · split at h
          · split at h
            · cases h
            · rename_i v vs hv
              cases h
              have h2 := pc_le G ho (val_cost (k := (opOf os n).kd) (v := v) (by rw [hv]; exact List.mem_cons_self))
              rw [hnm] at h2
              have h3 := cost_sub (((List.drop_sublist 1 ((x.drop 2).dropWhile fun c => decide (c ≠ 61))).trans (List.dropWhile_sublist _)).trans (List.drop_sublist 2 x))
              rw [psum_one]
              omega
          · cases h
            exact Nat.zero_le _
    · cases h
theorem cost_tcost (t : List Nat) : cost t ≤ tcost t := by
  unfold tcost
  split
  · rename_i h
    rw [h]
    exact Nat.zero_le _
  · exact Nat.le_refl _
theorem wcst_snoc (ws : List (List Nat)) (t : List Nat) : wcst (ws ++ [t]) = wcst ws + tcost t := by unfold wcst; rw [List.map_append, List.sum_append]; simp
theorem step_cost (G : GOk os lo hi) {s s' : Rs} {t : List Nat} (L : LsOk os s) (h : lawStep os hi s t = some s') : wsum os s'.asg + wcst s'.words ≤ wsum os s.asg + wcst s.words + tcost t := by
  have ht := cost_tcost t
  unfold lawStep at h
  split at h
  · rename_i n hn
    obtain ⟨hm, hk⟩ := L.pd n hn
    obtain ⟨ho, hnm⟩ := opOf_of G hm
    split at h
    · cases h
    · rename_i v vs hv
      cases h
      have h1 := wsum_put os s.asg n v
      have h2 := pc_le G ho (val_cost (k := (opOf os n).kd) (x := t) (v := v) (by rw [hv]; exact List.mem_cons_self))
      rw [hnm] at h2
      show wsum os (putD s.asg n v) + wcst s.words ≤ _
      omega
  · split at h
    · cases h
      exact Nat.le_add_right _ _
    · split at h
      · split at h
        · cases h
        · cases h
          show wsum os s.asg + wcst (s.words ++ [t]) ≤ _
          rw [wcst_snoc]
          omega
      · split at h
        · cases h
        · rename_i ps pd hop
          cases h
          have h1 := option_cost G hop
          have h2 := wsum_merge os (mergeW [] ps) s.asg
          have h3 := psum_merge os ps []
          have h4 : psum os [] = 0 := rfl
          show wsum os (mergeW s.asg (mergeW [] ps)) + wcst s.words ≤ _
          omega
theorem step_words {s s' : Rs} {t : List Nat} (h : lawStep os hi s t = some s') : (s'.words = s.words ∨ (s'.words = s.words ++ [t] ∧ (s.words.length : Int) ≠ hi)) ∧ (s'.pend = none ∨ s.pend = none) := by
  unfold lawStep at h
  split at h
  · split at h
    · cases h
    · cases h
      exact ⟨.inl rfl, .inl rfl⟩
  · rename_i hn
    refine ⟨?_, .inr hn⟩
    split at h
    · cases h
      exact .inl rfl
    · split at h
      · split at h
        · cases h
        · rename_i hne
          cases h
          exact .inr ⟨rfl, hne⟩
      · split at h
        · cases h
        · cases h
          exact .inl rfl
theorem read_ok (G : GOk os lo hi) : ∀ (ts : List (List Nat)) (s s' : Rs), (∀ t ∈ ts, TokOk t) → LsOk os s → (s.words.length : Int) ≤ hi → lawReadF os hi s ts = some s' → LsOk os s' ∧ (s'.words.length : Int) ≤ hi ∧ (∀ w ∈ s'.words, w ∈ s.words ∨ w ∈ ts) ∧ wsum os s'.asg + wcst s'.words ≤ wsum os s.asg + wcst s.words + wcst ts
  | [], s, s', _, L, hw, h => by
    unfold lawReadF at h
    cases h
    exact ⟨L, hw, fun w h => .inl h, Nat.le_add_right _ _⟩
  | t :: r, s, s', ht, L, hw, h => by
    unfold lawReadF at h
    cases e : lawStep os hi s t with
    | none => rw [e] at h; cases h
    | some s1 =>
      rw [e, Option.bind_some] at h
      have L1 := lawStep_ok G (ht t List.mem_cons_self) L e
      have c1 := step_cost G L e
      obtain ⟨w1, _⟩ := step_words e
      have hw1 : (s1.words.length : Int) ≤ hi := by
        rcases w1 with q | ⟨q, q2⟩
        · rw [q]; exact hw
        · rw [q, List.length_append, List.length_singleton]; omega
      obtain ⟨r1, r2, r3, r4⟩ := read_ok G r s1 s' (fun x hx => ht x (List.mem_cons_of_mem _ hx)) L1 hw1 h
      have e2 : wcst (t :: r) = tcost t + wcst r := by unfold wcst; rw [List.map_cons, List.sum_cons]
      refine ⟨r1, r2, fun w hwm => ?_, by omega⟩
      rcases r3 w hwm with z | z
      · rcases w1 with q | ⟨q, _⟩
        · rw [q] at z; exact .inl z
        · rw [q] at z
          rcases List.mem_append.mp z with z | z
          · exact .inl z
          · rw [List.mem_singleton.mp z]; exact .inr List.mem_cons_self
      · exact .inr (List.mem_cons_of_mem _ z)
theorem read_app (os : List Op) (hi : Int) : ∀ (a b : List (List Nat)) (s : Rs), lawReadF os hi s (a ++ b) = (lawReadF os hi s a).bind fun s1 => lawReadF os hi s1 b
  | [], _, _ => rfl
  | t :: r, b, s => by
    show (lawStep os hi s t).bind (fun s1 => lawReadF os hi s1 (r ++ b)) = ((lawStep os hi s t).bind fun s1 => lawReadF os hi s1 r).bind fun s1 => lawReadF os hi s1 b
    cases lawStep os hi s t with
    | none => rfl
    | some s1 => exact read_app os hi r b s1
/-- the last token goes where it left an option without its value -/
theorem read_drop {ts : List (List Nat)} {s s' : Rs} (h : lawReadF os hi s ts = some s') (hs : s.pend = none) (hp : s'.pend ≠ none) : ∃ s1, lawReadF os hi s ts.dropLast = some s1 ∧ s1.pend = none := by
  rcases List.eq_nil_or_concat ts with e | ⟨a, t, e⟩
  · rw [e] at h
    cases h
    exact absurd hs hp
  · have e : ts = a ++ [t] := by simpa using e
    subst e
    rw [List.dropLast_concat]
    rw [read_app] at h
    cases q : lawReadF os hi s a with
    | none => rw [q] at h; cases h
    | some s1 =>
      rw [q, Option.bind_some] at h
      refine ⟨s1, rfl, ?_⟩
      have h : (lawStep os hi s1 t).bind (fun s2 => some s2) = some s' := h
      cases w : lawStep os hi s1 t with
      | none => rw [w] at h; cases h
      | some s2 =>
        rw [w, Option.bind_some] at h
        cases h
        rcases (step_words w).2 with z | z
        · exact absurd z hp
        · exact z
end
end Fc
namespace Fc
open PySem PySem.Spec PyProof.Rows L2
/-! ### M2: a line fits -/
theorem DGH_plain : ∀ c ∈ (45 : Nat) :: cDG, c ≠ 32 ∧ c ≠ 39 ∧ c ≠ 34 ∧ c ≠ 92 := by decide +kernel
theorem decW_plain (i : Int) : ∀ c ∈ decW i, PlainC c := by
  intro c hc
  refine DGH_plain c ?_
  cases i with
  | ofNat n => exact List.mem_cons_of_mem _ (numL_DG n c (by rw [← decW_nat]; exact hc))
  | negSucc m =>
    rw [decW_neg] at hc
    rcases List.mem_cons.mp hc with e | e
    · rw [e]; exact List.mem_cons_self
    · exact List.mem_cons_of_mem _ (numL_DG _ c e)
section
variable {os : List Op} {lo hi : Int} {g : Asg}
theorem txt_cost (L : LG os lo hi) (A : AOk os g) {o : Op} (ho : o ∈ os) (hh : hasK g o = true) (hk : o.kd ≠ .non) : (dp (txtL g o)).1.length ≤ 4 + wc g o := by
  obtain ⟨h1, hv⟩ := gv_ok L.ok A ho hh
  have hkl := L.kd o ho
  have hkd := (L.ok.ops o ho).kd
  unfold wc
  rw [h1]
  unfold txtL
  generalize gv g o = v at hv
  cases e : o.kd with
  | non => exact absurd e hk
  | int a b =>
    rw [e] at hv hkl
    obtain ⟨i, rfl, h2, h3⟩ := hv
    obtain ⟨k1, k2, k3⟩ := hkl
    have := dp_plain_len (decW_plain i)
    have := decW_len3 (i := i) (by omega) (by omega)
    show (dp (decW i)).1.length ≤ _
    omega
  | word =>
    rw [e] at hv
    obtain ⟨l, rfl, h2⟩ := hv
    have := dp_cost l
    show (dp l).1.length ≤ 4 + cost l
    omega
  | ch ws =>
    rw [e] at hv hkl hkd
    obtain ⟨l, rfl, h2⟩ := hv
    have hw := hkd.2.2.2 l h2
    have hl4 := hkl l h2
    have hne : l ≠ [] := by intro e; subst e; have := hw.1; simp at this
    obtain ⟨h3, _⟩ := shortC_spec h2 hne
    have h5 := prefs_len h3
    obtain ⟨i, _, e2⟩ := prefs_mem h3
    have h6 : (dp (shortC ws l)).1.length = (shortC ws l).length := dp_plain_len fun c hc => by
      rw [e2] at hc
      exact LT_plain (hw.2.2 c (List.mem_of_mem_take hc))
    show (dp (shortC ws l)).1.length ≤ _
    omega
theorem tA_le (L : LG os lo hi) (A : AOk os g) {o : Op} (ho : o ∈ os) : tA g os o + 2 * tF g o ≤ 13 + wc g o := by
  obtain ⟨h1, h2, _, _⟩ := abbr_spec L.ok ho
  have h3 := L.nm o ho
  unfold tA tF t0 t1
  cases hh : hasK g o with
  | false => simp
  | true =>
    cases hf : isFlag o with
    | true =>
      by_cases hlt : o.lt = []
      · simp [hlt]; omega
      · simp [hlt]; omega
    | false =>
      have hk : o.kd ≠ .non := of_decide_eq_false hf
      have h4 := alone_le_long g os o
      rw [long_leng L.ok ho] at h4
      have h5 := txt_cost L A ho hh hk
      simp
      omega
/-- what the law asks lines of -/
structure Fin (os : List Op) (lo hi : Int) (g : Asg) (ws : List (List Nat)) : Prop where
  L : LG os lo hi
  ao : AOk os g
  nd : NdK g
  w1 : lo ≤ (ws.length : Int)
  w2 : (ws.length : Int) ≤ hi
  wt : ∀ w ∈ ws, TokOk w
  co : wsum os g + wcst ws ≤ 114
theorem plen_tail (ws : List (List Nat)) : plen (tailL ws) ≤ 3 + wcst ws + ws.length := by
  unfold tailL
  rw [plen_app]
  have h1 : plen (if ws.all ordB = true then [] else [[45, 45]]) ≤ 3 := by split <;> decide
  have h2 : plen (ws.map quoteW) ≤ wcst ws + ws.length := by
    clear h1
    induction ws with
    | nil => exact Nat.le_refl _
    | cons w r ih =>
      have := quote_tcost w
      have e1 : plen ((w :: r).map quoteW) = (quoteW w).length + 1 + plen (r.map quoteW) := by unfold plen; rw [List.map_cons, List.map_cons, List.sum_cons]
      have e2 : wcst (w :: r) = tcost w + wcst r := by unfold wcst; rw [List.map_cons, List.sum_cons]
      rw [e1, e2, List.length_cons]
      omega
  omega
theorem plen_opts (L : LG os lo hi) (A : AOk os g) : plen (optionsL g os) ≤ 78 + wsum os g := by
  have h := options_leng L.ok g
  have s0 := sv_ge g os
  have h1 := sum_le (fun o => tA g os o + (tF g o + tF g o)) (fun o => 13 + wc g o) os fun o ho => by
    have := tA_le L A ho
    show tA g os o + (tF g o + tF g o) ≤ 13 + wc g o
    omega
  rw [sum_add, sum_add, sum_add, ← flags_sum L.ok g] at h1
  have h2 : ∀ l : List Op, (l.map fun _ => 13).sum = 13 * l.length := by
    intro l
    induction l with
    | nil => rfl
    | cons a r ih => rw [List.map_cons, List.sum_cons, ih, List.length_cons]; omega
  rw [h2] at h1
  have h3 := L.len
  have h4 : (if flagsL g os ≠ [] then (2 : Int) else 0) ≤ 2 * ((flagsL g os).length : Int) := by
    split
    · rename_i hf
      have := List.length_pos_iff.mpr hf
      omega
    · omega
  have h5 : (os.map (wc g)).sum = wsum os g := rfl
  omega
theorem fin_len (F : Fin os lo hi g ws) : (compactL g os ws).length ≤ 200 := by
  have h1 := plen_opts F.L F.ao
  have h2 := plen_tail ws
  have h3 := F.co
  have h4 := F.w2
  have h5 := F.L.hi5
  rw [compact_len]
  omega
theorem txt_tl (L : LG os lo hi) (A : AOk os g) (hc : wsum os g ≤ 114) {o : Op} (ho : o ∈ os) (hh : hasK g o = true) (hk : o.kd ≠ .non) : (txtL g o).length ≤ 120 := by
  obtain ⟨h1, hv⟩ := gv_ok L.ok A ho hh
  have hkl := L.kd o ho
  have hkd := (L.ok.ops o ho).kd
  have hm := sum_mem (wc g) os o ho
  have hm : wc g o ≤ wsum os g := hm
  unfold wc at hm
  rw [h1] at hm
  unfold txtL
  generalize gv g o = v at hv hm
  cases e : o.kd with
  | non => exact absurd e hk
  | int a b =>
    rw [e] at hv hkl
    obtain ⟨i, rfl, h2, h3⟩ := hv
    obtain ⟨k1, k2, k3⟩ := hkl
    have := decW_len3 (i := i) (by omega) (by omega)
    show (decW i).length ≤ 120
    omega
  | word =>
    rw [e] at hv hm
    obtain ⟨l, rfl, h2⟩ := hv
    have hm : cost l ≤ wsum os g := hm
    have hge : ∀ x : List Nat, x.length ≤ cost x := by
      intro x
      induction x with
      | nil => exact Nat.le_refl _
      | cons c r ih =>
        have : 1 ≤ ccost c := by unfold ccost; split <;> omega
        rw [cost_cons, List.length_cons]
        omega
    have := hge l
    show l.length ≤ 120
    omega
  | ch ws =>
    rw [e] at hv hkl hkd
    obtain ⟨l, rfl, h2⟩ := hv
    have hw := hkd.2.2.2 l h2
    have hne : l ≠ [] := by intro e; subst e; have := hw.1; simp at this
    have := prefs_len (shortC_spec h2 hne).1
    have := hw.2.1
    show (shortC ws l).length ≤ 120
    omega
theorem Fin.gw (F : Fin os lo hi g ws) : GwOk os lo hi g := ⟨F.L.ok, F.ao, fun _ ho hh hk => txt_tl F.L F.ao (by have := F.co; omega) ho hh hk⟩
theorem mem_app_AB {a b : List Nat} (ha : ∀ c ∈ a, c ∈ cAB) (hb : ∀ c ∈ b, c ∈ cAB) : ∀ c ∈ a ++ b, c ∈ cAB := fun c hc => by
  rcases List.mem_append.mp hc with e | e
  · exact ha c e
  · exact hb c e
theorem one_AB {d : Nat} (hd : d ∈ cAB) : ∀ c ∈ [d], c ∈ cAB := fun c hc => by rw [List.mem_singleton.mp hc]; exact hd
theorem k45_AB : (45 : Nat) ∈ cAB := by decide +kernel
theorem k32_AB : (32 : Nat) ∈ cAB := by decide +kernel
theorem k61_AB : (61 : Nat) ∈ cAB := by decide +kernel
theorem att_AB (W : GwOk os lo hi g) {o : Op} (ho : o ∈ os) (hh : hasK g o = true) (hk : o.kd ≠ .non) {fl : List Nat} (hf : ∀ c ∈ fl, c ∈ cLT) : ∀ c ∈ attL g fl o, c ∈ cAB := by
  have hp : ∀ c ∈ [45] ++ fl ++ o.lt, c ∈ cAB := mem_app_AB (mem_app_AB (one_AB k45_AB) fun c hc => LT_AB c (hf c hc)) fun c hc => LT_AB c (letOk_mem (W.ok.ops o ho).lt c hc)
  have ht := (W.val ho hh hk).2.2
  unfold attL
  split
  · exact mem_app_AB (mem_app_AB hp (one_AB k32_AB)) (quote_AB fun c hc => by cases hc)
  · exact quote_AB (mem_app_AB hp ht)
theorem alone_AB (W : GwOk os lo hi g) {o : Op} (ho : o ∈ os) (hh : hasK g o = true) (hk : o.kd ≠ .non) : ∀ c ∈ aloneL g os o, c ∈ cAB := by
  rcases alone_cases g os o with ⟨h1, _⟩ | ⟨_, h1, _⟩
  · rw [h1]
    unfold longT
    have h3 := (abbr_spec W.ok ho).2.2.1
    exact quote_AB (mem_app_AB (mem_app_AB (mem_app_AB (fun c hc => by
      have : c = 45 := by simpa using hc
      rw [this]; exact k45_AB) fun c hc => LTH_AB c (h3 c hc)) (one_AB k61_AB)) (W.val ho hh hk).2.2)
  · rw [h1]
    exact att_AB W ho hh hk fun c hc => by cases hc
theorem opts_AB (W : GwOk os lo hi g) : ∀ p ∈ optionsL g os, ∀ c ∈ p, c ∈ cAB := by
  have hfl := flags_LT W.ok g
  intro p hp
  rw [← optionsP_fst] at hp
  obtain ⟨q, hq, rfl⟩ := List.mem_map.mp hp
  unfold optionsP at hq
  rcases List.mem_append.mp hq with h | h
  · rcases List.mem_append.mp h with h | h
    · obtain ⟨o, ho, rfl⟩ := List.mem_map.mp h
      have h3 := (abbr_spec W.ok (List.mem_filter.mp ho).1).2.2.1
      exact mem_app_AB (fun c hc => by
        have : c = 45 := by simpa using hc
        rw [this]; exact k45_AB) fun c hc => LTH_AB c (h3 c hc)
    · unfold midP at h
      split at h
      · rename_i hj
        rcases jn_cases g os with e | ⟨o, ho, e, _, hlt⟩
        · exact absurd e hj
        · obtain ⟨m1, m2, m3⟩ := vals_mem ho
          rw [e, opOf_eq W.ok m1] at h
          rw [List.mem_singleton.mp h]
          exact att_AB W m1 m2 m3 hfl
      · split at h
        · rw [List.mem_singleton.mp h]
          exact mem_app_AB (one_AB k45_AB) fun c hc => LT_AB c (hfl c hc)
        · cases h
  · obtain ⟨o, ho, rfl⟩ := List.mem_map.mp h
    obtain ⟨m1, m2, m3⟩ := rest_mem ho
    exact alone_AB W m1 m2 m3
theorem Fin.line_ok (F : Fin os lo hi g ws) : TokOk (compactL g os ws) := by
  refine ⟨fin_len F, ?_⟩
  unfold compactL
  refine joinL_AB _ fun p hp => ?_
  rcases List.mem_append.mp hp with h | h
  · rcases List.mem_append.mp h with h | h
    · exact opts_AB F.gw p h
    · split at h
      · cases h
      · rw [List.mem_singleton.mp h]
        intro c hc
        have : c = 45 := by simpa using hc
        rw [this]; exact k45_AB
  · obtain ⟨w, hw, rfl⟩ := List.mem_map.mp h
    exact quote_AB (F.wt w hw).2
/-- a line, read -/
theorem Fin.reads (F : Fin os lo hi g ws) : ∃ (ts : List (List Nat)) (s : Rs), LL (compactL g os ws) ts ∧ ts.length ≤ 1000 ∧ (∀ t ∈ ts, TokOk t) ∧ RSteps os hi ⟨[], [], none, false⟩ ts s ∧ (∀ i s1, RSteps os hi ⟨[], [], none, false⟩ (ts.take i) s1 → s1.asg.length ≤ 99) ∧ SameD s.asg g ∧ s.words = ws ∧ s.pend = none := by
  have h1 := line_reads F.gw ws
  obtain ⟨on, h2⟩ := line_steps F.gw (ws := ws) (fun w hw => (F.wt w hw).1) F.w2
  have h3 := F.line_ok
  exact ⟨_, _, h1, by have := h1.len; have := h3.1; omega, h1.tok_ok h3, h2, fun i s1 h => steps_len F.L.ok h, same_all F.L.ok F.ao F.nd, rfl, rfl⟩
/-! ### the dict in another order -/
theorem look_of {g : Asg} (nd : NdK g) {p : List Nat × Wv} (h : p ∈ g) : lookD g p.1 = some p.2 := by
  induction g with
  | nil => cases h
  | cons q r ih =>
    obtain ⟨x, u⟩ := q
    have nd : (((x, u) :: r).map (·.1)).Nodup := nd
    rw [List.map_cons] at nd
    obtain ⟨n1, n2⟩ := List.nodup_cons.mp nd
    unfold lookD
    rcases List.mem_cons.mp h with e | e
    · subst e; rw [if_pos rfl]
    · rw [if_neg]
      · exact ih n2 e
      · intro z
        exact n1 (by rw [show ((x, u) : List Nat × Wv).1 = p.1 from z]; exact List.mem_map_of_mem e)
structure Turned (g g' : Asg) : Prop where
  pm : (g'.map (·.1)).Perm (g.map (·.1))
  lk : ∀ n, n ∈ g.map (·.1) → lookD g' n = lookD g n
theorem Turned.look {g' : Asg} (T : Turned g g') : lookD g' = lookD g := by
  funext n
  by_cases h : n ∈ g.map (·.1)
  · exact T.lk n h
  · rw [lookD_none.mpr h, lookD_none.mpr fun z => h (T.pm.mem_iff.mp z)]
theorem Turned.nd {g' : Asg} (T : Turned g g') (h : NdK g) : NdK g' := T.pm.nodup_iff.mpr h
theorem Turned.mem {g' : Asg} (T : Turned g g') (h : NdK g) {p : List Nat × Wv} (hp : p ∈ g') : p ∈ g := by
  have h1 := look_of (T.nd h) hp
  rw [T.look] at h1
  exact lookD_mem h1
theorem Turned.ao {g' : Asg} (T : Turned g g') (h : NdK g) (A : AOk os g) : AOk os g' := ⟨fun p hp => A.ok p (T.mem h hp), by
  have := T.pm.length_eq
  rw [List.length_map, List.length_map] at this
  have := A.len
  omega⟩
theorem Turned.same {g' : Asg} (T : Turned g g') (h : NdK g) (A : AOk os g) : SameD g' g := by
  refine ⟨by have := T.pm.length_eq; rw [List.length_map, List.length_map] at this; exact this, fun p hp => ?_⟩
  have h1 := T.mem h hp
  obtain ⟨o, _, _, hv⟩ := A.ok p h1
  exact ⟨look_of h h1, vok_flat hv⟩
theorem Turned.line {g' : Asg} (T : Turned g g') (os : List Op) (ws : List (List Nat)) : compactL g' os ws = compactL g os ws := by rw [compactL_cg T.look]
/-! ### a dict of fewer -/
def lessA (g : Asg) (n : List Nat) : Asg := g.filter fun p => decide (p.1 ≠ n)
theorem look_less (g : Asg) (n m : List Nat) : lookD (lessA g n) m = if m = n then none else lookD g m := by
  induction g with
  | nil => unfold lessA; simp [lookD]
  | cons p r ih =>
    obtain ⟨x, u⟩ := p
    unfold lessA at ih ⊢
    rw [List.filter_cons]
    by_cases h : x = n
    · subst h
      rw [if_neg (by simp), ih]
      by_cases h2 : m = x
      · rw [if_pos h2, if_pos h2]
      · rw [if_neg h2, if_neg h2]
        show _ = if x = m then _ else _
        rw [if_neg fun z => h2 z.symm]
    · rw [if_pos (by simp [h])]
      show (if x = m then some u else lookD (r.filter fun p => decide (p.1 ≠ n)) m) = if m = n then none else (if x = m then some u else lookD r m)
      rw [ih]
      by_cases h2 : x = m
      · rw [if_pos h2, if_pos h2, if_neg (by rw [← h2]; exact h)]
      · rw [if_neg h2, if_neg h2]
theorem less_ao {n : List Nat} (A : AOk os g) : AOk os (lessA g n) := ⟨fun p hp => A.ok p (List.mem_filter.mp hp).1, Nat.le_trans (List.length_filter_le _ _) A.len⟩
theorem less_nd {n : List Nat} (h : NdK g) : NdK (lessA g n) := (List.filter_sublist.map (fun p : List Nat × Wv => p.1)).nodup h
theorem Fin.less (F : Fin os lo hi g ws) {n : List Nat} (hn : n ∈ g.map (·.1)) : (compactL (lessA g n) os ws).length < (compactL g os ws).length := by
  obtain ⟨p, hp, rfl⟩ := List.mem_map.mp hn
  obtain ⟨o, ho, e, _⟩ := F.ao.ok p hp
  refine less_line F.L.ok ho ?_ ?_ ?_ ws
  · unfold hasK
    rw [← e]
    exact has_key.mp hn
  · rw [look_less, if_pos e.symm]
  · intro m hm
    rw [look_less, if_neg (by rw [e]; exact hm)]
/-! ### what the law's own reading ends with -/
theorem rs0_ok (os : List Op) : LsOk os ⟨[], [], none, false⟩ := ⟨fun p hp => (by cases hp), List.nodup_nil, fun n e => (by cases e)⟩
theorem tk_tok {t : List Nat} (h : TkOk t) : TokOk t := ⟨by have := h.1; omega, h.2⟩
def fillL (lo : Int) (ws : List (List Nat)) : List (List Nat) := ws ++ List.replicate (lo - (ws.length : Int)).toNat [120]
theorem wcst_cons (w : List Nat) (r : List (List Nat)) : wcst (w :: r) = tcost w + wcst r := by unfold wcst; rw [List.map_cons, List.sum_cons]
theorem wcst_sub {a b : List (List Nat)} (h : a.Sublist b) : wcst a ≤ wcst b := by
  induction h with
  | slnil => exact Nat.le_refl _
  | cons x _ ih => rw [wcst_cons]; omega
  | cons_cons x _ ih => rw [wcst_cons, wcst_cons]; omega
theorem fin_of (L : LG os lo hi) {ts acc : List (List Nat)} (T : TsOk 7 ts) (hsub : acc.Sublist ts) {s : Rs} (h : lawReadF os hi ⟨[], [], none, false⟩ acc = some s) : Fin os lo hi s.asg (fillL lo s.words) ∧ (s.words.length : Int) ≤ hi ∧ LsOk os s := by
  obtain ⟨_, t2, t3⟩ := T
  have h0 := L.ok.lo0
  have h1 := L.ok.lohi
  have h2 := L.lo2
  have htok : ∀ t ∈ acc, TokOk t := fun t ht => tk_tok (t2 t (hsub.mem ht))
  obtain ⟨r1, r2, r3, r4⟩ := read_ok L.ok acc _ s htok (rs0_ok os) (by show ((0 : Nat) : Int) ≤ hi; omega) h
  have hz1 : wsum os [] = 0 := by
    unfold wsum
    have : ∀ l : List Op, (l.map (wc [])).sum = 0 := by
      intro l
      induction l with
      | nil => rfl
      | cons a r ih => rw [List.map_cons, List.sum_cons, ih]; rfl
    exact this os
  have hz1 : wsum os (⟨[], [], none, false⟩ : Rs).asg = 0 := hz1
  have hz2 : wcst (⟨[], [], none, false⟩ : Rs).words = 0 := rfl
  have hc : wcst acc ≤ wcst ts := wcst_sub hsub
  have ht3 : wcst ts ≤ 112 := t3
  have hrep : ∀ n, wcst (List.replicate n [120]) = n := by
    intro n
    induction n with
    | zero => rfl
    | succ n ih =>
      rw [List.replicate_succ]
      have e : wcst ([120] :: List.replicate n [120]) = tcost [120] + wcst (List.replicate n [120]) := by unfold wcst; rw [List.map_cons, List.sum_cons]
      have e2 : tcost [120] = 1 := rfl
      rw [e, ih, e2]
      omega
  have hlen : (fillL lo s.words).length = s.words.length + (lo - (s.words.length : Int)).toNat := by unfold fillL; rw [List.length_append, List.length_replicate]
  have hcost : wcst (fillL lo s.words) = wcst s.words + (lo - (s.words.length : Int)).toNat := by
    unfold fillL
    have : wcst (s.words ++ List.replicate (lo - (s.words.length : Int)).toNat [120]) = wcst s.words + wcst (List.replicate (lo - (s.words.length : Int)).toNat [120]) := by unfold wcst; rw [List.map_append, List.sum_append]
    rw [this, hrep]
  refine ⟨⟨L, ⟨r1.ps, ?_⟩, r1.nd, by omega, by omega, ?_, by omega⟩, r2, r1⟩
  · have := r1.len
    have := L.len
    omega
  · intro w hw
    unfold fillL at hw
    rcases List.mem_append.mp hw with e | e
    · rcases r3 w e with z | z
      · cases z
      · exact htok w z
    · rw [List.eq_of_mem_replicate e]
      have k120 : (120 : Nat) ∈ cAB := by decide +kernel
      exact ⟨by simp, one_AB k120⟩
end
end Fc
namespace Fc
open PySem PySem.Spec PyProof.Rows L2
local macro_rules | `(tactic| walk_at "s") => `(tactic| repeat (first
  | refine st_opt rfl ?_
  | refine st_opt (e_len (by first | assumption | omega)) ?_
  | refine st_opt (e_addS (by first | decide | omega)) ?_))
def s_is_integer (_ : PySem.W.Frag) : WSp := fun ws P Po => match ws with
  | [.int v, .int lo, .int hi] => Po (.bl (decide (lo ≤ v) && decide (v ≤ hi))) P
  | _ => False
theorem sc_is_integer : FnScope ["value", "low", "high"] ["value", "low", "high"] (defScope x_is_integer) := ⟨rfl, rfl, rfl, by decide +kernel, rfl, by decide +kernel, by decide +kernel⟩
theorem cl_is_integer {P : Program} {w : World} {K : PySem.W.Frag} {mg : Str → Option Value} {base : Heap} (T : Txt K mg)  : Cl P w K mg base 1 "is_integer" (s_is_integer K) := by
  obtain ⟨fd, F⟩ := T.d_is_integer
  refine cl_of F T.g_is_integer sc_is_integer (fun ws Ps Po h => ?len) (fun _ _ _ _ _ _ us hl => match us, hl with | [_, _, _], _ => rfl) (fun cdv A outer sh H E hr => ⟨_, _,
      (pss_one (ps_ret (pe_and (pe_callB call_isi (by rfl) T.f_isinstance (by decide +kernel) (pa_cons (pv 0) (pa_cons (pe_bltn (v := .ty "int") (by rfl) T.f_int (by decide +kernel) rfl) pa_nil))) (pe_and (pe_not (pe_callB call_isi (by rfl) T.f_isinstance (by decide +kernel) (pa_cons (pv 0) (pa_cons (pe_bltn (v := .ty "bool") (by rfl) T.f_bool (by decide +kernel) rfl) pa_nil)))) (pe_one (pe_chain op_le op_le (pv 1) (pv 0) (pv 2))))))),
      (ds_ret (de_andV (de_cb rd_isi (da_cons (de_var 0) (da_cons (de_ty .int) da_nil))) (de_andV (de_notV (de_cb rd_isi (da_cons (de_var 0) (da_cons (de_ty .bl) da_nil)))) (de_chain rd_le rd_le (de_var 1) (de_var 0) (de_var 2))))), fun ws Ps Po h => ?body⟩)
  case len =>
    unfold s_is_integer at h
    split at h
    · rfl
    · exact h.elim
  case body =>
    unfold s_is_integer at h
    split at h
    rotate_left
    · exact h.elim
    rename_i v lo hi
    walk_at "s"
    refine iteB (fun q => ?_) (fun q => ?_)
    · walk_at "s"
      refine fin_here ?_
      rw [q] at h
      exact h
    · refine fin_here ?_
      rw [q] at h
      exact h
def s_is_name (_ : PySem.W.Frag) : WSp := fun ws P Po => match ws with
  | [.str x] => NameOk x ∧ Po (.bl true) P
  | _ => False
theorem sc_is_name : FnScope ["value", "character"] ["value"] (defScope x_is_name) := ⟨rfl, rfl, rfl, by decide +kernel, rfl, by decide +kernel, by decide +kernel⟩
theorem cl_is_name {P : Program} {w : World} {K : PySem.W.Frag} {mg : Str → Option Value} {base : Heap} (T : Txt K mg)  : Cl P w K mg base 1 "is_name" (s_is_name K) := by
  obtain ⟨fd, F⟩ := T.d_is_name
  refine cl_of F T.g_is_name sc_is_name (fun ws Ps Po h => ?len) (fun _ _ _ _ _ _ us hl => match us, hl with | [_], _ => rfl) (fun cdv A outer sh H E hr => ⟨_, _,
      (pss_cons (ps_if (PW.pt (pw_or (pt_not (pt_val (pe_callB call_isi (by rfl) T.f_isinstance (by decide +kernel) (pa_cons (pv 0) (pa_cons (pe_bltn (v := .ty "str") (by rfl) T.f_str (by decide +kernel) rfl) pa_nil))))) (pw_or1 (pt_not (pt_chain op_le op_le pe_int (pe_callB call_lenQ (by rfl) T.f_len boot_len (pa_cons (pv 0) pa_nil)) (pe_gi (by rfl) T.i_MAX_NAME_LENGTH))))))
      (pss_one (ps_ret pe_bl))
      pss_nil)
      (pss_cons (ps_if (PW.pt (pw_or (pt_cmpR op_eq (pe_ix ix_seq (pv 0) pe_int (fun _ _ => rfl)) (pe_gs (by rfl) T.s_HYPHEN_grammar) (nomark _)) (pw_or1 (pt_cmpR op_eq (pe_ix ix_seq (pv 0) (pe_un un_neg pe_int) (fun _ _ => rfl)) (pe_gs (by rfl) T.s_HYPHEN_grammar) (nomark _)))))
      (pss_one (ps_ret pe_bl))
      pss_nil)
      (pss_one (ps_ret (pe_callB (cr_all rfl) (by rfl) T.f_all (by decide +kernel) (pa_cons (pe_lc (own := [("character", 1)]) rfl sc_is_name.nd (pi_str (pv 0)) (blkOk_by (own := [("character", 1)]) (N := ["value", "character"]) (sc := defScope x_is_name) (by decide +kernel)) (fun _ _ _ _ _ => (pg_name (i := 1) sc_is_name.nd rfl (by first | exact Or.inl rfl | exact Or.inr rfl))) (fun _ _ _ _ _ => pts_nil) (fun _ _ _ _ _ => (pe_cmpR op_inS (pv 1) (pe_op op_addStr (pe_gs (by rfl) T.s_LETTERS) (pe_gs (by rfl) T.s_HYPHEN_grammar)) rfl))) pa_nil)))))),
      (ds_seq (ds_if (dt_or (dt_not (dt_B (de_cb rd_isi (da_cons (de_var 0) (da_cons (de_ty .str) da_nil))))) (dt_not (dt_test (de_chain rd_le rd_le (de_int 1) (de_cb rd_len (da_cons (de_var 0) da_nil)) (de_int 12)))))
      (ds_ret (de_bl false))
      ds_next)
      (ds_seq (ds_if (dt_or (dt_test (de_op rd_eq (de_op rd_ix (de_var 0) (de_int 0)) (de_str k1))) (dt_test (de_op rd_eq (de_op rd_ix (de_var 0) (de_un rd_neg (de_int 1))) (de_str k1))))
      (ds_ret (de_bl false))
      ds_next)
      (ds_ret (de_cb rd_all (da_cons (de_lc (di_str (de_var 0)) (dg_name 1) dt_yes (de_op rd_inS (de_var 1) (de_op rd_addStr (de_str k0) (de_str k1))) (by decide)) da_nil))))), fun ws Ps Po h => ?body⟩)
  case len =>
    unfold s_is_name at h
    split at h
    · rfl
    · exact h.elim
  case body =>
    unfold s_is_name at h
    split at h
    rotate_left
    · exact h.elim
    rename_i x
    obtain ⟨⟨h1, h2, ⟨c0, h3, h3'⟩, ⟨c1, h4, h4'⟩, h5⟩, h⟩ := h
    have hl : x.length ≤ 1000 := by omega
    walk_at "s"
    refine iteY (by simp; omega) ?_
    walk_at "s"
    refine iteN (by simp; omega) ?_
    refine st_opt rfl ?_
    refine st_opt (e_ixS hl (c := c0) ((atI_natL x 0).trans h3)) ?_
    walk_at "s"
    refine iteN (by simp [h3']) ?_
    walk_at "s"
    refine st_opt (e_ixS hl (c := c1) ((atI_lastL x (by intro z; subst z; simp at h1)).trans h4)) ?_
    walk_at "s"
    refine iteN (by simp [h4']) ?_
    walk_at "s"
    refine lc_map (fun w => .bl ((fun _ => true) w)) ?_ ?_ (fun i w acc hw I => ?_) ?_
    · trivial
    · rw [show (sgnW x).length = x.length from List.length_map _]; omega
    · obtain ⟨c, _, hc, rfl⟩ := sgnW_get hw
      walk_at "s"
      exact wx_yes hw I rfl (by simpa using h5 c hc)
    · refine st_opt (e_all (g := fun _ => true)) ?_
      refine fin_here ?_
      rw [show (sgnW x).all (fun _ => true) = true from List.all_eq_true.mpr fun _ _ => rfl]
      exact h
end Fc
namespace Fc
open PySem PySem.Spec PyProof.Rows L2
local macro_rules | `(tactic| walk_at "s") => `(tactic| repeat (first
  | refine st_opt rfl ?_
  | refine st_opt (e_len (by first | assumption | omega)) ?_
  | refine st_opt (e_addS (by first | decide | omega)) ?_
  | refine st_len (by decide) ?_
  | refine st_eqr ?_))
def s_is_short_name (_ : PySem.W.Frag) : WSp := fun ws P Po => match ws with
  | [.str x] => LetOk x ∧ Po (.bl true) P
  | _ => False
theorem sc_is_short_name : FnScope ["value", "character"] ["value"] (defScope x_is_short_name) := ⟨rfl, rfl, rfl, by decide +kernel, rfl, by decide +kernel, by decide +kernel⟩
theorem cl_is_short_name {P : Program} {w : World} {K : PySem.W.Frag} {mg : Str → Option Value} {base : Heap} (T : Txt K mg)  : Cl P w K mg base 1 "is_short_name" (s_is_short_name K) := by
  obtain ⟨fd, F⟩ := T.d_is_short_name
  refine cl_of F T.g_is_short_name sc_is_short_name (fun ws Ps Po h => ?len) (fun _ _ _ _ _ _ us hl => match us, hl with | [_], _ => rfl) (fun cdv A outer sh H E hr => ⟨_, _,
      (pss_one (ps_ret (pe_and (pe_callB call_isi (by rfl) T.f_isinstance (by decide +kernel) (pa_cons (pv 0) (pa_cons (pe_bltn (v := .ty "str") (by rfl) T.f_str (by decide +kernel) rfl) pa_nil))) (pe_and (pe_cmpR op_le (pe_callB call_lenQ (by rfl) T.f_len boot_len (pa_cons (pv 0) pa_nil)) pe_int (nomark _)) (pe_one (pe_callB (cr_all rfl) (by rfl) T.f_all (by decide +kernel) (pa_cons (pe_lc (own := [("character", 1)]) rfl sc_is_short_name.nd (pi_str (pv 0)) (blkOk_by (own := [("character", 1)]) (N := ["value", "character"]) (sc := defScope x_is_short_name) (by decide +kernel)) (fun _ _ _ _ _ => (pg_name (i := 1) sc_is_short_name.nd rfl (by first | exact Or.inl rfl | exact Or.inr rfl))) (fun _ _ _ _ _ => pts_nil) (fun _ _ _ _ _ => (pe_cmpR op_inS (pv 1) (pe_gs (by rfl) T.s_LETTERS) rfl))) pa_nil))))))),
      (ds_ret (de_andV (de_cb rd_isi (da_cons (de_var 0) (da_cons (de_ty .str) da_nil))) (de_andV (de_op rd_le (de_cb rd_len (da_cons (de_var 0) da_nil)) (de_int 1)) (de_cb rd_all (da_cons (de_lc (di_str (de_var 0)) (dg_name 1) dt_yes (de_op rd_inS (de_var 1) (de_str k0)) (by decide)) da_nil))))), fun ws Ps Po h => ?body⟩)
  case len =>
    unfold s_is_short_name at h
    split at h
    · rfl
    · exact h.elim
  case body =>
    unfold s_is_short_name at h
    split at h
    rotate_left
    · exact h.elim
    rename_i x
    obtain ⟨h1, h⟩ := h
    have hl := letOk_len h1
    walk_at "s"
    refine iteY (by simp; omega) ?_
    walk_at "s"
    refine lc_map (fun w => .bl ((fun _ => true) w)) ?_ ?_ (fun i w acc hw I => ?_) ?_
    · trivial
    · rw [show (sgnW x).length = x.length from List.length_map _]; omega
    · obtain ⟨c, _, hc, rfl⟩ := sgnW_get hw
      walk_at "s"
      exact wx_yes hw I rfl (by simpa using letOk_mem h1 c hc)
    · refine st_opt e_allT ?_
      exact fin_here h
def s_is_choice_word (_ : PySem.W.Frag) : WSp := fun ws P Po => match ws with
  | [.str x] => WordOk x ∧ Po (.bl true) P
  | _ => False
theorem sc_is_choice_word : FnScope ["value", "character"] ["value"] (defScope x_is_choice_word) := ⟨rfl, rfl, rfl, by decide +kernel, rfl, by decide +kernel, by decide +kernel⟩
theorem cl_is_choice_word {P : Program} {w : World} {K : PySem.W.Frag} {mg : Str → Option Value} {base : Heap} (T : Txt K mg)  : Cl P w K mg base 1 "is_choice_word" (s_is_choice_word K) := by
  obtain ⟨fd, F⟩ := T.d_is_choice_word
  refine cl_of F T.g_is_choice_word sc_is_choice_word (fun ws Ps Po h => ?len) (fun _ _ _ _ _ _ us hl => match us, hl with | [_], _ => rfl) (fun cdv A outer sh H E hr => ⟨_, _,
      (pss_cons (ps_if (PW.pt (pw_or (pt_not (pt_val (pe_callB call_isi (by rfl) T.f_isinstance (by decide +kernel) (pa_cons (pv 0) (pa_cons (pe_bltn (v := .ty "str") (by rfl) T.f_str (by decide +kernel) rfl) pa_nil))))) (pw_or1 (pt_not (pt_chain op_le op_le pe_int (pe_callB call_lenQ (by rfl) T.f_len boot_len (pa_cons (pv 0) pa_nil)) (pe_gi (by rfl) T.i_MAX_WORD_LENGTH))))))
      (pss_one (ps_ret pe_bl))
      pss_nil)
      (pss_one (ps_ret (pe_callB (cr_all rfl) (by rfl) T.f_all (by decide +kernel) (pa_cons (pe_lc (own := [("character", 1)]) rfl sc_is_choice_word.nd (pi_str (pv 0)) (blkOk_by (own := [("character", 1)]) (N := ["value", "character"]) (sc := defScope x_is_choice_word) (by decide +kernel)) (fun _ _ _ _ _ => (pg_name (i := 1) sc_is_choice_word.nd rfl (by first | exact Or.inl rfl | exact Or.inr rfl))) (fun _ _ _ _ _ => pts_nil) (fun _ _ _ _ _ => (pe_cmpR op_inS (pv 1) (pe_gs (by rfl) T.s_LETTERS) rfl))) pa_nil))))),
      (ds_seq (ds_if (dt_or (dt_not (dt_B (de_cb rd_isi (da_cons (de_var 0) (da_cons (de_ty .str) da_nil))))) (dt_not (dt_test (de_chain rd_le rd_le (de_int 1) (de_cb rd_len (da_cons (de_var 0) da_nil)) (de_int 12)))))
      (ds_ret (de_bl false))
      ds_next)
      (ds_ret (de_cb rd_all (da_cons (de_lc (di_str (de_var 0)) (dg_name 1) dt_yes (de_op rd_inS (de_var 1) (de_str k0)) (by decide)) da_nil)))), fun ws Ps Po h => ?body⟩)
  case len =>
    unfold s_is_choice_word at h
    split at h
    · rfl
    · exact h.elim
  case body =>
    unfold s_is_choice_word at h
    split at h
    rotate_left
    · exact h.elim
    rename_i x
    obtain ⟨⟨h1, h2, h3⟩, h⟩ := h
    walk_at "s"
    refine iteY (by simp; omega) ?_
    walk_at "s"
    refine iteN (by simp; omega) ?_
    walk_at "s"
    refine lc_map (fun w => .bl ((fun _ => true) w)) ?_ ?_ (fun i w acc hw I => ?_) ?_
    · trivial
    · rw [show (sgnW x).length = x.length from List.length_map _]; omega
    · obtain ⟨c, _, hc, rfl⟩ := sgnW_get hw
      walk_at "s"
      exact wx_yes hw I rfl (by simpa using h3 c hc)
    · refine st_opt e_allT ?_
      exact fin_here h
def s_is_kind (_ : PySem.W.Frag) : WSp := fun ws P Po => match ws with
  | [w] => ∃ k : Kd, w = k.w ∧ KdOk k ∧ Po (.bl true) P
  | _ => False
theorem sc_is_kind : FnScope ["value", "low", "high", "words", "word"] ["value"] (defScope x_is_kind) := ⟨rfl, rfl, rfl, by decide +kernel, rfl, by decide +kernel, by decide +kernel⟩
theorem cl_is_kind {P : Program} {w : World} {K : PySem.W.Frag} {mg : Str → Option Value} {base : Heap} (T : Txt K mg) (G_is_integer : Cl P w K mg base 1 "is_integer" (s_is_integer K)) (G_is_choice_word : Cl P w K mg base 1 "is_choice_word" (s_is_choice_word K)) : Cl P w K mg base 2 "is_kind" (s_is_kind K) := by
  obtain ⟨fd, F⟩ := T.d_is_kind
  refine cl_of F T.g_is_kind sc_is_kind (fun ws Ps Po h => ?len) (fun _ _ _ _ _ _ us hl => match us, hl with | [_], _ => rfl) (fun cdv A outer sh H E hr => ⟨_, _,
      (pss_cons (ps_if (PW.pt (pw_or (pt_cmpR op_isN1 (pv 0) pe_non (nomark _)) (pw_or1 (pt_cmpR (op_eqD hr.units) (pv 0) (pe_tup (pa_cons pe_str pa_nil)) (nomark _)))))
      (pss_one (ps_ret pe_bl))
      pss_nil)
      (pss_cons (ps_if (PW.pt (pw_or (pt_not (pt_val (pe_callB call_isi (by rfl) T.f_isinstance (by decide +kernel) (pa_cons (pv 0) (pa_cons (pe_bltn (v := .ty "tuple") (by rfl) T.f_tuple (by decide +kernel) rfl) pa_nil))))) (pw_or1 (pt_cmpR op_eq (pe_callB call_lenQ (by rfl) T.f_len boot_len (pa_cons (pv 0) pa_nil)) pe_int (nomark _)))))
      (pss_one (ps_ret pe_bl))
      pss_nil)
      (pss_cons (ps_if (PW.pt (pw_and (pt_cmpR op_eq (pe_ix ix_seq (pv 0) pe_int (fun _ _ => rfl)) pe_str (nomark _)) (pw_and1 (pt_cmpR op_eq (pe_callB call_lenQ (by rfl) T.f_len boot_len (pa_cons (pv 0) pa_nil)) pe_int (nomark _)))))
      (pss_cons (ps_asg (pe_slice sl_tupA (pv 0) (po_some pe_int) po_none) (pg_tup (n := 2) rfl (pgs_cons (pg_name (i := 1) sc_is_kind.nd rfl (by first | exact Or.inl rfl | exact Or.inr rfl)) (pgs_cons (pg_name (i := 2) sc_is_kind.nd rfl (by first | exact Or.inl rfl | exact Or.inr rfl)) pgs_nil))))
      (pss_one (ps_ret (pe_and (pe_cl G_is_integer hr (by decide) (by rfl) (pa_cons (pv 1) (pa_cons (pe_un un_neg (pe_gi (by rfl) T.i_MAX_INTEGER)) (pa_cons (pe_gi (by rfl) T.i_MAX_INTEGER) pa_nil)))) (pe_one (pe_cl G_is_integer hr (by decide) (by rfl) (pa_cons (pv 2) (pa_cons (pv 1) (pa_cons (pe_gi (by rfl) T.i_MAX_INTEGER) pa_nil)))))))))
      pss_nil)
      (pss_cons (ps_if (PW.pt (pw_and (pt_cmpR op_eq (pe_ix ix_seq (pv 0) pe_int (fun _ _ => rfl)) pe_str (nomark _)) (pw_and (pt_cmpR op_eq (pe_callB call_lenQ (by rfl) T.f_len boot_len (pa_cons (pv 0) pa_nil)) pe_int (nomark _)) (pw_and1 (pt_val (pe_callB call_isi (by rfl) T.f_isinstance (by decide +kernel) (pa_cons (pe_ix ix_seq (pv 0) pe_int (fun _ _ => rfl)) (pa_cons (pe_bltn (v := .ty "tuple") (by rfl) T.f_tuple (by decide +kernel) rfl) pa_nil))))))))
      (pss_cons (ps_set (i := 3) sc_is_kind.nd rfl (by first | exact Or.inl rfl | exact Or.inr rfl) (pe_ix ix_seq (pv 0) pe_int (fun _ _ => rfl)))
      (pss_one (ps_ret (pe_and (pe_chain op_le op_le pe_int (pe_callB call_lenQ (by rfl) T.f_len boot_len (pa_cons (pv 3) pa_nil)) (pe_gi (by rfl) T.i_MAX_CHOICES)) (pe_and (pe_callB (cr_all rfl) (by rfl) T.f_all (by decide +kernel) (pa_cons (pe_lc (own := [("word", 4)]) rfl sc_is_kind.nd (pi_tup (pv 3)) (blkOk_by (own := [("word", 4)]) (N := ["value", "low", "high", "words", "word"]) (sc := defScope x_is_kind) (by decide +kernel)) (fun _ _ _ _ _ => (pg_name (i := 4) sc_is_kind.nd rfl (by first | exact Or.inl rfl | exact Or.inr rfl))) (fun _ _ _ _ _ => pts_nil) (fun _ _ _ _ _ => (pe_cl G_is_choice_word hr (by decide) (by rfl) (pa_cons (pv 4) pa_nil)))) pa_nil)) (pe_one (pe_cmpR op_eq (pe_lenSetS (by rfl) T.f_len (by rfl) T.f_set (pv 3)) (pe_callB call_lenQ (by rfl) T.f_len boot_len (pa_cons (pv 3) pa_nil)) (nomark _))))))))
      pss_nil)
      (pss_one (ps_ret pe_bl)))))),
      (ds_seq (ds_if (dt_or (dt_test (de_op rd_isN (de_var 0) de_non)) (dt_test (de_op rd_eqD (de_var 0) (de_tup (da_cons (de_str k12) da_nil)))))
      (ds_ret (de_bl true))
      ds_next)
      (ds_seq (ds_if (dt_or (dt_not (dt_B (de_cb rd_isi (da_cons (de_var 0) (da_cons (de_ty .tup) da_nil))))) (dt_test (de_op rd_eq (de_cb rd_len (da_cons (de_var 0) da_nil)) (de_int 0))))
      (ds_ret (de_bl false))
      ds_next)
      (ds_seq (ds_if (dt_and (dt_test (de_op rd_eq (de_op rd_ix (de_var 0) (de_int 0)) (de_str k10))) (dt_test (de_op rd_eq (de_cb rd_len (da_cons (de_var 0) da_nil)) (de_int 3))))
      (ds_seq (ds_asg (de_sl rd_slT (de_var 0) (do_some (de_int 1)) do_none) (dg_tup (dgs_cons (dg_name 1) (dgs_cons (dg_name 2) dgs_nil))))
      (ds_ret (de_andV (de_call (da_cons (de_var 1) (da_cons (de_un rd_neg (de_int 9999)) (da_cons (de_int 9999) da_nil)))) (de_call (da_cons (de_var 2) (da_cons (de_var 1) (da_cons (de_int 9999) da_nil)))))))
      ds_next)
      (ds_seq (ds_if (dt_and (dt_test (de_op rd_eq (de_op rd_ix (de_var 0) (de_int 0)) (de_str k11))) (dt_and (dt_test (de_op rd_eq (de_cb rd_len (da_cons (de_var 0) da_nil)) (de_int 2))) (dt_B (de_cb rd_isi (da_cons (de_op rd_ix (de_var 0) (de_int 1)) (da_cons (de_ty .tup) da_nil))))))
      (ds_seq (ds_asg (de_op rd_ix (de_var 0) (de_int 1)) (dg_name 3))
      (ds_ret (de_andV (de_chain rd_le rd_le (de_int 1) (de_cb rd_len (da_cons (de_var 3) da_nil)) (de_int 8)) (de_andV (de_cb rd_all (da_cons (de_lc (di_tup (de_var 3)) (dg_name 4) dt_yes (de_call (da_cons (de_var 4) da_nil)) (by decide)) da_nil)) (de_op rd_eq (de_lenSetS (de_var 3)) (de_cb rd_len (da_cons (de_var 3) da_nil)))))))
      ds_next)
      (ds_ret (de_bl false)))))), fun ws Ps Po h => ?body⟩)
  case len =>
    unfold s_is_kind at h
    split at h
    · rfl
    · exact h.elim
  case body =>
    unfold s_is_kind at h
    split at h
    rotate_left
    · exact h.elim
    obtain ⟨k, rfl, hk, h⟩ := h
    cases k with
    | non =>
      walk_at "s"
      exact fin_here h
    | word =>
      walk_at "s"
      refine st_opt (e_kdword hk (by intro e; cases e) (b := true) (by decide)) ?_
      walk_at "s"
      exact fin_here h
    | int lo hi =>
      obtain ⟨h1, h2, h3⟩ := hk
      walk_at "s"
      refine st_opt (e_kdword ⟨h1, h2, h3⟩ (by intro e; cases e) (b := false) (by simp)) ?_
      walk_at "s"
      refine iteY (by simp; omega) ?_
      walk_at "s"
      exact fin_bl (by simp; omega) h
    | ch ws =>
      walk_at "s"
      refine st_opt (e_kdword hk (by intro e; cases e) (b := false) (by simp)) ?_
      obtain ⟨h1, h2, h3, h4⟩ := hk
      walk_at "s"
      refine iteY (by simp; omega) ?_
      walk_at "s"
      refine iteY (by simp; omega) ?_
      walk_at "s"
      refine lc_map (fun w => .bl ((fun _ => true) w)) ?_ ?_ (fun i w acc hw I => ?_) ?_
      · trivial
      · rw [List.length_map]; omega
      · obtain ⟨x, _, hx, rfl⟩ := map_get hw
        walk_at "s"
        exact ⟨h4 x hx, wx_yes hw I rfl rfl⟩
      · refine st_opt e_allT ?_
        walk_at "s"
        refine st_opt (strsOf_map ws) ?_
        refine ⟨h3, by omega, ?_⟩
        walk_at "s"
        exact fin_bl (by simp) h
def s_is_option (_ : PySem.W.Frag) : WSp := fun ws P Po => match ws with
  | [w] => ∃ o : Op, w = o.w ∧ OpOk o ∧ Po (.bl true) P
  | _ => False
theorem sc_is_option : FnScope ["value", "name", "short_name", "kind"] ["value"] (defScope x_is_option) := ⟨rfl, rfl, rfl, by decide +kernel, rfl, by decide +kernel, by decide +kernel⟩
theorem cl_is_option {P : Program} {w : World} {K : PySem.W.Frag} {mg : Str → Option Value} {base : Heap} (T : Txt K mg) (G_is_name : Cl P w K mg base 1 "is_name" (s_is_name K)) (G_is_short_name : Cl P w K mg base 1 "is_short_name" (s_is_short_name K)) (G_is_kind : Cl P w K mg base 2 "is_kind" (s_is_kind K)) : Cl P w K mg base 3 "is_option" (s_is_option K) := by
  obtain ⟨fd, F⟩ := T.d_is_option
  refine cl_of F T.g_is_option sc_is_option (fun ws Ps Po h => ?len) (fun _ _ _ _ _ _ us hl => match us, hl with | [_], _ => rfl) (fun cdv A outer sh H E hr => ⟨_, _,
      (pss_cons (ps_if (PW.pt (pw_or (pt_not (pt_val (pe_callB call_isi (by rfl) T.f_isinstance (by decide +kernel) (pa_cons (pv 0) (pa_cons (pe_bltn (v := .ty "tuple") (by rfl) T.f_tuple (by decide +kernel) rfl) pa_nil))))) (pw_or1 (pt_cmpR op_ne (pe_callB call_lenQ (by rfl) T.f_len boot_len (pa_cons (pv 0) pa_nil)) pe_int (nomark _)))))
      (pss_one (ps_ret pe_bl))
      pss_nil)
      (pss_cons (ps_asg (pv 0) (pg_tup (n := 3) rfl (pgs_cons (pg_name (i := 1) sc_is_option.nd rfl (by first | exact Or.inl rfl | exact Or.inr rfl)) (pgs_cons (pg_name (i := 2) sc_is_option.nd rfl (by first | exact Or.inl rfl | exact Or.inr rfl)) (pgs_cons (pg_name (i := 3) sc_is_option.nd rfl (by first | exact Or.inl rfl | exact Or.inr rfl)) pgs_nil)))))
      (pss_one (ps_ret (pe_and (pe_cl G_is_name hr (by decide) (by rfl) (pa_cons (pv 1) pa_nil)) (pe_and (pe_cl G_is_short_name hr (by decide) (by rfl) (pa_cons (pv 2) pa_nil)) (pe_one (pe_cl G_is_kind hr (by decide) (by rfl) (pa_cons (pv 3) pa_nil))))))))),
      (ds_seq (ds_if (dt_or (dt_not (dt_B (de_cb rd_isi (da_cons (de_var 0) (da_cons (de_ty .tup) da_nil))))) (dt_test (de_op rd_ne (de_cb rd_len (da_cons (de_var 0) da_nil)) (de_int 3))))
      (ds_ret (de_bl false))
      ds_next)
      (ds_seq (ds_asg (de_var 0) (dg_tup (dgs_cons (dg_name 1) (dgs_cons (dg_name 2) (dgs_cons (dg_name 3) dgs_nil)))))
      (ds_ret (de_andV (de_call (da_cons (de_var 1) da_nil)) (de_andV (de_call (da_cons (de_var 2) da_nil)) (de_call (da_cons (de_var 3) da_nil))))))), fun ws Ps Po h => ?body⟩)
  case len =>
    unfold s_is_option at h
    split at h
    · rfl
    · exact h.elim
  case body =>
    unfold s_is_option at h
    split at h
    rotate_left
    · exact h.elim
    obtain ⟨o, rfl, ok, h⟩ := h
    walk_at "s"
    refine ⟨ok.nm, ?_⟩
    walk_at "s"
    refine ⟨ok.lt, ?_⟩
    walk_at "s"
    exact ⟨o.kd, rfl, ok.kd, fin_here h⟩
end Fc
namespace Fc
open PySem PySem.Spec PyProof.Rows L2
local macro_rules | `(tactic| walk_at "s") => `(tactic| repeat (first
  | refine st_opt rfl ?_
  | refine st_opt (e_len (by first | assumption | omega)) ?_
  | refine st_opt (e_addS (by first | decide | omega)) ?_
  | refine st_len (by decide) ?_
  | refine st_eqr ?_))
def s_check_options (_ : PySem.W.Frag) : WSp := fun ws P Po => match ws with
  | [w] => ∃ os lo hi, w = optsW os ∧ GOk os lo hi ∧ Po .non P
  | _ => False
def CoI (os : List Op) (Ps : Pst) (i : Nat) (G : Env) (P : Pst) : Prop := ∃ a b n s x y, a ≠ b ∧ G = [some (optsW os), some (.r a), some (.r b), x, y] ∧ SubP Ps P ∧ Ps a = none ∧ Ps b = none ∧ P a = some (.dic n) ∧ P b = some (.dic s) ∧
  n.map (·.1) = (os.take i).map (·.nm) ∧ s.map (·.1) = ((os.take i).map (·.lt)).filter fun l => decide (l ≠ [])
theorem sc_check_options : FnScope ["options", "names", "short_names", "index", "option"] ["options"] (defScope x_check_options) := ⟨rfl, rfl, rfl, by decide +kernel, rfl, by decide +kernel, by decide +kernel⟩
theorem cl_check_options {P : Program} {w : World} {K : PySem.W.Frag} {mg : Str → Option Value} {base : Heap} (T : Txt K mg) (G_is_option : Cl P w K mg base 3 "is_option" (s_is_option K)) : Cl P w K mg base 4 "check_options" (s_check_options K) := by
  obtain ⟨fd, F⟩ := T.d_check_options
  refine cl_of F T.g_check_options sc_check_options (fun ws Ps Po h => ?len) (fun _ _ _ _ _ _ us hl => match us, hl with | [_], _ => rfl) (fun cdv A outer sh H E hr => ⟨_, _,
      (pss_cons (ps_if (PW.pt (pw_or (pt_not (pt_val (pe_callB call_isi (by rfl) T.f_isinstance (by decide +kernel) (pa_cons (pv 0) (pa_cons (pe_bltn (v := .ty "tuple") (by rfl) T.f_tuple (by decide +kernel) rfl) pa_nil))))) (pw_or1 (pt_cmpR op_eq (pe_callB call_lenQ (by rfl) T.f_len boot_len (pa_cons (pv 0) pa_nil)) pe_int (nomark _)))))
      (pss_one ps_never)
      pss_nil)
      (pss_cons (ps_par (i := 1) (j := 2) rfl sc_check_options.nd rfl rfl (by decide) rfl rfl (pa_cons pe_dnewK (pa_cons pe_dnewK pa_nil)) (by rfl))
      (pss_one (ps_for PassesOwn.never rfl (pi_enumT (by rfl) T.f_enumerate (pa_cons (pv 0) pa_nil)) (pg_tup (n := 2) rfl (pgs_cons (pg_name (i := 3) sc_check_options.nd rfl (by first | exact Or.inl rfl | exact Or.inr rfl)) (pgs_cons (pg_name (i := 4) sc_check_options.nd rfl (by first | exact Or.inl rfl | exact Or.inr rfl)) pgs_nil)))
      (pss_cons (ps_if (PW.pt (pw_or (pt_cmpR op_eq (pv 3) (pe_gi (by rfl) T.i_MAX_OPTIONS) (nomark _)) (pw_or (pt_not (pt_val (pe_cl G_is_option hr (by decide) (by rfl) (pa_cons (pv 4) pa_nil)))) (pw_or (pt_cmp (pc_din (hu_of hr) (pe_ix ix_seq (pv 4) pe_int (fun _ _ => rfl)) (pv 1))) (pw_or1 (pt_cmp (pc_din (hu_of hr) (pe_ix ix_seq (pv 4) pe_int (fun _ _ => rfl)) (pv 2))))))))
      (pss_one ps_never)
      pss_nil)
      (pss_cons (ps_dput (hu_of hr) (pv 1) (pe_ix ix_seq (pv 4) pe_int (fun _ _ => rfl)) pe_bl rfl)
      (pss_one (ps_if (pt_cmpR op_ne (pe_ix ix_seq (pv 4) pe_int (fun _ _ => rfl)) pe_str (nomark _))
      (pss_one (ps_dput (hu_of hr) (pv 2) (pe_ix ix_seq (pv 4) pe_int (fun _ _ => rfl)) pe_bl rfl))
      pss_nil)))))))),
      (ds_seq (ds_if (dt_or (dt_not (dt_B (de_cb rd_isi (da_cons (de_var 0) (da_cons (de_ty .tup) da_nil))))) (dt_test (de_op rd_eq (de_cb rd_len (da_cons (de_var 0) da_nil)) (de_int 0))))
      ds_never
      ds_next)
      (ds_seq (ds_par (i := 1) (j := 2) (da_cons de_dnew (da_cons de_dnew da_nil)))
      (ds_for (di_enumT (da_cons (de_var 0) da_nil)) (dg_tup (dgs_cons (dg_name 3) (dgs_cons (dg_name 4) dgs_nil)))
      (ds_seq (ds_if (dt_or (dt_test (de_op rd_eq (de_var 3) (de_int 12))) (dt_or (dt_not (dt_B (de_call (da_cons (de_var 4) da_nil)))) (dt_or (dt_B (de_din (de_op rd_ix (de_var 4) (de_int 0)) (de_var 1))) (dt_B (de_din (de_op rd_ix (de_var 4) (de_int 1)) (de_var 2))))))
      ds_never
      ds_next)
      (ds_seq (ds_dput (de_var 1) (de_op rd_ix (de_var 4) (de_int 0)) (de_bl true))
      (ds_if (dt_test (de_op rd_ne (de_op rd_ix (de_var 4) (de_int 1)) (de_str k14)))
      (ds_dput (de_var 2) (de_op rd_ix (de_var 4) (de_int 1)) (de_bl true))
      ds_next)))))), fun ws Ps Po h => ?body⟩)
  case len =>
    unfold s_check_options at h
    split at h
    · rfl
    · exact h.elim
  case body =>
    unfold s_check_options at h
    split at h
    rotate_left
    · exact h.elim
    obtain ⟨os, lo, hi, rfl, ok, h⟩ := h
    walk_at "s"
    have hl1 := ok.len1
    have hl2 := ok.len2
    refine iteN (decide_eq_false (by rw [List.length_map]; omega)) ?_
    walk_at "s"
    intro a ha
    walk_at "s"
    intro b hb
    walk_at "s"
    have hab : b ≠ a := fun e => by subst e; rw [updP_same] at hb; cases hb
    refine for_I (CoI os Ps) ?_ (fun _ _ _ _ => trivial) ?_ ?_
    · refine ⟨a, b, [], [], none, none, hab.symm, rfl, ?_, ha, ?_, updP_at hab.symm updP_same, updP_same, rfl, rfl⟩
      · refine SubP.new ?_ (SubP.new ha (SubP.refl _))
        rw [updP_ne hab] at hb
        exact hb
      · rw [updP_ne hab] at hb
        exact hb
    · rintro i w G2 P2 hw ⟨a, b, n, s, x, y, hab, rfl, sub, ha, hb, hna, hsb, en, es⟩
      obtain ⟨ow, how, rfl⟩ := enumW_inv hw
      obtain ⟨o, ho, hmem, rfl⟩ := map_get how
      have hi : i < os.length := (List.getElem?_eq_some_iff.mp ho).1
      have hno := ok.ops o hmem
      have h1 : o.nm ∉ n.map (·.1) := by rw [en]; exact nodup_take ok.nms ho
      have hnl : n.length = i := by
        have := congrArg List.length en
        rw [List.length_map, List.length_map, List.length_take] at this
        omega
      have hsl : s.length ≤ i := by
        have := congrArg List.length es
        rw [List.length_map] at this
        have h2 := List.length_filter_le (fun l => decide (l ≠ [])) ((os.take i).map (·.lt))
        rw [List.length_map, List.length_take] at h2
        omega
      have h2 : o.lt ∉ s.map (·.1) := by
        rw [es]
        by_cases e : o.lt = []
        · rw [e]
          intro z
          have := (List.mem_filter.mp z).2
          simp at this
        · exact nodup_takeF ok.lts ho e
      walk_at "s"
      refine iteN (decide_eq_false (by omega)) ?_
      walk_at "s"
      refine ⟨o, rfl, hno, ?_⟩
      walk_at "s"
      refine st_opt (dicP_at hna) ?_
      refine iteN (look_no h1) ?_
      walk_at "s"
      refine st_opt (dicP_at hsb) ?_
      refine iteN (look_no h2) ?_
      walk_at "s"
      refine st_opt (dicM_at hna) ?_
      refine ⟨by show n.length < 1000; omega, ?_⟩
      walk_at "s"
      by_cases e : o.lt = []
      · refine iteN (by simp [e]) ?_
        refine ⟨a, b, putD n o.nm (.bl true), s, _, _, hab, rfl, SubP.new ha sub, ha, hb, updP_same, updP_at hab.symm hsb, ?_, ?_⟩
        · rw [keys_put h1, en, take_map_succ ho]
        · rw [es, take_map_succ ho, List.filter_append]
          simp [e]
      · refine iteY (by simp [e]) ?_
        walk_at "s"
        refine st_opt (dicM_at (updP_at hab.symm hsb)) ?_
        refine ⟨by show s.length < 1000; omega, ?_⟩
        refine ⟨a, b, putD n o.nm (.bl true), putD s o.lt (.bl true), _, _, hab, rfl, SubP.new hb (SubP.new ha sub), ha, hb, updP_at hab updP_same, updP_same, ?_, ?_⟩
        · rw [keys_put h1, en, take_map_succ ho]
        · rw [keys_put h2, es, take_map_succ ho, List.filter_append]
          simp [e]
    · rintro G2 P2 ⟨a, b, n, s, x, y, hab, rfl, sub, _⟩
      exact fin_sub sub h
def s_names_of (_ : PySem.W.Frag) : WSp := fun ws P Po => match ws with
  | [w] => ∃ os lo hi, w = gramW os lo hi ∧ os.length ≤ 12 ∧ Po (.lst ((os.map (·.nm)).map .str)) P
  | _ => False
theorem sc_names_of : FnScope ["grammar", "option"] ["grammar"] (defScope x_names_of) := ⟨rfl, rfl, rfl, by decide +kernel, rfl, by decide +kernel, by decide +kernel⟩
theorem cl_names_of {P : Program} {w : World} {K : PySem.W.Frag} {mg : Str → Option Value} {base : Heap} (T : Txt K mg)  : Cl P w K mg base 1 "names_of" (s_names_of K) := by
  obtain ⟨fd, F⟩ := T.d_names_of
  refine cl_of F T.g_names_of sc_names_of (fun ws Ps Po h => ?len) (fun _ _ _ _ _ _ us hl => match us, hl with | [_], _ => rfl) (fun cdv A outer sh H E hr => ⟨_, _,
      (pss_one (ps_ret (pe_lc (own := [("option", 1)]) rfl sc_names_of.nd (pi_tup (pe_ix ix_seq (pv 0) pe_int (fun _ _ => rfl))) (blkOk_by (own := [("option", 1)]) (N := ["grammar", "option"]) (sc := defScope x_names_of) (by decide +kernel)) (fun _ _ _ _ _ => (pg_name (i := 1) sc_names_of.nd rfl (by first | exact Or.inl rfl | exact Or.inr rfl))) (fun _ _ _ _ _ => pts_nil) (fun _ _ _ _ _ => (pe_ix ix_seq (pv 1) pe_int (fun _ _ => rfl)))))),
      (ds_ret (de_lc (di_tup (de_op rd_ix (de_var 0) (de_int 0))) (dg_name 1) dt_yes (de_op rd_ix (de_var 1) (de_int 0)) (by decide))), fun ws Ps Po h => ?body⟩)
  case len =>
    unfold s_names_of at h
    split at h
    · rfl
    · exact h.elim
  case body =>
    unfold s_names_of at h
    split at h
    rotate_left
    · exact h.elim
    obtain ⟨os, lo, hi, rfl, hl, h⟩ := h
    walk_at "s"
    refine lc_map (fun w => match w with | .tup (x :: _) => x | _ => w) ?_ ?_ (fun i w acc hw I => ?_) ?_
    · trivial
    · rw [List.length_map]; omega
    · obtain ⟨o, _, _, rfl⟩ := map_get hw
      walk_at "s"
      exact wx_yes hw I rfl rfl
    · refine fin_here ?_
      rw [List.map_map] at h ⊢
      exact h
def s_check_grammar (_ : PySem.W.Frag) : WSp := fun ws P Po => match ws with
  | [w] => ∃ os lo hi, w = gramW os lo hi ∧ GOk os lo hi ∧ Po .non P
  | _ => False
theorem sc_check_grammar : FnScope ["grammar", "options", "positionals", "clauses", "is_pair", "names", "index", "clause", "option"] ["grammar"] (defScope x_check_grammar) := ⟨rfl, rfl, rfl, by decide +kernel, rfl, by decide +kernel, by decide +kernel⟩
theorem cl_check_grammar {P : Program} {w : World} {K : PySem.W.Frag} {mg : Str → Option Value} {base : Heap} (T : Txt K mg) (G_check_options : Cl P w K mg base 4 "check_options" (s_check_options K)) (G_is_integer : Cl P w K mg base 1 "is_integer" (s_is_integer K)) : Cl P w K mg base 5 "check_grammar" (s_check_grammar K) := by
  obtain ⟨fd, F⟩ := T.d_check_grammar
  refine cl_of F T.g_check_grammar sc_check_grammar (fun ws Ps Po h => ?len) (fun _ _ _ _ _ _ us hl => match us, hl with | [_], _ => rfl) (fun cdv A outer sh H E hr => ⟨_, _,
      (pss_cons (ps_if (PW.pt (pw_or (pt_not (pt_val (pe_callB call_isi (by rfl) T.f_isinstance (by decide +kernel) (pa_cons (pv 0) (pa_cons (pe_bltn (v := .ty "tuple") (by rfl) T.f_tuple (by decide +kernel) rfl) pa_nil))))) (pw_or1 (pt_cmpR op_ne (pe_callB call_lenQ (by rfl) T.f_len boot_len (pa_cons (pv 0) pa_nil)) pe_int (nomark _)))))
      (pss_one ps_never)
      pss_nil)
      (pss_cons (ps_asg (pv 0) (pg_tup (n := 3) rfl (pgs_cons (pg_name (i := 1) sc_check_grammar.nd rfl (by first | exact Or.inl rfl | exact Or.inr rfl)) (pgs_cons (pg_name (i := 2) sc_check_grammar.nd rfl (by first | exact Or.inl rfl | exact Or.inr rfl)) (pgs_cons (pg_name (i := 3) sc_check_grammar.nd rfl (by first | exact Or.inl rfl | exact Or.inr rfl)) pgs_nil)))))
      (pss_cons (ps_expr (pe_cl G_check_options hr (by decide) (by rfl) (pa_cons (pv 1) pa_nil)))
      (pss_cons (ps_set (i := 4) sc_check_grammar.nd rfl (by first | exact Or.inl rfl | exact Or.inr rfl) (pe_and (pe_callB call_isi (by rfl) T.f_isinstance (by decide +kernel) (pa_cons (pv 2) (pa_cons (pe_bltn (v := .ty "tuple") (by rfl) T.f_tuple (by decide +kernel) rfl) pa_nil))) (pe_one (pe_cmpR op_eq (pe_callB call_lenQ (by rfl) T.f_len boot_len (pa_cons (pv 2) pa_nil)) pe_int (nomark _)))))
      (pss_cons (ps_if (PW.pt (pw_or (pt_not (pt_val (pv 4))) (pw_or1 (pt_not (pt_val (pe_cl G_is_integer hr (by decide) (by rfl) (pa_cons (pe_ix ix_seq (pv 2) pe_int (fun _ _ => rfl)) (pa_cons pe_int (pa_cons (pe_gi (by rfl) T.i_MAX_POSITIONALS) pa_nil)))))))))
      (pss_one ps_never)
      pss_nil)
      (pss_cons (ps_if (pt_not (pt_val (pe_cl G_is_integer hr (by decide) (by rfl) (pa_cons (pe_ix ix_seq (pv 2) pe_int (fun _ _ => rfl)) (pa_cons (pe_ix ix_seq (pv 2) pe_int (fun _ _ => rfl)) (pa_cons (pe_gi (by rfl) T.i_MAX_POSITIONALS) pa_nil))))))
      (pss_one ps_never)
      pss_nil)
      (pss_cons (ps_if (pt_not (pt_val (pe_callB call_isi (by rfl) T.f_isinstance (by decide +kernel) (pa_cons (pv 3) (pa_cons (pe_bltn (v := .ty "tuple") (by rfl) T.f_tuple (by decide +kernel) rfl) pa_nil)))))
      (pss_one ps_never)
      pss_nil)
      (pss_cons (ps_setLc (i := 5) (own := [("option", 8)]) rfl sc_check_grammar.nd rfl rfl (sw_true rfl rfl rfl (by decide +kernel)) (pi_tup (pv 1)) (blkOk_by (own := [("option", 8)]) (N := ["grammar", "options", "positionals", "clauses", "is_pair", "names", "index", "clause", "option"]) (sc := defScope x_check_grammar) (by decide +kernel)) (fun _ _ _ _ _ => (pg_name (i := 8) sc_check_grammar.nd rfl (by first | exact Or.inl rfl | exact Or.inr rfl))) (fun _ _ _ _ _ => pts_nil) (fun _ _ _ _ _ => (pe_ix ix_seq (pv 8) pe_int (fun _ _ => rfl))))
      (pss_one (ps_for PassesOwn.never rfl (pi_enumT (by rfl) T.f_enumerate (pa_cons (pv 3) pa_nil)) (pg_tup (n := 2) rfl (pgs_cons (pg_name (i := 6) sc_check_grammar.nd rfl (by first | exact Or.inl rfl | exact Or.inr rfl)) (pgs_cons (pg_name (i := 7) sc_check_grammar.nd rfl (by first | exact Or.inl rfl | exact Or.inr rfl)) pgs_nil)))
      pss_never)))))))))),
      (ds_seq (ds_if (dt_or (dt_not (dt_B (de_cb rd_isi (da_cons (de_var 0) (da_cons (de_ty .tup) da_nil))))) (dt_test (de_op rd_ne (de_cb rd_len (da_cons (de_var 0) da_nil)) (de_int 3))))
      ds_never
      ds_next)
      (ds_seq (ds_asg (de_var 0) (dg_tup (dgs_cons (dg_name 1) (dgs_cons (dg_name 2) (dgs_cons (dg_name 3) dgs_nil)))))
      (ds_seq (ds_drop (de_call (da_cons (de_var 1) da_nil)))
      (ds_seq (ds_asg (de_andV (de_cb rd_isi (da_cons (de_var 2) (da_cons (de_ty .tup) da_nil))) (de_op rd_eq (de_cb rd_len (da_cons (de_var 2) da_nil)) (de_int 2))) (dg_name 4))
      (ds_seq (ds_if (dt_or (dt_not (dt_B (de_var 4))) (dt_not (dt_B (de_call (da_cons (de_op rd_ix (de_var 2) (de_int 0)) (da_cons (de_int 0) (da_cons (de_int 9) da_nil)))))))
      ds_never
      ds_next)
      (ds_seq (ds_if (dt_not (dt_B (de_call (da_cons (de_op rd_ix (de_var 2) (de_int 1)) (da_cons (de_op rd_ix (de_var 2) (de_int 0)) (da_cons (de_int 9) da_nil))))))
      ds_never
      ds_next)
      (ds_seq (ds_if (dt_not (dt_B (de_cb rd_isi (da_cons (de_var 3) (da_cons (de_ty .tup) da_nil)))))
      ds_never
      ds_next)
      (ds_seq (ds_asg (de_lc (di_tup (de_var 1)) (dg_name 8) dt_yes (de_op rd_ix (de_var 8) (de_int 0)) (by decide)) (dg_name 5))
      (ds_for (di_enumT (da_cons (de_var 3) da_nil)) (dg_tup (dgs_cons (dg_name 6) (dgs_cons (dg_name 7) dgs_nil)))
      ds_never))))))))), fun ws Ps Po h => ?body⟩)
  case len =>
    unfold s_check_grammar at h
    split at h
    · rfl
    · exact h.elim
  case body =>
    unfold s_check_grammar at h
    split at h
    rotate_left
    · exact h.elim
    obtain ⟨os, lo, hi, rfl, ok, h⟩ := h
    walk_at "s"
    refine ⟨os, lo, hi, rfl, ok, ?_⟩
    have h0 := ok.lo0
    have h1 := ok.lohi
    have h2 := ok.hi9
    walk_at "s"
    refine iteN (by simp; omega) ?_
    walk_at "s"
    refine iteN (by simp; omega) ?_
    walk_at "s"
    refine lc_map (fun w => match w with | .tup (x :: _) => x | _ => w) ?_ ?_ (fun i w acc hw I => ?_) ?_
    · trivial
    · have := ok.len2; rw [List.length_map]; omega
    · obtain ⟨o, _, _, rfl⟩ := map_get hw
      walk_at "s"
      exact wx_yes hw I rfl rfl
    · walk_at "s"
      refine for_I (fun _ G2 P2 => P2 = Ps) rfl (fun _ _ _ _ => trivial) ?_ ?_
      · intro i w G2 P2 hw _
        cases hw
      · intro G2 P2 e
        have e : P2 = Ps := e
        subst e
        exact fin_here h
end Fc
namespace Fc
open PySem PySem.Spec PyProof.Rows L2
local macro_rules | `(tactic| walk_at "s") => `(tactic| repeat (first
  | refine st_opt rfl ?_
  | refine st_opt (e_len (by first | assumption | omega)) ?_
  | refine st_opt (e_addS (by first | decide | omega | (simp; done) | (simp; omega))) ?_
  | refine st_opt (fldW_at (by first | assumption | exact updP_same) rfl) ?_
  | refine st_opt (insOf_at (by first | assumption | exact updP_same)) ?_
  | refine st_ble rfl ?_
  | refine st_blt rfl ?_
  | refine st_eqr ?_))
def s_check_line (_ : PySem.W.Frag) : WSp := fun ws P Po => match ws with
  | [.str x] => TokOk x ∧ Po .non P
  | _ => False
theorem sc_check_line : FnScope ["line", "index", "character"] ["line"] (defScope x_check_line) := ⟨rfl, rfl, rfl, by decide +kernel, rfl, by decide +kernel, by decide +kernel⟩
theorem cl_check_line {P : Program} {w : World} {K : PySem.W.Frag} {mg : Str → Option Value} {base : Heap} (T : Txt K mg)  : Cl P w K mg base 1 "check_line" (s_check_line K) := by
  obtain ⟨fd, F⟩ := T.d_check_line
  refine cl_of F T.g_check_line sc_check_line (fun ws Ps Po h => ?len) (fun _ _ _ _ _ _ us hl => match us, hl with | [_], _ => rfl) (fun cdv A outer sh H E hr => ⟨_, _,
      (pss_cons (ps_if (pt_not (pt_val (pe_callB call_isi (by rfl) T.f_isinstance (by decide +kernel) (pa_cons (pv 0) (pa_cons (pe_bltn (v := .ty "str") (by rfl) T.f_str (by decide +kernel) rfl) pa_nil)))))
      (pss_one ps_never)
      pss_nil)
      (pss_one (ps_for PassesOwn.never rfl (pi_enumS (by rfl) T.f_enumerate (pa_cons (pv 0) pa_nil)) (pg_tup (n := 2) rfl (pgs_cons (pg_name (i := 1) sc_check_line.nd rfl (by first | exact Or.inl rfl | exact Or.inr rfl)) (pgs_cons (pg_name (i := 2) sc_check_line.nd rfl (by first | exact Or.inl rfl | exact Or.inr rfl)) pgs_nil)))
      (pss_one (ps_if (PW.pt (pw_or (pt_cmpR op_eq (pv 1) (pe_gi (by rfl) T.i_MAX_LINE) (nomark _)) (pw_or1 (pt_cmpR op_notInS (pv 2) (pe_gs (by rfl) T.s_ALPHABET) rfl))))
      (pss_one ps_never)
      pss_nil))))),
      (ds_seq (ds_if (dt_not (dt_B (de_cb rd_isi (da_cons (de_var 0) (da_cons (de_ty .str) da_nil)))))
      ds_never
      ds_next)
      (ds_for (di_enumS (da_cons (de_var 0) da_nil)) (dg_tup (dgs_cons (dg_name 1) (dgs_cons (dg_name 2) dgs_nil)))
      (ds_if (dt_or (dt_test (de_op rd_eq (de_var 1) (de_int 200))) (dt_test (de_op rd_notInS (de_var 2) (de_str k2))))
      ds_never
      ds_next))), fun ws Ps Po h => ?body⟩)
  case len =>
    unfold s_check_line at h
    split at h
    · rfl
    · exact h.elim
  case body =>
    unfold s_check_line at h
    split at h
    rotate_left
    · exact h.elim
    rename_i x
    obtain ⟨⟨h1, h2⟩, h⟩ := h
    walk_at "s"
    refine for_I (fun _ G2 P2 => P2 = Ps ∧ ∃ y z, G2 = [some (.str x), y, z]) ⟨rfl, _, _, rfl⟩ (fun _ _ _ _ => trivial) ?_ ?_
    · rintro i w G2 P2 hw ⟨rfl, y, z, rfl⟩
      obtain ⟨ow, how, rfl⟩ := enumW_inv hw
      obtain ⟨c, hc, hm, rfl⟩ := sgnW_get how
      have hi := (List.getElem?_eq_some_iff.mp hc).1
      walk_at "s"
      refine iteN (decide_eq_false (by omega)) ?_
      walk_at "s"
      refine iteN (by simp [h2 c hm]) ?_
      exact ⟨rfl, _, _, rfl⟩
    · rintro G2 P2 ⟨rfl, _⟩
      exact fin_here h
def s_is_token (_ : PySem.W.Frag) : WSp := fun ws P Po => match ws with
  | [.str x] => TokOk x ∧ Po (.bl true) P
  | _ => False
theorem sc_is_token : FnScope ["value", "character"] ["value"] (defScope x_is_token) := ⟨rfl, rfl, rfl, by decide +kernel, rfl, by decide +kernel, by decide +kernel⟩
theorem cl_is_token {P : Program} {w : World} {K : PySem.W.Frag} {mg : Str → Option Value} {base : Heap} (T : Txt K mg)  : Cl P w K mg base 1 "is_token" (s_is_token K) := by
  obtain ⟨fd, F⟩ := T.d_is_token
  refine cl_of F T.g_is_token sc_is_token (fun ws Ps Po h => ?len) (fun _ _ _ _ _ _ us hl => match us, hl with | [_], _ => rfl) (fun cdv A outer sh H E hr => ⟨_, _,
      (pss_one (ps_ret (pe_and (pe_callB call_isi (by rfl) T.f_isinstance (by decide +kernel) (pa_cons (pv 0) (pa_cons (pe_bltn (v := .ty "str") (by rfl) T.f_str (by decide +kernel) rfl) pa_nil))) (pe_and (pe_cmpR op_le (pe_callB call_lenQ (by rfl) T.f_len boot_len (pa_cons (pv 0) pa_nil)) (pe_gi (by rfl) T.i_MAX_LINE) (nomark _)) (pe_one (pe_callB (cr_all rfl) (by rfl) T.f_all (by decide +kernel) (pa_cons (pe_lc (own := [("character", 1)]) rfl sc_is_token.nd (pi_str (pv 0)) (blkOk_by (own := [("character", 1)]) (N := ["value", "character"]) (sc := defScope x_is_token) (by decide +kernel)) (fun _ _ _ _ _ => (pg_name (i := 1) sc_is_token.nd rfl (by first | exact Or.inl rfl | exact Or.inr rfl))) (fun _ _ _ _ _ => pts_nil) (fun _ _ _ _ _ => (pe_cmpR op_inS (pv 1) (pe_gs (by rfl) T.s_ALPHABET) rfl))) pa_nil))))))),
      (ds_ret (de_andV (de_cb rd_isi (da_cons (de_var 0) (da_cons (de_ty .str) da_nil))) (de_andV (de_op rd_le (de_cb rd_len (da_cons (de_var 0) da_nil)) (de_int 200)) (de_cb rd_all (da_cons (de_lc (di_str (de_var 0)) (dg_name 1) dt_yes (de_op rd_inS (de_var 1) (de_str k2)) (by decide)) da_nil))))), fun ws Ps Po h => ?body⟩)
  case len =>
    unfold s_is_token at h
    split at h
    · rfl
    · exact h.elim
  case body =>
    unfold s_is_token at h
    split at h
    rotate_left
    · exact h.elim
    rename_i x
    obtain ⟨⟨h1, h2⟩, h⟩ := h
    walk_at "s"
    refine iteY (decide_eq_true (by omega)) ?_
    walk_at "s"
    refine lc_map (fun w => .bl ((fun _ => true) w)) ?_ ?_ (fun i w acc hw I => ?_) ?_
    · trivial
    · rw [show (sgnW x).length = x.length from List.length_map _]; omega
    · obtain ⟨c, _, hc, rfl⟩ := sgnW_get hw
      walk_at "s"
      exact wx_yes hw I rfl (by simpa using h2 c hc)
    · refine st_opt e_allT ?_
      exact fin_here h
def s_check_tokens (_ : PySem.W.Frag) : WSp := fun ws P Po => match ws with
  | [.lst ws] => ∃ ts : List (List Nat), ws = ts.map .str ∧ ts.length ≤ 1000 ∧ (∀ t ∈ ts, TokOk t) ∧ Po .non P
  | _ => False
theorem sc_check_tokens : FnScope ["tokens", "index", "token"] ["tokens"] (defScope x_check_tokens) := ⟨rfl, rfl, rfl, by decide +kernel, rfl, by decide +kernel, by decide +kernel⟩
theorem cl_check_tokens {P : Program} {w : World} {K : PySem.W.Frag} {mg : Str → Option Value} {base : Heap} (T : Txt K mg) (G_is_token : Cl P w K mg base 1 "is_token" (s_is_token K)) : Cl P w K mg base 2 "check_tokens" (s_check_tokens K) := by
  obtain ⟨fd, F⟩ := T.d_check_tokens
  refine cl_of F T.g_check_tokens sc_check_tokens (fun ws Ps Po h => ?len) (fun _ _ _ _ _ _ us hl => match us, hl with | [_], _ => rfl) (fun cdv A outer sh H E hr => ⟨_, _,
      (pss_cons (ps_if (pt_not (pt_val (pe_callB call_isiT (by rfl) T.f_isinstance (by decide +kernel) (pa_cons (pv 0) (pa_cons (pe_tup (pa_cons (pe_bltn (v := .ty "list") (by rfl) T.f_list (by decide +kernel) rfl) (pa_cons (pe_bltn (v := .ty "tuple") (by rfl) T.f_tuple (by decide +kernel) rfl) pa_nil))) pa_nil)))))
      (pss_one ps_never)
      pss_nil)
      (pss_one (ps_for PassesOwn.never rfl (pi_enumL (by rfl) T.f_enumerate (pa_cons (pv 0) pa_nil)) (pg_tup (n := 2) rfl (pgs_cons (pg_name (i := 1) sc_check_tokens.nd rfl (by first | exact Or.inl rfl | exact Or.inr rfl)) (pgs_cons (pg_name (i := 2) sc_check_tokens.nd rfl (by first | exact Or.inl rfl | exact Or.inr rfl)) pgs_nil)))
      (pss_one (ps_if (pt_not (pt_val (pe_cl G_is_token hr (by decide) (by rfl) (pa_cons (pv 2) pa_nil))))
      (pss_one ps_never)
      pss_nil))))),
      (ds_seq (ds_if (dt_not (dt_B (de_cb rd_isi2 (da_cons (de_var 0) (da_cons (de_tup (da_cons (de_ty .lst) (da_cons (de_ty .tup) da_nil))) da_nil)))))
      ds_never
      ds_next)
      (ds_for (di_enumL (da_cons (de_var 0) da_nil)) (dg_tup (dgs_cons (dg_name 1) (dgs_cons (dg_name 2) dgs_nil)))
      (ds_if (dt_not (dt_B (de_call (da_cons (de_var 2) da_nil))))
      ds_never
      ds_next))), fun ws Ps Po h => ?body⟩)
  case len =>
    unfold s_check_tokens at h
    split at h
    · rfl
    · exact h.elim
  case body =>
    unfold s_check_tokens at h
    split at h
    rotate_left
    · exact h.elim
    obtain ⟨ts, rfl, hl, h2, h⟩ := h
    walk_at "s"
    refine for_I (fun _ G2 P2 => P2 = Ps ∧ ∃ y z, G2 = [some (.lst (ts.map .str)), y, z]) ⟨rfl, _, _, rfl⟩ (fun _ _ _ _ => trivial) ?_ ?_
    · rintro i w G2 P2 hw ⟨rfl, y, z, rfl⟩
      obtain ⟨ow, how, rfl⟩ := enumW_inv hw
      obtain ⟨c, hc, hm, rfl⟩ := map_get how
      walk_at "s"
      refine ⟨h2 c hm, ?_⟩
      walk_at "s"
      exact ⟨_, _, rfl⟩
    · rintro G2 P2 ⟨rfl, _⟩
      exact fin_here h
/-- a line being split -/
def splO (K : PySem.W.Frag) (dx : Addr) (l : List Nat) (pos : Nat) (f : Addr) : SO := .ins (He.ga K "Splitter") dx [(0, .str l), (1, .int (pos : Int)), (2, .r f)]
def s_Splitter___init__ (K : PySem.W.Frag) : WSp := fun ws P Po => match ws with
  | [.r a, .str l] => ∃ dx, P a = some (.ins (He.ga K "Splitter") dx []) ∧ ∀ f, P f = none → Po .non (updP (updP P a (splO K dx l 0 f)) f (.lst []))
  | _ => False
theorem sc_Splitter___init__ : FnScope ["self", "line"] ["self", "line"] (defScope x_Splitter___init__) := ⟨rfl, rfl, rfl, by decide +kernel, rfl, by decide +kernel, by decide +kernel⟩
theorem cl_Splitter___init__ {P : Program} {w : World} {K : PySem.W.Frag} {mg : Str → Option Value} {base : Heap} (T : Txt K mg)  : Mq P w K mg base 1 "Splitter" (He.ga K "Splitter") (s_Splitter___init__ K) := by
  obtain ⟨fd, F⟩ := T.d_Splitter___init__
  refine mq_of F T.g_Splitter T.k_Splitter sc_Splitter___init__ (fun ws Ps Po h => ?len) (fun _ _ _ _ _ _ us hl => match us, hl with | [_, _], _ => rfl) (fun cdv A outer sh H E hr => ⟨_, _,
      (pss_cons (ps_fld (pv 0) (pv 1) rfl)
      (pss_cons (ps_fld (pv 0) pe_int rfl)
      (pss_one (ps_fld (pv 0) (pe_lst pa_nil) rfl)))),
      (ds_seq (ds_fld (He.ga K "Splitter") 0 T.c_Splitter T.n_Splitter_line (de_var 0) (de_var 1))
      (ds_seq (ds_fld (He.ga K "Splitter") 1 T.c_Splitter T.n_Splitter_position (de_var 0) (de_int 0))
      (ds_fld (He.ga K "Splitter") 2 T.c_Splitter T.n_Splitter_found (de_var 0) (de_lstN da_nil)))), fun ws Ps Po h => ?body⟩)
  case len =>
    unfold s_Splitter___init__ at h
    split at h
    · rfl
    · exact h.elim
  case body =>
    unfold s_Splitter___init__ at h
    split at h
    rotate_left
    · exact h.elim
    rename_i a l
    obtain ⟨dx, ha, h⟩ := h
    walk_at "s"
    intro f hf
    obtain ⟨hfa, hf⟩ := updP_none hf
    obtain ⟨_, hf⟩ := updP_none hf
    walk_at "s"
    refine st_opt (insOf_at (updP_at (Ne.symm hfa) updP_same)) ?_
    walk_at "s"
    refine fin_eqP ?_ (h f hf)
    show updP (updP (updP (updP Ps a _) a _) f _) a _ = _
    rw [updP_updP, updP_comm (Ne.symm hfa), updP_updP, updP_comm hfa]
    rfl
def s_Splitter_read_escaped (K : PySem.W.Frag) : WSp := fun ws P Po => match ws with
  | [.r a] => ∃ dx l f d, ∃ pos : Nat, P a = some (splO K dx l pos f) ∧ l.length ≤ 1000 ∧ l[pos + 1]? = some d ∧ Po (.str [d]) (updP P a (splO K dx l (pos + 2) f))
  | _ => False
theorem sc_Splitter_read_escaped : FnScope ["self"] ["self"] (defScope x_Splitter_read_escaped) := ⟨rfl, rfl, rfl, by decide +kernel, rfl, by decide +kernel, by decide +kernel⟩
theorem cl_Splitter_read_escaped {P : Program} {w : World} {K : PySem.W.Frag} {mg : Str → Option Value} {base : Heap} (T : Txt K mg)  : Mt P w K mg base 1 (He.ga K "Splitter") "read_escaped" (s_Splitter_read_escaped K) := by
  obtain ⟨fd, F⟩ := T.d_Splitter_read_escaped
  refine mt_of F T.c_Splitter T.m_Splitter_read_escaped sc_Splitter_read_escaped (fun ws Ps Po h => ?len) (fun _ _ _ _ _ _ us hl => match us, hl with | [_], _ => rfl) (fun cdv A outer sh H E hr => ⟨_, _,
      (pss_cons (ps_if (pt_cmpR op_eq (pe_op op_add (pe_fld (pv 0) rfl) pe_int) (pe_callB call_lenQ (by rfl) T.f_len boot_len (pa_cons (pe_fld (pv 0) rfl) pa_nil)) (nomark _))
      (pss_one ps_never)
      pss_nil)
      (pss_cons (ps_fldaug (pv 0) pe_int in_add)
      (pss_one (ps_ret (pe_ix ix_seq (pe_fld (pv 0) rfl) (pe_op op_sub (pe_fld (pv 0) rfl) pe_int) (fun _ _ => rfl)))))),
      (ds_seq (ds_if (dt_test (de_op rd_eq (de_op rd_add (de_fld (He.ga K "Splitter") 1 T.c_Splitter T.n_Splitter_position (de_var 0)) (de_int 1)) (de_cb rd_len (da_cons (de_fld (He.ga K "Splitter") 0 T.c_Splitter T.n_Splitter_line (de_var 0)) da_nil))))
      ds_never
      ds_next)
      (ds_seq (ds_fldaug (He.ga K "Splitter") 1 T.c_Splitter T.n_Splitter_position rd_augI (de_var 0) (de_int 2))
      (ds_ret (de_op rd_ix (de_fld (He.ga K "Splitter") 0 T.c_Splitter T.n_Splitter_line (de_var 0)) (de_op rd_sub (de_fld (He.ga K "Splitter") 1 T.c_Splitter T.n_Splitter_position (de_var 0)) (de_int 1)))))), fun ws Ps Po h => ?body⟩)
  case len =>
    unfold s_Splitter_read_escaped at h
    split at h
    · rfl
    · exact h.elim
  case body =>
    unfold s_Splitter_read_escaped at h
    split at h
    rotate_left
    · exact h.elim
    rename_i a
    obtain ⟨dx, l, f, d, pos, ha, hl, hd, h⟩ := h
    have hlt := (List.getElem?_eq_some_iff.mp hd).1
    unfold splO at ha h
    walk_at "s"
    refine iteN (decide_eq_false (by omega)) ?_
    walk_at "s"
    refine st_opt (e_ixS hl (c := d) ?_) ?_
    · rw [show (pos : Int) + 2 - 1 = ((pos + 1 : Nat) : Int) by omega, atI_natL]
      exact hd
    · exact fin_here h
end Fc
namespace Fc
open PySem PySem.Spec PyProof.Rows L2
local macro_rules | `(tactic| walk_at "s") => `(tactic| repeat (first
  | refine st_opt rfl ?_
  | refine st_opt (e_len (by first | assumption | omega)) ?_
  | refine st_opt (e_addS (by first | decide | omega | (simp; done) | (simp; omega))) ?_
  | refine st_opt (fldW_at (by first | assumption | exact updP_same) rfl) ?_
  | refine st_opt (insOf_at (by first | assumption | exact updP_same)) ?_
  | refine st_ble rfl ?_
  | refine st_blt rfl ?_
  | refine st_eqr ?_))
def mPos (l : List Nat) (a : Addr) (P : Pst) : Nat := match P a with
  | some (.ins _ _ [_, (_, .int i), _]) => l.length - i.toNat
  | _ => 0
theorem mPos_at {K : PySem.W.Frag} {dx : Addr} {l : List Nat} {pos : Nat} {f a : Addr} {P : Pst} (h : P a = some (splO K dx l pos f)) : mPos l a P = l.length - pos := by
  unfold mPos
  rw [h]
  rfl
def s_Splitter_read_quoted (K : PySem.W.Frag) : WSp := fun ws P Po => match ws with
  | [.r a, .str [q]] => ∃ dx l f r t r', ∃ pos : Nat, P a = some (splO K dx l pos f) ∧ l.length ≤ 1000 ∧ l.drop pos = q :: r ∧ QQ q r t r' ∧ ∀ pos' : Nat, l.drop pos' = r' → pos' ≤ l.length → Po (.str t) (updP P a (splO K dx l pos' f))
  | _ => False
def RqI (K : PySem.W.Frag) (Ps : Pst) (a dx : Addr) (l : List Nat) (f : Addr) (q : Nat) (t r' : List Nat) (G : Env) (P : Pst) : Prop := ∃ (pos : Nat) (r t2 : List Nat) (ps : List (List Nat)) (p : Addr) (x : Option Wv) (st : Wv), G = [some (.r a), some (.str [q]), some st, some (.r p), x] ∧ P a = some (splO K dx l pos f) ∧ P p = some (.lst (ps.map .str)) ∧ p ≠ a ∧ Ps p = none ∧
  SubP (delP Ps a) P ∧ l.drop pos = r ∧ QQ q r t2 r' ∧ t = ps.flatten ++ t2 ∧ ps.length ≤ pos ∧ pos ≤ l.length
theorem sc_Splitter_read_quoted : FnScope ["self", "quote_character", "start", "parts", "character"] ["self", "quote_character"] (defScope x_Splitter_read_quoted) := ⟨rfl, rfl, rfl, by decide +kernel, rfl, by decide +kernel, by decide +kernel⟩
theorem cl_Splitter_read_quoted {P : Program} {w : World} {K : PySem.W.Frag} {mg : Str → Option Value} {base : Heap} (T : Txt K mg) (G_Splitter_read_escaped : Mt P w K mg base 1 (He.ga K "Splitter") "read_escaped" (s_Splitter_read_escaped K)) : Mt P w K mg base 2 (He.ga K "Splitter") "read_quoted" (s_Splitter_read_quoted K) := by
  obtain ⟨fd, F⟩ := T.d_Splitter_read_quoted
  refine mt_of F T.c_Splitter T.m_Splitter_read_quoted sc_Splitter_read_quoted (fun ws Ps Po h => ?len) (fun _ _ _ _ _ _ us hl => match us, hl with | [_, _], _ => rfl) (fun cdv A outer sh H E hr => ⟨_, _,
      (pss_cons (ps_par (i := 2) (j := 3) rfl sc_Splitter_read_quoted.nd rfl rfl (by decide) rfl rfl (pa_cons (pe_fld (pv 0) rfl) (pa_cons (pe_lst pa_nil) pa_nil)) (by rfl))
      (pss_cons (ps_fldaug (pv 0) pe_int in_add)
      (pss_cons (ps_while PassesOwn.never (pt_cmpR op_lt (pe_fld (pv 0) rfl) (pe_callB call_lenQ (by rfl) T.f_len boot_len (pa_cons (pe_fld (pv 0) rfl) pa_nil)) (nomark _))
      (pss_cons (ps_set (i := 4) sc_Splitter_read_quoted.nd rfl (by first | exact Or.inl rfl | exact Or.inr rfl) (pe_ix ix_seq (pe_fld (pv 0) rfl) (pe_fld (pv 0) rfl) (fun _ _ => rfl)))
      (pss_cons (ps_if (pt_cmpR op_eq (pv 4) (pv 1) (nomark _))
      (pss_cons (ps_fldaug (pv 0) pe_int in_add)
      (pss_one (ps_ret (pe_join pe_str (pv 3)))))
      pss_nil)
      (pss_one (ps_if (PW.pt (pw_and (pt_cmpR op_eq (pv 4) (pe_gs (by rfl) T.s_BACKSLASH) (nomark _)) (pw_and1 (pt_cmpR op_eq (pv 1) (pe_gs (by rfl) T.s_DOUBLE) (nomark _)))))
      (pss_cons (ps_if (pt_cmpR op_eq (pe_op op_add (pe_fld (pv 0) rfl) pe_int) (pe_callB call_lenQ (by rfl) T.f_len boot_len (pa_cons (pe_fld (pv 0) rfl) pa_nil)) (nomark _))
      (pss_one ps_break)
      pss_nil)
      (pss_one (ps_expr (pe_bm PySem.F.plainAttrs_list PySem.F.slot_list_append PySem.F.type_list_append mt_append (pv 3) (pa_cons (pe_mtd0 G_Splitter_read_escaped hr (by decide) (pv 0)) pa_nil)))))
      (pss_cons (ps_expr (pe_bm PySem.F.plainAttrs_list PySem.F.slot_list_append PySem.F.type_list_append mt_append (pv 3) (pa_cons (pv 4) pa_nil)))
      (pss_one (ps_fldaug (pv 0) pe_int in_add))))))))
      (pss_one ps_never)))),
      (ds_seq (ds_par (i := 2) (j := 3) (da_cons (de_fld (He.ga K "Splitter") 1 T.c_Splitter T.n_Splitter_position (de_var 0)) (da_cons (de_lstN da_nil) da_nil)))
      (ds_seq (ds_fldaug (He.ga K "Splitter") 1 T.c_Splitter T.n_Splitter_position rd_augI (de_var 0) (de_int 1))
      (ds_seq (ds_while (dt_test (de_op rd_lt (de_fld (He.ga K "Splitter") 1 T.c_Splitter T.n_Splitter_position (de_var 0)) (de_cb rd_len (da_cons (de_fld (He.ga K "Splitter") 0 T.c_Splitter T.n_Splitter_line (de_var 0)) da_nil))))
      (ds_seq (ds_asg (de_op rd_ix (de_fld (He.ga K "Splitter") 0 T.c_Splitter T.n_Splitter_line (de_var 0)) (de_fld (He.ga K "Splitter") 1 T.c_Splitter T.n_Splitter_position (de_var 0))) (dg_name 4))
      (ds_seq (ds_if (dt_test (de_op rd_eq (de_var 4) (de_var 1)))
      (ds_seq (ds_fldaug (He.ga K "Splitter") 1 T.c_Splitter T.n_Splitter_position rd_augI (de_var 0) (de_int 1))
      (ds_ret (de_m1 rd_join (de_str k14) (de_pub (de_var 3)))))
      ds_next)
      (ds_if (dt_and (dt_test (de_op rd_eq (de_var 4) (de_str k6))) (dt_test (de_op rd_eq (de_var 1) (de_str k5))))
      (ds_seq (ds_if (dt_test (de_op rd_eq (de_op rd_add (de_fld (He.ga K "Splitter") 1 T.c_Splitter T.n_Splitter_position (de_var 0)) (de_int 1)) (de_cb rd_len (da_cons (de_fld (He.ga K "Splitter") 0 T.c_Splitter T.n_Splitter_line (de_var 0)) da_nil))))
      ds_break
      ds_next)
      (ds_drop (de_app (de_var 3) (de_meth (de_var 0) da_nil))))
      (ds_seq (ds_drop (de_app (de_var 3) (de_var 4)))
      (ds_fldaug (He.ga K "Splitter") 1 T.c_Splitter T.n_Splitter_position rd_augI (de_var 0) (de_int 1)))))))
      ds_never))), fun ws Ps Po h => ?body⟩)
  case len =>
    unfold s_Splitter_read_quoted at h
    split at h
    · rfl
    · exact h.elim
  case body =>
    unfold s_Splitter_read_quoted at h
    split at h
    rotate_left
    · exact h.elim
    rename_i a q
    obtain ⟨dx, l, f, r, t, r', pos, ha, hl, hd, hq, h⟩ := h
    obtain ⟨hlt, hc, hd1⟩ := drop_cons hd
    have ha0 := ha
    unfold splO at ha
    walk_at "s"
    intro p hp
    have hpa : p ≠ a := fun e => by subst e; rw [ha] at hp; cases hp
    walk_at "s"
    refine st_opt (fldW_at (updP_at (Ne.symm hpa) ha) rfl) ?_
    walk_at "s"
    refine st_opt (insOf_at (updP_at (Ne.symm hpa) ha)) ?_
    walk_at "s"
    refine while_I (RqI K Ps a dx l f q t r') (fun _ P => mPos l a P) ?_ ?_
    · refine ⟨pos + 1, r, t, [], p, _, _, rfl, updP_same, updP_at hpa updP_same, hpa, hp, SubP.delU (SubP.new (delP_none hp) SubP.del), hd1, hq, rfl, Nat.zero_le _, by omega⟩
    · rintro G2 P2 ⟨pos2, r2, t2, ps, p, x, st, rfl, ha, hP, hpa, hp, sub, hdr, hqq, et, hps, hple⟩
      have hm := mPos_at ha
      unfold splO at ha
      cases hqq with
      | stop =>
        obtain ⟨hlt2, hc2, hd2⟩ := drop_cons hdr
        walk_at "s"
        refine iteY (decide_eq_true (by omega)) ?_
        walk_at "s"
        refine st_opt (e_ixS hl (c := q) ((atI_natL l pos2).trans hc2)) ?_
        walk_at "s"
        refine iteY (by simp) ?_
        walk_at "s"
        refine st_pub (updP_at hpa hP) ?_
        refine st_opt (e_join0 rfl ?_) ?_
        · have h1 := congrArg List.length et
          rw [List.length_append] at h1
          have := hq.len
          have := drop_len hd (by omega)
          simp only [List.length_cons] at this
          omega
        · have e : t = ps.flatten := by rw [et]; simp
          rw [← e]
          exact fin_sub (SubP.delR (SubP.putU (SubP.delU sub) updP_same) (updP_noneI hpa hp)) (h (pos2 + 1) hd2 (by omega))
      | plain h1 h2 h3 =>
        rename_i c r3 t3
        obtain ⟨hlt2, hc2, hd2⟩ := drop_cons hdr
        walk_at "s"
        refine iteY (decide_eq_true (by omega)) ?_
        walk_at "s"
        refine st_opt (e_ixS hl (c := c) ((atI_natL l pos2).trans hc2)) ?_
        walk_at "s"
        refine iteN (by simp [h1]) ?_
        walk_at "s"
        have fin : ∀ P3 : Pst, P3 = updP (updP P2 p (.lst (ps.map .str ++ [.str [c]]))) a (splO K dx l (pos2 + 1) f) → RqI K Ps a dx l f q t r' [some (.r a), some (.str [q]), some st, some (.r p), some (.str [c])] P3 ∧ mPos l a P3 < mPos l a P2 := by
          rintro P3 rfl
          refine ⟨⟨pos2 + 1, r3, t3, ps ++ [[c]], p, _, st, rfl, updP_same, updP_at hpa (by rw [updP_same, List.map_append]; rfl), hpa, hp, SubP.delU (SubP.new (delP_none hp) sub), hd2, h3, ?_, by rw [List.length_append]; simp; omega, by omega⟩, ?_⟩
          · rw [et, List.flatten_append]
            simp
          · rw [mPos_at updP_same, hm]
            omega
        by_cases hc92 : c = 92
        · refine iteY (by simp [hc92]) ?_
          walk_at "s"
          refine iteN (by simp [h2 hc92]) ?_
          walk_at "s"
          refine ⟨⟨p, _, rfl, hP⟩, ?_⟩
          walk_at "s"
          refine st_opt (lstM_at hP) ?_
          refine ⟨by show (ps.map Wv.str).length < 1000000; rw [List.length_map]; omega, ?_⟩
          walk_at "s"
          refine st_opt (fldW_at (updP_at (Ne.symm hpa) ha) rfl) ?_
          walk_at "s"
          refine st_opt (insOf_at (updP_at (Ne.symm hpa) ha)) ?_
          walk_at "s"
          exact fin _ rfl
        · refine iteN (by simp [hc92]) ?_
          walk_at "s"
          refine ⟨⟨p, _, rfl, hP⟩, ?_⟩
          walk_at "s"
          refine st_opt (lstM_at hP) ?_
          refine ⟨by show (ps.map Wv.str).length < 1000000; rw [List.length_map]; omega, ?_⟩
          walk_at "s"
          refine st_opt (fldW_at (updP_at (Ne.symm hpa) ha) rfl) ?_
          walk_at "s"
          refine st_opt (insOf_at (updP_at (Ne.symm hpa) ha)) ?_
          walk_at "s"
          exact fin _ rfl
      | esc h1 h2 =>
        rename_i d r3 t3
        subst h1
        obtain ⟨hlt2, hc2, hd2⟩ := drop_cons hdr
        obtain ⟨hlt3, hc3, hd3⟩ := drop_cons hd2
        walk_at "s"
        refine iteY (decide_eq_true (by omega)) ?_
        walk_at "s"
        refine st_opt (e_ixS hl (c := 92) ((atI_natL l pos2).trans hc2)) ?_
        walk_at "s"
        refine iteN (decide_eq_false (by omega)) ?_
        walk_at "s"
        refine ⟨⟨p, _, rfl, hP⟩, ?_⟩
        walk_at "s"
        refine ⟨dx, l, f, d, pos2, ha, hl, hc3, ?_⟩
        refine st_opt (lstM_at (updP_at hpa hP)) ?_
        refine ⟨by show (ps.map Wv.str).length < 1000000; rw [List.length_map]; omega, ?_⟩
        refine ⟨⟨pos2 + 2, r3, t3, ps ++ [[d]], p, _, st, rfl, updP_at (Ne.symm hpa) updP_same, by rw [updP_same, List.map_append]; rfl, hpa, hp, SubP.new (delP_none hp) (SubP.delU sub), hd3, h2, ?_, by rw [List.length_append]; simp; omega, by omega⟩, ?_⟩
        · rw [et, List.flatten_append]
          simp
        · rw [mPos_at (updP_at (Ne.symm hpa) updP_same), hm]
          omega
end Fc
namespace Fc
open PySem PySem.Spec PyProof.Rows L2
local macro_rules | `(tactic| walk_at "s") => `(tactic| repeat (first
  | refine st_opt rfl ?_
  | refine st_opt (e_len (by first | assumption | omega)) ?_
  | refine st_opt (e_addS (by first | decide | omega | (simp; done) | (simp; omega))) ?_
  | refine st_opt (fldW_at (by first | assumption | exact updP_same) rfl) ?_
  | refine st_opt (insOf_at (by first | assumption | exact updP_same)) ?_
  | refine st_ble rfl ?_
  | refine st_blt rfl ?_
  | refine st_eqr ?_))
def s_Splitter_read_token (K : PySem.W.Frag) : WSp := fun ws P Po => match ws with
  | [.r a] => ∃ dx l f r t r', ∃ pos : Nat, P a = some (splO K dx l pos f) ∧ l.length ≤ 1000 ∧ pos ≤ l.length ∧ l.drop pos = r ∧ LO r t r' ∧ ∀ pos' : Nat, l.drop pos' = r' → pos' ≤ l.length → Po (.str t) (updP P a (splO K dx l pos' f))
  | _ => False
def RtI (K : PySem.W.Frag) (Ps : Pst) (a dx : Addr) (l : List Nat) (f : Addr) (t r' : List Nat) (G : Env) (P : Pst) : Prop := ∃ (pos : Nat) (r t2 : List Nat) (ps : List (List Nat)) (p : Addr) (x : Option Wv), G = [some (.r a), some (.r p), x] ∧ P a = some (splO K dx l pos f) ∧ P p = some (.lst (ps.map .str)) ∧ p ≠ a ∧ Ps p = none ∧
  SubP (delP Ps a) P ∧ l.drop pos = r ∧ LO r t2 r' ∧ t = ps.flatten ++ t2 ∧ ps.length ≤ pos ∧ pos ≤ l.length
theorem sc_Splitter_read_token : FnScope ["self", "parts", "character"] ["self"] (defScope x_Splitter_read_token) := ⟨rfl, rfl, rfl, by decide +kernel, rfl, by decide +kernel, by decide +kernel⟩
theorem cl_Splitter_read_token {P : Program} {w : World} {K : PySem.W.Frag} {mg : Str → Option Value} {base : Heap} (T : Txt K mg) (G_Splitter_read_quoted : Mt P w K mg base 2 (He.ga K "Splitter") "read_quoted" (s_Splitter_read_quoted K)) (G_Splitter_read_escaped : Mt P w K mg base 1 (He.ga K "Splitter") "read_escaped" (s_Splitter_read_escaped K)) : Mt P w K mg base 3 (He.ga K "Splitter") "read_token" (s_Splitter_read_token K) := by
  obtain ⟨fd, F⟩ := T.d_Splitter_read_token
  refine mt_of F T.c_Splitter T.m_Splitter_read_token sc_Splitter_read_token (fun ws Ps Po h => ?len) (fun _ _ _ _ _ _ us hl => match us, hl with | [_], _ => rfl) (fun cdv A outer sh H E hr => ⟨_, _,
      (pss_cons (ps_set (i := 1) sc_Splitter_read_token.nd rfl (by first | exact Or.inl rfl | exact Or.inr rfl) (pe_lst pa_nil))
      (pss_cons (ps_while PassesOwn.never (PW.pt (pw_and (pt_cmpR op_lt (pe_fld (pv 0) rfl) (pe_callB call_lenQ (by rfl) T.f_len boot_len (pa_cons (pe_fld (pv 0) rfl) pa_nil)) (nomark _)) (pw_and1 (pt_cmpR op_ne (pe_ix ix_seq (pe_fld (pv 0) rfl) (pe_fld (pv 0) rfl) (fun _ _ => rfl)) (pe_gs (by rfl) T.s_SPACE) (nomark _)))))
      (pss_cons (ps_set (i := 2) sc_Splitter_read_token.nd rfl (by first | exact Or.inl rfl | exact Or.inr rfl) (pe_ix ix_seq (pe_fld (pv 0) rfl) (pe_fld (pv 0) rfl) (fun _ _ => rfl)))
      (pss_one (ps_if (pt_cmpR op_in_seq (pv 2) (pe_tup (pa_cons (pe_gs (by rfl) T.s_SINGLE) (pa_cons (pe_gs (by rfl) T.s_DOUBLE) pa_nil))) (by first | exact nomark _ | rfl))
      (pss_one (ps_expr (pe_bm PySem.F.plainAttrs_list PySem.F.slot_list_append PySem.F.type_list_append mt_append (pv 1) (pa_cons (pe_mtd G_Splitter_read_quoted hr (by decide) (pv 0) (pa_cons (pv 2) pa_nil)) pa_nil))))
      (pss_one (ps_if (pt_cmpR op_eq (pv 2) (pe_gs (by rfl) T.s_BACKSLASH) (nomark _))
      (pss_one (ps_expr (pe_bm PySem.F.plainAttrs_list PySem.F.slot_list_append PySem.F.type_list_append mt_append (pv 1) (pa_cons (pe_mtd0 G_Splitter_read_escaped hr (by decide) (pv 0)) pa_nil))))
      (pss_cons (ps_expr (pe_bm PySem.F.plainAttrs_list PySem.F.slot_list_append PySem.F.type_list_append mt_append (pv 1) (pa_cons (pv 2) pa_nil)))
      (pss_one (ps_fldaug (pv 0) pe_int in_add)))))))))
      (pss_one (ps_ret (pe_join pe_str (pv 1)))))),
      (ds_seq (ds_asg (de_lstN da_nil) (dg_name 1))
      (ds_seq (ds_while (dt_and (dt_test (de_op rd_lt (de_fld (He.ga K "Splitter") 1 T.c_Splitter T.n_Splitter_position (de_var 0)) (de_cb rd_len (da_cons (de_fld (He.ga K "Splitter") 0 T.c_Splitter T.n_Splitter_line (de_var 0)) da_nil)))) (dt_test (de_op rd_ne (de_op rd_ix (de_fld (He.ga K "Splitter") 0 T.c_Splitter T.n_Splitter_line (de_var 0)) (de_fld (He.ga K "Splitter") 1 T.c_Splitter T.n_Splitter_position (de_var 0))) (de_str k3))))
      (ds_seq (ds_asg (de_op rd_ix (de_fld (He.ga K "Splitter") 0 T.c_Splitter T.n_Splitter_line (de_var 0)) (de_fld (He.ga K "Splitter") 1 T.c_Splitter T.n_Splitter_position (de_var 0))) (dg_name 2))
      (ds_if (dt_test (de_op (rd_in (n := false)) (de_var 2) (de_tup (da_cons (de_str k4) (da_cons (de_str k5) da_nil)))))
      (ds_drop (de_app (de_var 1) (de_meth (de_var 0) (da_cons (de_var 2) da_nil))))
      (ds_if (dt_test (de_op rd_eq (de_var 2) (de_str k6)))
      (ds_drop (de_app (de_var 1) (de_meth (de_var 0) da_nil)))
      (ds_seq (ds_drop (de_app (de_var 1) (de_var 2)))
      (ds_fldaug (He.ga K "Splitter") 1 T.c_Splitter T.n_Splitter_position rd_augI (de_var 0) (de_int 1)))))))
      (ds_ret (de_m1 rd_join (de_str k14) (de_pub (de_var 1)))))), fun ws Ps Po h => ?body⟩)
  case len =>
    unfold s_Splitter_read_token at h
    split at h
    · rfl
    · exact h.elim
  case body =>
    unfold s_Splitter_read_token at h
    split at h
    rotate_left
    · exact h.elim
    rename_i a
    obtain ⟨dx, l, f, r, t, r', pos, ha, hl, hpl, hd, hq, h⟩ := h
    have hlen := hq.len
    have hdl := drop_len hd hpl
    have ha0 := ha
    unfold splO at ha
    walk_at "s"
    intro p hp
    have hpa : p ≠ a := fun e => by subst e; rw [ha] at hp; cases hp
    walk_at "s"
    refine while_I (RtI K Ps a dx l f t r') (fun _ P => mPos l a P) ?_ ?_
    · exact ⟨pos, r, t, [], p, _, rfl, updP_at (Ne.symm hpa) ha0, updP_same, hpa, hp, SubP.new (delP_none hp) SubP.del, hd, hq, rfl, Nat.zero_le _, hpl⟩
    · rintro G2 P2 ⟨pos2, r2, t2, ps, p, x, rfl, ha, hP, hpa, hp, sub, hdr, hqq, et, hps, hple⟩
      have hm := mPos_at ha
      have hfl : ps.flatten.length ≤ 10000 := by
        have h1 := congrArg List.length et
        rw [List.length_append] at h1
        omega
      have step : ∀ (e d : List Nat) (pos3 : Nat) (P3 : Pst) (y : Option Wv), P3 a = some (splO K dx l pos3 f) → P3 p = some (.lst ((ps ++ [e]).map .str)) → SubP (delP Ps a) P3 → l.drop pos3 = d → (∃ t3, LO d t3 r' ∧ t2 = e ++ t3) → pos2 < pos3 → pos3 ≤ l.length →
          RtI K Ps a dx l f t r' [some (.r a), some (.r p), y] P3 ∧ mPos l a P3 < mPos l a P2 := by
        rintro e d pos3 P3 y h1 h2 h3 h4 ⟨t3, h5, h6⟩ h7 h8
        refine ⟨⟨pos3, d, t3, ps ++ [e], p, y, rfl, h1, h2, hpa, hp, h3, h4, h5, ?_, by rw [List.length_append]; simp; omega, h8⟩, ?_⟩
        · rw [et, h6, List.flatten_append]
          simp
        · rw [mPos_at h1, hm]
          omega
      unfold splO at ha
      cases hqq with
      | nil =>
        have := drop_len hdr hple
        simp at this
        walk_at "s"
        refine iteN (decide_eq_false (by omega)) ?_
        walk_at "s"
        refine st_pub hP ?_
        refine st_opt (e_join0 rfl hfl) ?_
        have e : t = ps.flatten := by rw [et]; simp
        rw [← e]
        exact fin_sub (SubP.delR (SubP.putU sub ha) (updP_noneI hpa hp)) (h pos2 hdr hple)
      | sp r3 =>
        obtain ⟨hlt2, hc2, hd2⟩ := drop_cons hdr
        walk_at "s"
        refine iteY (decide_eq_true (by omega)) ?_
        walk_at "s"
        refine st_opt (e_ixS hl (c := 32) ((atI_natL l pos2).trans hc2)) ?_
        walk_at "s"
        refine st_pub hP ?_
        refine st_opt (e_join0 rfl hfl) ?_
        have e : t = ps.flatten := by rw [et]; simp
        rw [← e]
        exact fin_sub (SubP.delR (SubP.putU sub ha) (updP_noneI hpa hp)) (h pos2 hdr hple)
      | plain h1 h2 h3 h4 h5 =>
        rename_i c r3 t3
        obtain ⟨hlt2, hc2, hd2⟩ := drop_cons hdr
        walk_at "s"
        refine iteY (decide_eq_true (by omega)) ?_
        walk_at "s"
        refine st_opt (e_ixS hl (c := c) ((atI_natL l pos2).trans hc2)) ?_
        walk_at "s"
        refine iteY (by simp [h1]) ?_
        walk_at "s"
        refine st_opt (e_ixS hl (c := c) ((atI_natL l pos2).trans hc2)) ?_
        walk_at "s"
        refine iteN (by simp [h2, h3]) ?_
        walk_at "s"
        refine iteN (by simp [h4]) ?_
        walk_at "s"
        refine ⟨⟨p, _, rfl, hP⟩, ?_⟩
        walk_at "s"
        refine st_opt (lstM_at hP) ?_
        refine ⟨by show (ps.map Wv.str).length < 1000000; rw [List.length_map]; omega, ?_⟩
        walk_at "s"
        refine st_opt (fldW_at (updP_at (Ne.symm hpa) ha) rfl) ?_
        walk_at "s"
        refine st_opt (insOf_at (updP_at (Ne.symm hpa) ha)) ?_
        walk_at "s"
        exact step [c] r3 (pos2 + 1) _ _ updP_same (updP_at hpa (by rw [updP_same, List.map_append]; rfl)) (SubP.delU (SubP.new (delP_none hp) sub)) hd2 ⟨t3, h5, rfl⟩ (by omega) (by omega)
      | esc h1 =>
        rename_i d r3 t3
        obtain ⟨hlt2, hc2, hd2⟩ := drop_cons hdr
        obtain ⟨hlt3, hc3, hd3⟩ := drop_cons hd2
        walk_at "s"
        refine iteY (decide_eq_true (by omega)) ?_
        walk_at "s"
        refine st_opt (e_ixS hl (c := 92) ((atI_natL l pos2).trans hc2)) ?_
        walk_at "s"
        refine st_opt (e_ixS hl (c := 92) ((atI_natL l pos2).trans hc2)) ?_
        walk_at "s"
        refine ⟨⟨p, _, rfl, hP⟩, ?_⟩
        walk_at "s"
        refine ⟨dx, l, f, d, pos2, ha, hl, hc3, ?_⟩
        refine st_opt (lstM_at (updP_at hpa hP)) ?_
        refine ⟨by show (ps.map Wv.str).length < 1000000; rw [List.length_map]; omega, ?_⟩
        exact step [d] r3 (pos2 + 2) _ _ (updP_at (Ne.symm hpa) updP_same) (by rw [updP_same, List.map_append]; rfl) (SubP.new (delP_none hp) (SubP.delU sub)) hd3 ⟨t3, h1, rfl⟩ (by omega) (by omega)
      | quo h1 h2 h3 =>
        rename_i q r3 t3 r4 t4
        obtain ⟨hlt2, hc2, hd2⟩ := drop_cons hdr
        have hq32 : q ≠ 32 := by omega
        walk_at "s"
        refine iteY (decide_eq_true (by omega)) ?_
        walk_at "s"
        refine st_opt (e_ixS hl (c := q) ((atI_natL l pos2).trans hc2)) ?_
        walk_at "s"
        refine iteY (by simp [hq32]) ?_
        walk_at "s"
        refine st_opt (e_ixS hl (c := q) ((atI_natL l pos2).trans hc2)) ?_
        walk_at "s"
        refine iteY (by simp; exact h1) ?_
        walk_at "s"
        refine ⟨⟨p, _, rfl, hP⟩, ?_⟩
        walk_at "s"
        refine ⟨dx, l, f, r3, t3, r4, pos2, ha, hl, hdr, h2, fun pos3 hp3 hp3l => ?_⟩
        refine st_opt (lstM_at (updP_at hpa hP)) ?_
        refine ⟨by show (ps.map Wv.str).length < 1000000; rw [List.length_map]; omega, ?_⟩
        have e1 := drop_len hp3 hp3l
        have e2 := h2.len
        have e3 := drop_len hdr hple
        simp only [List.length_cons] at e3
        exact step t3 r4 pos3 _ _ (updP_at (Ne.symm hpa) updP_same) (by rw [updP_same, List.map_append]; rfl) (SubP.new (delP_none hp) (SubP.delU sub)) hp3 ⟨t4, h3, rfl⟩ (by omega) hp3l
end Fc
namespace Fc
open PySem PySem.Spec PyProof.Rows L2
local macro_rules | `(tactic| walk_at "s") => `(tactic| repeat (first
  | refine st_opt rfl ?_
  | refine st_opt (e_len (by first | assumption | omega)) ?_
  | refine st_opt (e_addS (by first | decide | omega | (simp; done) | (simp; omega))) ?_
  | refine st_opt (fldW_at (by first | assumption | exact updP_same) rfl) ?_
  | refine st_opt (insOf_at (by first | assumption | exact updP_same)) ?_
  | refine st_ble rfl ?_
  | refine st_blt rfl ?_
  | refine st_eqr ?_))
def s_Splitter_run (K : PySem.W.Frag) : WSp := fun ws P Po => match ws with
  | [.r a] => ∃ dx l f ts, P a = some (splO K dx l 0 f) ∧ P f = some (.lst []) ∧ a ≠ f ∧ l.length ≤ 1000 ∧ LL l ts ∧ Po (.lst (ts.map .str)) (delP (delP P a) f)
  | _ => False
def RnI (K : PySem.W.Frag) (Ps : Pst) (a dx : Addr) (l : List Nat) (f : Addr) (ts : List (List Nat)) (G : Env) (P : Pst) : Prop := ∃ (pos : Nat) (r : List Nat) (t1 t2 : List (List Nat)), G = [some (.r a)] ∧ P a = some (splO K dx l pos f) ∧ P f = some (.lst (t1.map .str)) ∧
  SubP (delP (delP Ps a) f) P ∧ l.drop pos = r ∧ LL r t2 ∧ ts = t1 ++ t2 ∧ t1.length ≤ pos ∧ pos ≤ l.length
theorem SubP.delDel {Ps : Pst} {a f : Addr} : SubP (delP (delP Ps a) f) Ps := fun b so e => SubP.del b so (SubP.del b so e)
theorem SubP.delU2 {Ps P2 : Pst} {a f : Addr} {o : SO} (h : SubP (delP (delP Ps a) f) P2) : SubP (delP (delP Ps a) f) (updP P2 a o) := fun b so e => by
  have q : b ≠ a := fun z => by
    subst z
    have := SubP.del b so e
    unfold delP at this
    rw [if_pos rfl] at this
    cases this
  rw [updP_ne q]
  exact h b so e
theorem sc_Splitter_run : FnScope ["self"] ["self"] (defScope x_Splitter_run) := ⟨rfl, rfl, rfl, by decide +kernel, rfl, by decide +kernel, by decide +kernel⟩
theorem cl_Splitter_run {P : Program} {w : World} {K : PySem.W.Frag} {mg : Str → Option Value} {base : Heap} (T : Txt K mg) (G_Splitter_read_token : Mt P w K mg base 3 (He.ga K "Splitter") "read_token" (s_Splitter_read_token K)) : Mt P w K mg base 4 (He.ga K "Splitter") "run" (s_Splitter_run K) := by
  obtain ⟨fd, F⟩ := T.d_Splitter_run
  refine mt_of F T.c_Splitter T.m_Splitter_run sc_Splitter_run (fun ws Ps Po h => ?len) (fun _ _ _ _ _ _ us hl => match us, hl with | [_], _ => rfl) (fun cdv A outer sh H E hr => ⟨_, _,
      (pss_cons (ps_while PassesOwn.never (pt_cmpR op_lt (pe_fld (pv 0) rfl) (pe_callB call_lenQ (by rfl) T.f_len boot_len (pa_cons (pe_fld (pv 0) rfl) pa_nil)) (nomark _))
      (pss_one (ps_if (pt_cmpR op_eq (pe_ix ix_seq (pe_fld (pv 0) rfl) (pe_fld (pv 0) rfl) (fun _ _ => rfl)) (pe_gs (by rfl) T.s_SPACE) (nomark _))
      (pss_one (ps_fldaug (pv 0) pe_int in_add))
      (pss_one (ps_expr (pe_bm PySem.F.plainAttrs_list PySem.F.slot_list_append PySem.F.type_list_append mt_append (pe_fld (pv 0) rfl) (pa_cons (pe_mtd0 G_Splitter_read_token hr (by decide) (pv 0)) pa_nil)))))))
      (pss_one (ps_ret (pe_fld (pv 0) rfl)))),
      (ds_seq (ds_while (dt_test (de_op rd_lt (de_fld (He.ga K "Splitter") 1 T.c_Splitter T.n_Splitter_position (de_var 0)) (de_cb rd_len (da_cons (de_fld (He.ga K "Splitter") 0 T.c_Splitter T.n_Splitter_line (de_var 0)) da_nil))))
      (ds_if (dt_test (de_op rd_eq (de_op rd_ix (de_fld (He.ga K "Splitter") 0 T.c_Splitter T.n_Splitter_line (de_var 0)) (de_fld (He.ga K "Splitter") 1 T.c_Splitter T.n_Splitter_position (de_var 0))) (de_str k3)))
      (ds_fldaug (He.ga K "Splitter") 1 T.c_Splitter T.n_Splitter_position rd_augI (de_var 0) (de_int 1))
      (ds_drop (de_app (de_fld (He.ga K "Splitter") 2 T.c_Splitter T.n_Splitter_found (de_var 0)) (de_meth (de_var 0) da_nil)))))
      (ds_ret (de_pub (de_fld (He.ga K "Splitter") 2 T.c_Splitter T.n_Splitter_found (de_var 0))))), fun ws Ps Po h => ?body⟩)
  case len =>
    unfold s_Splitter_run at h
    split at h
    · rfl
    · exact h.elim
  case body =>
    unfold s_Splitter_run at h
    split at h
    rotate_left
    · exact h.elim
    rename_i a
    obtain ⟨dx, l, f, ts, ha, hf, haf, hl, hq, h⟩ := h
    refine while_I (RnI K Ps a dx l f ts) (fun _ P => mPos l a P) ?_ ?_
    · exact ⟨0, l, [], ts, rfl, ha, hf, SubP.delDel, rfl, hq, rfl, Nat.le_refl _, Nat.zero_le _⟩
    · rintro G2 P2 ⟨pos2, r2, t1, t2, rfl, ha, hf, sub, hdr, hqq, et, hps, hple⟩
      have hm := mPos_at ha
      unfold splO at ha
      cases hqq with
      | nil =>
        have := drop_len hdr hple
        simp at this
        walk_at "s"
        refine iteN (decide_eq_false (by omega)) ?_
        walk_at "s"
        refine st_pub hf ?_
        have e : ts = t1 := by rw [et]; simp
        rw [← e]
        refine fin_sub (SubP.delR sub ?_) h
        unfold delP
        rw [if_pos rfl]
      | sp h1 =>
        rename_i r3
        obtain ⟨hlt2, hc2, hd2⟩ := drop_cons hdr
        walk_at "s"
        refine iteY (decide_eq_true (by omega)) ?_
        walk_at "s"
        refine st_opt (e_ixS hl (c := 32) ((atI_natL l pos2).trans hc2)) ?_
        walk_at "s"
        refine ⟨⟨pos2 + 1, r3, t1, t2, rfl, updP_same, updP_at (Ne.symm haf) hf, SubP.delU2 sub, hd2, h1, et, by omega, by omega⟩, ?_⟩
        show mPos l a (updP P2 a (splO K dx l (pos2 + 1) f)) < _
        rw [mPos_at updP_same, hm]
        omega
      | tok h1 h2 h3 =>
        rename_i c r3 t r4 ts2
        obtain ⟨hlt2, hc2, hd2⟩ := drop_cons hdr
        walk_at "s"
        refine iteY (decide_eq_true (by omega)) ?_
        walk_at "s"
        refine st_opt (e_ixS hl (c := c) ((atI_natL l pos2).trans hc2)) ?_
        walk_at "s"
        refine iteN (by simp [h1]) ?_
        walk_at "s"
        refine ⟨⟨f, _, rfl, hf⟩, ?_⟩
        walk_at "s"
        refine ⟨dx, l, f, _, t, r4, pos2, ha, hl, hple, hdr, h2, fun pos3 hp3 hp3l => ?_⟩
        refine st_opt (lstM_at (updP_at (Ne.symm haf) hf)) ?_
        refine ⟨by show (t1.map Wv.str).length < 1000000; rw [List.length_map]; omega, ?_⟩
        have e1 := drop_len hp3 hp3l
        have e2 := LO.lt h1 h2
        have e3 := drop_len hdr hple
        simp only [List.length_cons] at e3
        refine ⟨⟨pos3, r4, t1 ++ [t], ts2, rfl, updP_at haf updP_same, by rw [updP_same, List.map_append]; rfl, ?_, hp3, h3, by rw [et]; simp, by rw [List.length_append]; simp; omega, hp3l⟩, ?_⟩
        · exact SubP.delU (SubP.delU2 sub)
        · rw [mPos_at (updP_at haf updP_same), hm]
          omega
def s_split_line (_ : PySem.W.Frag) : WSp := fun ws P Po => match ws with
  | [.str x] => ∃ ts, TokOk x ∧ LL x ts ∧ Po (.lst (ts.map .str)) P
  | _ => False
theorem sc_split_line : FnScope ["line"] ["line"] (defScope x_split_line) := ⟨rfl, rfl, rfl, by decide +kernel, rfl, by decide +kernel, by decide +kernel⟩
theorem cl_split_line {P : Program} {w : World} {K : PySem.W.Frag} {mg : Str → Option Value} {base : Heap} (T : Txt K mg) (G_check_line : Cl P w K mg base 1 "check_line" (s_check_line K)) (G_Splitter_run : Mt P w K mg base 4 (He.ga K "Splitter") "run" (s_Splitter_run K)) (G_Splitter___init__ : Mq P w K mg base 1 "Splitter" (He.ga K "Splitter") (s_Splitter___init__ K)) : Cl P w K mg base 5 "split_line" (s_split_line K) := by
  obtain ⟨fd, F⟩ := T.d_split_line
  refine cl_of F T.g_split_line sc_split_line (fun ws Ps Po h => ?len) (fun _ _ _ _ _ _ us hl => match us, hl with | [_], _ => rfl) (fun cdv A outer sh H E hr => ⟨_, _,
      (pss_cons (ps_expr (pe_cl G_check_line hr (by decide) (by rfl) (pa_cons (pv 0) pa_nil)))
      (pss_one (ps_ret (pe_mtd0 G_Splitter_run hr (by decide) (pe_mq G_Splitter___init__ hr (by decide) (by rfl) (pa_cons (pv 0) pa_nil)))))),
      (ds_seq (ds_drop (de_call (da_cons (de_var 0) da_nil)))
      (ds_ret (de_meth (de_make (da_cons (de_var 0) da_nil)) da_nil))), fun ws Ps Po h => ?body⟩)
  case len =>
    unfold s_split_line at h
    split at h
    · rfl
    · exact h.elim
  case body =>
    unfold s_split_line at h
    split at h
    rotate_left
    · exact h.elim
    rename_i x
    obtain ⟨ts, hx, hq, h⟩ := h
    have hl := hx.1
    walk_at "s"
    refine ⟨hx, ?_⟩
    walk_at "s"
    intro a dx ha
    refine ⟨dx, updP_same, fun f hf => ⟨rfl, ?_⟩⟩
    obtain ⟨hfa, hf⟩ := updP_none hf
    refine st_opt (insOf_at (updP_at (Ne.symm hfa) updP_same)) ?_
    refine ⟨dx, x, f, ts, updP_at (Ne.symm hfa) updP_same, updP_same, Ne.symm hfa, by omega, hq, ?_⟩
    refine fin_sub ?_ h
    refine SubP.delR (SubP.delR (SubP.new hf (SubP.new ha (SubP.new ha (SubP.refl _)))) ha) hf
end Fc
namespace Fc
open PySem PySem.Spec PyProof.Rows L2
local macro_rules | `(tactic| walk_at "s") => `(tactic| repeat (first
  | refine st_opt rfl ?_
  | refine st_opt (e_len (by first | assumption | omega)) ?_
  | refine st_opt (e_addS (by first | decide | omega | (simp; done) | (simp; omega))) ?_
  | refine st_opt (fldW_at (by first | assumption | exact updP_same) rfl) ?_
  | refine st_opt (insOf_at (by first | assumption | exact updP_same)) ?_
  | refine st_ble rfl ?_
  | refine st_blt rfl ?_
  | refine st_eqr ?_))
def s_better (_ : PySem.W.Frag) : WSp := fun ws P Po => match ws with
  | [.lst ws] => ∃ os : List (List Nat), ws = os.map .str ∧ os ≠ [] ∧ os.length ≤ 1000 ∧ (∀ o ∈ os, o.length ≤ 1000) ∧ Po (.str (bestL os)) P
  | _ => False
theorem sc_better : FnScope ["options", "option"] ["options"] (defScope x_better) := ⟨rfl, rfl, rfl, by decide +kernel, rfl, by decide +kernel, by decide +kernel⟩
theorem cl_better {P : Program} {w : World} {K : PySem.W.Frag} {mg : Str → Option Value} {base : Heap} (T : Txt K mg)  : Cl P w K mg base 1 "better" (s_better K) := by
  obtain ⟨fd, F⟩ := T.d_better
  refine cl_of F T.g_better sc_better (fun ws Ps Po h => ?len) (fun _ _ _ _ _ _ us hl => match us, hl with | [_], _ => rfl) (fun cdv A outer sh H E hr => ⟨_, _,
      (pss_one (ps_ret (pe_ix ix_seq (pe_callB (call_minD hr) (by rfl) T.f_min (by decide +kernel) (pa_cons (pe_lc (own := [("option", 1)]) rfl sc_better.nd (pi_list (pv 0)) (blkOk_by (own := [("option", 1)]) (N := ["options", "option"]) (sc := defScope x_better) (by decide +kernel)) (fun _ _ _ _ _ => (pg_name (i := 1) sc_better.nd rfl (by first | exact Or.inl rfl | exact Or.inr rfl))) (fun _ _ _ _ _ => pts_nil) (fun _ _ _ _ _ => (pe_tup (pa_cons (pe_callB call_lenQ (by rfl) T.f_len boot_len (pa_cons (pv 1) pa_nil)) (pa_cons (pv 1) pa_nil))))) pa_nil)) pe_int (fun _ _ => rfl)))),
      (ds_ret (de_op rd_ix (de_cb rd_minD (da_cons (de_lc (di_list (de_var 0)) (dg_name 1) dt_yes (de_tup (da_cons (de_cb rd_len (da_cons (de_var 1) da_nil)) (da_cons (de_var 1) da_nil))) (by decide)) da_nil)) (de_int 1))), fun ws Ps Po h => ?body⟩)
  case len =>
    unfold s_better at h
    split at h
    · rfl
    · exact h.elim
  case body =>
    unfold s_better at h
    split at h
    rotate_left
    · exact h.elim
    obtain ⟨os, rfl, hne, hl, ho, h⟩ := h
    walk_at "s"
    refine lc_map (fun w => match w with | .str x => prW (lenP x) | _ => w) ?_ ?_ (fun i w acc hw I => ?_) ?_
    · trivial
    · rw [List.length_map]; omega
    · obtain ⟨x, _, hx, rfl⟩ := map_get hw
      have := ho x hx
      walk_at "s"
      exact wx_yes hw I rfl rfl
    · cases os with
      | nil => exact absurd rfl hne
      | cons o r =>
        have e : fMM false Ps [.lst ((List.map Wv.str (o :: r)).map fun w => match w with | .str x => prW (lenP x) | _ => w)] = some (prW (minP (lenP o) (r.map lenP))) := by
          unfold fMM f1
          simp only
          have e2 : lstP Ps (.lst ((List.map Wv.str (o :: r)).map fun w => match w with | .str x => prW (lenP x) | _ => w)) = some (((o :: r).map lenP).map prW) := by
            rw [List.map_map, List.map_map]
            rfl
          rw [e2, Option.bind_some, prsOf_map]
          rfl
        refine st_opt e ?_
        walk_at "s"
        exact fin_here h
def QtI (x : List Nat) (Ps : Pst) (i : Nat) (G : Env) (P : Pst) : Prop := SubP Ps P ∧ ∃ y4 y5 y6 y7 y8 y9, G = [some (.str x), some (.str (dp (x.drop (x.length - i))).1), some (.str (dp (x.drop (x.length - i))).2.1), some (.str (dp (x.drop (x.length - i))).2.2), y4, y5, y6, y7, y8, y9]
def s_quote_token (_ : PySem.W.Frag) : WSp := fun ws P Po => match ws with
  | [.str x] => x.length ≤ 300 ∧ Po (.str (quoteW x)) P
  | _ => False
theorem sc_quote_token : FnScope ["token", "plain", "single", "double", "character", "escaped", "in_double", "in_single", "outside", "rest"] ["token"] (defScope x_quote_token) := ⟨rfl, rfl, rfl, by decide +kernel, rfl, by decide +kernel, by decide +kernel⟩
theorem cl_quote_token {P : Program} {w : World} {K : PySem.W.Frag} {mg : Str → Option Value} {base : Heap} (T : Txt K mg) (G_better : Cl P w K mg base 1 "better" (s_better K)) : Cl P w K mg base 2 "quote_token" (s_quote_token K) := by
  obtain ⟨fd, F⟩ := T.d_quote_token
  refine cl_of F T.g_quote_token sc_quote_token (fun ws Ps Po h => ?len) (fun _ _ _ _ _ _ us hl => match us, hl with | [_], _ => rfl) (fun cdv A outer sh H E hr => ⟨_, _,
      (pss_cons (ps_if (pt_cmpR op_eq (pv 0) pe_str (nomark _))
      (pss_one (ps_ret (pe_op op_addStr (pe_gs (by rfl) T.s_DOUBLE) (pe_gs (by rfl) T.s_DOUBLE))))
      pss_nil)
      (pss_cons (ps_par3 (i := 1) (j := 2) (l := 3) rfl sc_quote_token.nd rfl rfl rfl (by decide) (by decide) (by decide) rfl rfl rfl (pa_cons pe_str (pa_cons (pe_gs (by rfl) T.s_SINGLE) (pa_cons (pe_gs (by rfl) T.s_DOUBLE) pa_nil))) (by rfl))
      (pss_cons (ps_for PassesOwn.never rfl (pi_str (pe_revS (pv 0))) (pg_name (i := 4) sc_quote_token.nd rfl (by first | exact Or.inl rfl | exact Or.inr rfl))
      (pss_cons (ps_set (i := 5) sc_quote_token.nd rfl (by first | exact Or.inl rfl | exact Or.inr rfl) (pe_op op_addStr (pe_gs (by rfl) T.s_BACKSLASH) (pv 4)))
      (pss_cons (ps_set (i := 6) sc_quote_token.nd rfl (by first | exact Or.inl rfl | exact Or.inr rfl) (pe_op op_cat (pe_lst (pa_cons (pe_op op_addStr (pv 5) (pv 3)) pa_nil)) (pe_ifExp (pt_cmpR op_notIn_seq (pv 4) (pe_tup (pa_cons (pe_gs (by rfl) T.s_DOUBLE) (pa_cons (pe_gs (by rfl) T.s_BACKSLASH) pa_nil))) (by first | exact nomark _ | rfl)) (pe_lst (pa_cons (pe_op op_addStr (pv 4) (pv 3)) pa_nil)) (pe_lst pa_nil))))
      (pss_cons (ps_set (i := 7) sc_quote_token.nd rfl (by first | exact Or.inl rfl | exact Or.inr rfl) (pe_ifExp (pt_cmpR op_ne (pv 4) (pe_gs (by rfl) T.s_SINGLE) (nomark _)) (pe_lst (pa_cons (pe_op op_addStr (pv 4) (pv 2)) pa_nil)) (pe_lst pa_nil)))
      (pss_cons (ps_set (i := 8) sc_quote_token.nd rfl (by first | exact Or.inl rfl | exact Or.inr rfl) (pe_lst (pa_cons (pe_op op_addStr (pv 5) (pv 1)) pa_nil)))
      (pss_cons (ps_if (pt_cmpR op_notIn_seq (pv 4) (pe_tup (pa_cons (pe_gs (by rfl) T.s_SPACE) (pa_cons (pe_gs (by rfl) T.s_SINGLE) (pa_cons (pe_gs (by rfl) T.s_DOUBLE) (pa_cons (pe_gs (by rfl) T.s_BACKSLASH) pa_nil))))) (by first | exact nomark _ | rfl))
      (pss_one (ps_expr (pe_bm PySem.F.plainAttrs_list PySem.F.slot_list_append PySem.F.type_list_append mt_append (pv 8) (pa_cons (pe_op op_addStr (pv 4) (pv 1)) pa_nil))))
      pss_nil)
      (pss_cons (ps_expr (pe_bm PySem.F.plainAttrs_list PySem.F.slot_list_extend PySem.F.type_list_extend mt_extend (pv 8) (pa_cons (pe_op op_cat (pe_lc (own := [("rest", 9)]) rfl sc_quote_token.nd (pi_list (pv 7)) (blkOk_by (own := [("rest", 9)]) (N := ["token", "plain", "single", "double", "character", "escaped", "in_double", "in_single", "outside", "rest"]) (sc := defScope x_quote_token) (by decide +kernel)) (fun _ _ _ _ _ => (pg_name (i := 9) sc_quote_token.nd rfl (by first | exact Or.inl rfl | exact Or.inr rfl))) (fun _ _ _ _ _ => pts_nil) (fun _ _ _ _ _ => (pe_op op_addStr (pe_gs (by rfl) T.s_SINGLE) (pv 9)))) (pe_lc (own := [("rest", 9)]) rfl sc_quote_token.nd (pi_list (pv 6)) (blkOk_by (own := [("rest", 9)]) (N := ["token", "plain", "single", "double", "character", "escaped", "in_double", "in_single", "outside", "rest"]) (sc := defScope x_quote_token) (by decide +kernel)) (fun _ _ _ _ _ => (pg_name (i := 9) sc_quote_token.nd rfl (by first | exact Or.inl rfl | exact Or.inr rfl))) (fun _ _ _ _ _ => pts_nil) (fun _ _ _ _ _ => (pe_op op_addStr (pe_gs (by rfl) T.s_DOUBLE) (pv 9))))) pa_nil)))
      (pss_cons (ps_set (i := 1) sc_quote_token.nd rfl (by first | exact Or.inl rfl | exact Or.inr rfl) (pe_cl G_better hr (by decide) (by rfl) (pa_cons (pv 8) pa_nil)))
      (pss_cons (ps_set (i := 2) sc_quote_token.nd rfl (by first | exact Or.inl rfl | exact Or.inr rfl) (pe_cl G_better hr (by decide) (by rfl) (pa_cons (pe_op op_cat (pv 7) (pe_lst (pa_cons (pe_op op_addStr (pe_gs (by rfl) T.s_SINGLE) (pv 1)) pa_nil))) pa_nil)))
      (pss_one (ps_set (i := 3) sc_quote_token.nd rfl (by first | exact Or.inl rfl | exact Or.inr rfl) (pe_cl G_better hr (by decide) (by rfl) (pa_cons (pe_op op_cat (pv 6) (pe_lst (pa_cons (pe_op op_addStr (pe_gs (by rfl) T.s_DOUBLE) (pv 1)) pa_nil))) pa_nil)))))))))))))
      (pss_one (ps_ret (pv 1)))))),
      (ds_seq (ds_if (dt_test (de_op rd_eq (de_var 0) (de_str k14)))
      (ds_ret (de_op rd_addStr (de_str k5) (de_str k5)))
      ds_next)
      (ds_seq (ds_par3 (i := 1) (j := 2) (l := 3) (da_cons (de_str k14) (da_cons (de_str k4) (da_cons (de_str k5) da_nil))))
      (ds_seq (ds_for (di_str (de_revS (de_var 0))) (dg_name 4)
      (ds_seq (ds_asg (de_op rd_addStr (de_str k6) (de_var 4)) (dg_name 5))
      (ds_seq (ds_asg (de_op rd_cat (de_lst (da_cons (de_op rd_addStr (de_var 5) (de_var 3)) da_nil)) (de_if (dt_test (de_op (rd_in (n := true)) (de_var 4) (de_tup (da_cons (de_str k5) (da_cons (de_str k6) da_nil))))) (de_lst (da_cons (de_op rd_addStr (de_var 4) (de_var 3)) da_nil)) (de_lst da_nil))) (dg_name 6))
      (ds_seq (ds_asg (de_if (dt_test (de_op rd_ne (de_var 4) (de_str k4))) (de_lst (da_cons (de_op rd_addStr (de_var 4) (de_var 2)) da_nil)) (de_lst da_nil)) (dg_name 7))
      (ds_seq (ds_asg (de_lstN (da_cons (de_op rd_addStr (de_var 5) (de_var 1)) da_nil)) (dg_name 8))
      (ds_seq (ds_if (dt_test (de_op (rd_in (n := true)) (de_var 4) (de_tup (da_cons (de_str k3) (da_cons (de_str k4) (da_cons (de_str k5) (da_cons (de_str k6) da_nil)))))))
      (ds_drop (de_app (de_var 8) (de_op rd_addStr (de_var 4) (de_var 1))))
      ds_next)
      (ds_seq (ds_drop (de_ext (de_var 8) (de_op rd_cat (de_lc (di_list (de_var 7)) (dg_name 9) dt_yes (de_op rd_addStr (de_str k4) (de_var 9)) (by decide)) (de_lc (di_list (de_var 6)) (dg_name 9) dt_yes (de_op rd_addStr (de_str k5) (de_var 9)) (by decide)))))
      (ds_seq (ds_asg (de_call (da_cons (de_pub (de_var 8)) da_nil)) (dg_name 1))
      (ds_seq (ds_asg (de_call (da_cons (de_op rd_cat (de_var 7) (de_lst (da_cons (de_op rd_addStr (de_str k4) (de_var 1)) da_nil))) da_nil)) (dg_name 2))
      (ds_asg (de_call (da_cons (de_op rd_cat (de_var 6) (de_lst (da_cons (de_op rd_addStr (de_str k5) (de_var 1)) da_nil))) da_nil)) (dg_name 3)))))))))))
      (ds_ret (de_var 1))))), fun ws Ps Po h => ?body⟩)
  case len =>
    unfold s_quote_token at h
    split at h
    · rfl
    · exact h.elim
  case body =>
    unfold s_quote_token at h
    split at h
    rotate_left
    · exact h.elim
    rename_i x
    obtain ⟨hl, h⟩ := h
    walk_at "s"
    by_cases hx : x = []
    · refine iteY (by simp [hx]) ?_
      walk_at "s"
      refine fin_here ?_
      unfold quoteW at h
      rw [if_pos hx] at h
      exact h
    · refine iteN (by simp [hx]) ?_
      walk_at "s"
      refine ⟨by omega, ?_⟩
      refine for_I (QtI x Ps) ?_ (fun _ _ _ _ => trivial) ?_ ?_
      · refine ⟨SubP.refl _, none, none, none, none, none, none, ?_⟩
        rw [Nat.sub_zero, List.drop_length]
        rfl
      · rintro i w G2 P2 hw ⟨sub, y4, y5, y6, y7, y8, y9, rfl⟩
        obtain ⟨c, hc, hm, rfl⟩ := sgnW_get hw
        have hi : i < x.length := by
          have := (List.getElem?_eq_some_iff.mp hc).1
          rw [List.length_reverse] at this
          exact this
        have hdr : x.drop (x.length - (i + 1)) = c :: x.drop (x.length - i) := by
          rw [List.getElem?_reverse hi] at hc
          have e : x.length - 1 - i = x.length - (i + 1) := by omega
          rw [e] at hc
          obtain ⟨h1, h2⟩ := List.getElem?_eq_some_iff.mp hc
          rw [List.drop_eq_getElem_cons h1, h2]
          congr 2
          omega
        have hfin : ∀ (P3 : Pst) (z4 z5 z6 z7 z8 z9 : Option Wv), SubP Ps P3 → QtI x Ps (i + 1) [some (.str x), some (.str (dpS c (dp (x.drop (x.length - i)))).1), some (.str (dpS c (dp (x.drop (x.length - i)))).2.1), some (.str (dpS c (dp (x.drop (x.length - i)))).2.2), z4, z5, z6, z7, z8, z9] P3 := by
          intro P3 z4 z5 z6 z7 z8 z9 h1
          refine ⟨h1, z4, z5, z6, z7, z8, z9, ?_⟩
          rw [hdr]
          rfl
        have hlen := dp_len (x.drop (x.length - i))
        have hlen2 := dp_len (c :: x.drop (x.length - i))
        rw [List.length_drop] at hlen
        rw [List.length_cons, List.length_drop] at hlen2
        change (dpS c (dp (x.drop (x.length - i)))).1.length ≤ _ ∧ (dpS c (dp (x.drop (x.length - i)))).2.1.length ≤ _ ∧ (dpS c (dp (x.drop (x.length - i)))).2.2.length ≤ _ at hlen2
        generalize dp (x.drop (x.length - i)) = s3 at hlen hlen2 hfin ⊢
        obtain ⟨pl, sg, db⟩ := s3
        have hl1 : pl.length ≤ 600 := by have := hlen.1; simp only at this; omega
        have hl2 : sg.length ≤ 601 := by have := hlen.2.1; simp only at this; omega
        have hl3 : db.length ≤ 601 := by have := hlen.2.2; simp only at this; omega
        have hp1 : (dpS c (pl, sg, db)).1.length ≤ 600 := by have := hlen2.1; omega
        have e1 : (dpS c (pl, sg, db)).1 = bestL (outS c pl sg db) := rfl
        have e2 : (dpS c (pl, sg, db)).2.1 = bestL (inS c sg ++ [[39] ++ (dpS c (pl, sg, db)).1]) := rfl
        have e3 : (dpS c (pl, sg, db)).2.2 = bestL (inD c db ++ [[34] ++ (dpS c (pl, sg, db)).1]) := rfl
        generalize (dpS c (pl, sg, db)).1 = np at hp1 e1 e2 e3 hfin
        generalize (dpS c (pl, sg, db)).2.1 = ns at e2 hfin
        generalize (dpS c (pl, sg, db)).2.2 = nd at e3 hfin
        walk_at "s"
        have cls : c = 34 ∨ c = 92 ∨ c = 39 ∨ c = 32 ∨ (c ≠ 34 ∧ c ≠ 92 ∧ c ≠ 39 ∧ c ≠ 32) := by omega
        rcases cls with rfl | rfl | rfl | rfl | ⟨n34, n92, n39, n32⟩
        · walk_at "s"
          intro p hp
          have hps : Ps p = none := sub.free hp
          walk_at "s"
          refine ⟨⟨p, _, rfl, updP_same⟩, ?_⟩
          walk_at "s"
          refine lc_map (fun w => match w with | .str y => .str ([39] ++ y) | _ => w) trivial (show List.length _ < 100000 by simp) (fun i w acc hw I => ?_) ?_
          · obtain ⟨y, _, hy, rfl⟩ := map_get (f := Wv.str) (l := inS 34 sg) (h := by first | exact hw | (rw [show inS 34 sg = [[34] ++ sg] by simp [inS, n39]]; exact hw))
            have hyl : y.length ≤ 602 := inS_len hl2 hy
            walk_at "s"
            exact wx_yes hw I rfl rfl
          walk_at "s"
          refine lc_map (fun w => match w with | .str y => .str ([34] ++ y) | _ => w) trivial (show List.length _ < 100000 by simp) (fun i w acc hw I => ?_) ?_
          · obtain ⟨y, _, hy, rfl⟩ := map_get (f := Wv.str) (l := inD 34 db) (h := by first | exact hw | (rw [show inD 34 db = [[92, 34] ++ db, [34] ++ db] by simp [inD, n34, n92]]; exact hw))
            have hyl : y.length ≤ 603 := inD_len hl3 hy
            walk_at "s"
            exact wx_yes hw I rfl rfl
          walk_at "s"
          refine st_opt (lstM_at updP_same) ?_
          walk_at "s"
          refine st_pub updP_same ?_
          refine ⟨outS 34 pl sg db, (by first | rfl | (simp [outS, inS, inD])), ?_⟩
          refine ⟨by unfold outS; simp, Nat.le_trans (outS_cnt 34 pl sg db) (by decide), outS_all hl1 hl2 hl3, ?_⟩
          rw [← e1]
          walk_at "s"
          refine ⟨inS 34 sg ++ [[39] ++ np], (by first | rfl | (simp [inS])), ?_⟩
          refine ⟨by simp, inS_cnt, inS_all hl2 hp1, ?_⟩
          rw [← e2]
          walk_at "s"
          refine ⟨inD 34 db ++ [[34] ++ np], (by first | rfl | (simp [inD])), ?_⟩
          refine ⟨by simp, inD_cnt, inD_all hl3 hp1, ?_⟩
          rw [← e3]
          exact hfin _ _ _ _ _ _ _ (SubP.delR (SubP.new hps (SubP.new hps sub)) hps)
        · walk_at "s"
          intro p hp
          have hps : Ps p = none := sub.free hp
          walk_at "s"
          refine ⟨⟨p, _, rfl, updP_same⟩, ?_⟩
          walk_at "s"
          refine lc_map (fun w => match w with | .str y => .str ([39] ++ y) | _ => w) trivial (show List.length _ < 100000 by simp) (fun i w acc hw I => ?_) ?_
          · obtain ⟨y, _, hy, rfl⟩ := map_get (f := Wv.str) (l := inS 92 sg) (h := by first | exact hw | (rw [show inS 92 sg = [[92] ++ sg] by simp [inS, n39]]; exact hw))
            have hyl : y.length ≤ 602 := inS_len hl2 hy
            walk_at "s"
            exact wx_yes hw I rfl rfl
          walk_at "s"
          refine lc_map (fun w => match w with | .str y => .str ([34] ++ y) | _ => w) trivial (show List.length _ < 100000 by simp) (fun i w acc hw I => ?_) ?_
          · obtain ⟨y, _, hy, rfl⟩ := map_get (f := Wv.str) (l := inD 92 db) (h := by first | exact hw | (rw [show inD 92 db = [[92, 92] ++ db, [92] ++ db] by simp [inD, n34, n92]]; exact hw))
            have hyl : y.length ≤ 603 := inD_len hl3 hy
            walk_at "s"
            exact wx_yes hw I rfl rfl
          walk_at "s"
          refine st_opt (lstM_at updP_same) ?_
          walk_at "s"
          refine st_pub updP_same ?_
          refine ⟨outS 92 pl sg db, (by first | rfl | (simp [outS, inS, inD])), ?_⟩
          refine ⟨by unfold outS; simp, Nat.le_trans (outS_cnt 92 pl sg db) (by decide), outS_all hl1 hl2 hl3, ?_⟩
          rw [← e1]
          walk_at "s"
          refine ⟨inS 92 sg ++ [[39] ++ np], (by first | rfl | (simp [inS])), ?_⟩
          refine ⟨by simp, inS_cnt, inS_all hl2 hp1, ?_⟩
          rw [← e2]
          walk_at "s"
          refine ⟨inD 92 db ++ [[34] ++ np], (by first | rfl | (simp [inD])), ?_⟩
          refine ⟨by simp, inD_cnt, inD_all hl3 hp1, ?_⟩
          rw [← e3]
          exact hfin _ _ _ _ _ _ _ (SubP.delR (SubP.new hps (SubP.new hps sub)) hps)
        · walk_at "s"
          intro p hp
          have hps : Ps p = none := sub.free hp
          walk_at "s"
          refine ⟨⟨p, _, rfl, updP_same⟩, ?_⟩
          walk_at "s"
          refine lc_map (fun w => match w with | .str y => .str ([39] ++ y) | _ => w) trivial (show List.length _ < 100000 by simp) (fun i w acc hw I => ?_) ?_
          · obtain ⟨y, _, hy, rfl⟩ := map_get (f := Wv.str) (l := inS 39 sg) (h := by first | exact hw | (rw [show inS 39 sg = [[39] ++ sg] by simp [inS, n39]]; exact hw))
            have hyl : y.length ≤ 602 := inS_len hl2 hy
            walk_at "s"
            exact wx_yes hw I rfl rfl
          walk_at "s"
          refine lc_map (fun w => match w with | .str y => .str ([34] ++ y) | _ => w) trivial (show List.length _ < 100000 by simp) (fun i w acc hw I => ?_) ?_
          · obtain ⟨y, _, hy, rfl⟩ := map_get (f := Wv.str) (l := inD 39 db) (h := by first | exact hw | (rw [show inD 39 db = [[92, 39] ++ db, [39] ++ db] by simp [inD, n34, n92]]; exact hw))
            have hyl : y.length ≤ 603 := inD_len hl3 hy
            walk_at "s"
            exact wx_yes hw I rfl rfl
          walk_at "s"
          refine st_opt (lstM_at updP_same) ?_
          walk_at "s"
          refine st_pub updP_same ?_
          refine ⟨outS 39 pl sg db, (by first | rfl | (simp [outS, inS, inD])), ?_⟩
          refine ⟨by unfold outS; simp, Nat.le_trans (outS_cnt 39 pl sg db) (by decide), outS_all hl1 hl2 hl3, ?_⟩
          rw [← e1]
          walk_at "s"
          refine ⟨inS 39 sg ++ [[39] ++ np], (by first | rfl | (simp [inS])), ?_⟩
          refine ⟨by simp, inS_cnt, inS_all hl2 hp1, ?_⟩
          rw [← e2]
          walk_at "s"
          refine ⟨inD 39 db ++ [[34] ++ np], (by first | rfl | (simp [inD])), ?_⟩
          refine ⟨by simp, inD_cnt, inD_all hl3 hp1, ?_⟩
          rw [← e3]
          exact hfin _ _ _ _ _ _ _ (SubP.delR (SubP.new hps (SubP.new hps sub)) hps)
        · walk_at "s"
          intro p hp
          have hps : Ps p = none := sub.free hp
          walk_at "s"
          refine ⟨⟨p, _, rfl, updP_same⟩, ?_⟩
          walk_at "s"
          refine lc_map (fun w => match w with | .str y => .str ([39] ++ y) | _ => w) trivial (show List.length _ < 100000 by simp) (fun i w acc hw I => ?_) ?_
          · obtain ⟨y, _, hy, rfl⟩ := map_get (f := Wv.str) (l := inS 32 sg) (h := by first | exact hw | (rw [show inS 32 sg = [[32] ++ sg] by simp [inS, n39]]; exact hw))
            have hyl : y.length ≤ 602 := inS_len hl2 hy
            walk_at "s"
            exact wx_yes hw I rfl rfl
          walk_at "s"
          refine lc_map (fun w => match w with | .str y => .str ([34] ++ y) | _ => w) trivial (show List.length _ < 100000 by simp) (fun i w acc hw I => ?_) ?_
          · obtain ⟨y, _, hy, rfl⟩ := map_get (f := Wv.str) (l := inD 32 db) (h := by first | exact hw | (rw [show inD 32 db = [[92, 32] ++ db, [32] ++ db] by simp [inD, n34, n92]]; exact hw))
            have hyl : y.length ≤ 603 := inD_len hl3 hy
            walk_at "s"
            exact wx_yes hw I rfl rfl
          walk_at "s"
          refine st_opt (lstM_at updP_same) ?_
          walk_at "s"
          refine st_pub updP_same ?_
          refine ⟨outS 32 pl sg db, (by first | rfl | (simp [outS, inS, inD])), ?_⟩
          refine ⟨by unfold outS; simp, Nat.le_trans (outS_cnt 32 pl sg db) (by decide), outS_all hl1 hl2 hl3, ?_⟩
          rw [← e1]
          walk_at "s"
          refine ⟨inS 32 sg ++ [[39] ++ np], (by first | rfl | (simp [inS])), ?_⟩
          refine ⟨by simp, inS_cnt, inS_all hl2 hp1, ?_⟩
          rw [← e2]
          walk_at "s"
          refine ⟨inD 32 db ++ [[34] ++ np], (by first | rfl | (simp [inD])), ?_⟩
          refine ⟨by simp, inD_cnt, inD_all hl3 hp1, ?_⟩
          rw [← e3]
          exact hfin _ _ _ _ _ _ _ (SubP.delR (SubP.new hps (SubP.new hps sub)) hps)
        · walk_at "s"
          refine iteY (by simp [n34, n92]) ?_
          walk_at "s"
          refine iteY (by simp [n39]) ?_
          walk_at "s"
          intro p hp
          have hps : Ps p = none := sub.free hp
          walk_at "s"
          refine iteY (by simp [n34, n92, n39, n32]) ?_
          walk_at "s"
          refine ⟨⟨p, _, rfl, updP_same⟩, ?_⟩
          walk_at "s"
          refine st_opt (lstM_at updP_same) ?_
          walk_at "s"
          refine ⟨⟨p, _, rfl, updP_same⟩, ?_⟩
          walk_at "s"
          refine lc_map (fun w => match w with | .str y => .str ([39] ++ y) | _ => w) trivial (show List.length _ < 100000 by simp) (fun i w acc hw I => ?_) ?_
          · obtain ⟨y, _, hy, rfl⟩ := map_get (f := Wv.str) (l := inS c sg) (h := by first | exact hw | (rw [show inS c sg = [[c] ++ sg] by simp [inS, n39]]; exact hw))
            have hyl : y.length ≤ 602 := inS_len hl2 hy
            walk_at "s"
            exact wx_yes hw I rfl rfl
          walk_at "s"
          refine lc_map (fun w => match w with | .str y => .str ([34] ++ y) | _ => w) trivial (show List.length _ < 100000 by simp) (fun i w acc hw I => ?_) ?_
          · obtain ⟨y, _, hy, rfl⟩ := map_get (f := Wv.str) (l := inD c db) (h := by first | exact hw | (rw [show inD c db = [[92, c] ++ db, [c] ++ db] by simp [inD, n34, n92]]; exact hw))
            have hyl : y.length ≤ 603 := inD_len hl3 hy
            walk_at "s"
            exact wx_yes hw I rfl rfl
          walk_at "s"
          refine st_opt (lstM_at updP_same) ?_
          walk_at "s"
          refine st_pub updP_same ?_
          refine ⟨outS c pl sg db, (by first | rfl | (simp [outS, inS, inD, n34, n92, n39, n32])), ?_⟩
          refine ⟨by unfold outS; simp, Nat.le_trans (outS_cnt c pl sg db) (by decide), outS_all hl1 hl2 hl3, ?_⟩
          rw [← e1]
          walk_at "s"
          refine ⟨inS c sg ++ [[39] ++ np], (by first | rfl | (simp [inS, n34, n92, n39, n32])), ?_⟩
          refine ⟨by simp, inS_cnt, inS_all hl2 hp1, ?_⟩
          rw [← e2]
          walk_at "s"
          refine ⟨inD c db ++ [[34] ++ np], (by first | rfl | (simp [inD, n34, n92, n39, n32])), ?_⟩
          refine ⟨by simp, inD_cnt, inD_all hl3 hp1, ?_⟩
          rw [← e3]
          exact hfin _ _ _ _ _ _ _ (SubP.delR (SubP.new hps (SubP.new hps (SubP.new hps sub))) hps)
      · rintro G2 P2 ⟨sub, y4, y5, y6, y7, y8, y9, rfl⟩
        walk_at "s"
        refine fin_sub sub ?_
        have e : x.drop (x.length - (sgnW x.reverse).length) = x := by
          have : (sgnW x.reverse).length = x.length := by
            show (x.reverse.map _).length = _
            rw [List.length_map, List.length_reverse]
          rw [this, Nat.sub_self]
          rfl
        rw [e]
        unfold quoteW at h
        rw [if_neg hx] at h
        exact h
end Fc
namespace Fc
open PySem PySem.Spec PyProof.Rows L2
local macro_rules | `(tactic| walk_at "s") => `(tactic| repeat (first
  | refine st_opt rfl ?_
  | refine st_opt (e_len (by first | assumption | omega)) ?_
  | refine st_opt (e_addS (by first | decide | omega | (simp; done) | (simp; omega))) ?_
  | refine st_opt (fldW_at (by first | assumption | exact updP_same) rfl) ?_
  | refine st_opt (insOf_at (by first | assumption | exact updP_same)) ?_
  | refine st_ble rfl ?_
  | refine st_blt rfl ?_
  | refine st_eqr ?_))
def s_parse_integer (_ : PySem.W.Frag) : WSp := fun ws P Po => match ws with
  | [.str x] => ∃ i : Int, x = decW i ∧ -9999 ≤ i ∧ i ≤ 9999 ∧ Po (.int i) P
  | _ => False
theorem sc_parse_integer : FnScope ["text", "digits", "digit"] ["text"] (defScope x_parse_integer) := ⟨rfl, rfl, rfl, by decide +kernel, rfl, by decide +kernel, by decide +kernel⟩
theorem cl_parse_integer {P : Program} {w : World} {K : PySem.W.Frag} {mg : Str → Option Value} {base : Heap} (T : Txt K mg)  : Cl P w K mg base 1 "parse_integer" (s_parse_integer K) := by
  obtain ⟨fd, F⟩ := T.d_parse_integer
  refine cl_of F T.g_parse_integer sc_parse_integer (fun ws Ps Po h => ?len) (fun _ _ _ _ _ _ us hl => match us, hl with | [_], _ => rfl) (fun cdv A outer sh H E hr => ⟨_, _,
      (pss_cons (ps_set (i := 1) sc_parse_integer.nd rfl (by first | exact Or.inl rfl | exact Or.inr rfl) (pe_ifExp (pt_cmpR op_eq (pe_slice sl_str (pv 0) po_none (po_some pe_int)) (pe_gs (by rfl) T.s_MINUS) (nomark _)) (pe_slice sl_str (pv 0) (po_some pe_int) po_none) (pv 0)))
      (pss_cons (ps_if (PW.pt (pw_or (pt_not (pt_chain op_le op_le pe_int (pe_callB call_lenQ (by rfl) T.f_len boot_len (pa_cons (pv 1) pa_nil)) (pe_gi (by rfl) T.i_MAX_DIGITS))) (pw_or1 (pt_not (pt_val (pe_callB (cr_all rfl) (by rfl) T.f_all (by decide +kernel) (pa_cons (pe_lc (own := [("digit", 2)]) rfl sc_parse_integer.nd (pi_str (pv 1)) (blkOk_by (own := [("digit", 2)]) (N := ["text", "digits", "digit"]) (sc := defScope x_parse_integer) (by decide +kernel)) (fun _ _ _ _ _ => (pg_name (i := 2) sc_parse_integer.nd rfl (by first | exact Or.inl rfl | exact Or.inr rfl))) (fun _ _ _ _ _ => pts_nil) (fun _ _ _ _ _ => (pe_cmpR op_inS (pv 2) (pe_gs (by rfl) T.s_DIGITS) rfl))) pa_nil)))))))
      (pss_one (ps_ret pe_non))
      pss_nil)
      (pss_cons (ps_if (PW.pt (pw_and (pt_cmpR op_eq (pe_ix ix_seq (pv 1) pe_int (fun _ _ => rfl)) pe_str (nomark _)) (pw_and1 (pt_cmpR op_ne (pv 0) pe_str (nomark _)))))
      (pss_one (ps_ret pe_non))
      pss_nil)
      (pss_one (ps_ret (pe_ifExp (pt_cmpR op_eq (pe_ix ix_seq (pv 0) pe_int (fun _ _ => rfl)) (pe_gs (by rfl) T.s_MINUS) (nomark _)) (pe_un un_neg (pe_callTy call_intQ (by rfl) T.f_int (by decide +kernel) (pa_cons (pv 1) pa_nil))) (pe_callTy call_intQ (by rfl) T.f_int (by decide +kernel) (pa_cons (pv 1) pa_nil)))))))),
      (ds_seq (ds_asg (de_if (dt_test (de_op rd_eq (de_sl rd_slS (de_var 0) do_none (do_some (de_int 1))) (de_str k1))) (de_sl rd_slS (de_var 0) (do_some (de_int 1)) do_none) (de_var 0)) (dg_name 1))
      (ds_seq (ds_if (dt_or (dt_not (dt_test (de_chain rd_le rd_le (de_int 1) (de_cb rd_len (da_cons (de_var 1) da_nil)) (de_int 4)))) (dt_not (dt_B (de_cb rd_all (da_cons (de_lc (di_str (de_var 1)) (dg_name 2) dt_yes (de_op rd_inS (de_var 2) (de_str k7)) (by decide)) da_nil)))))
      (ds_ret de_non)
      ds_next)
      (ds_seq (ds_if (dt_and (dt_test (de_op rd_eq (de_op rd_ix (de_var 1) (de_int 0)) (de_str k18))) (dt_test (de_op rd_ne (de_var 0) (de_str k18))))
      (ds_ret de_non)
      ds_next)
      (ds_ret (de_if (dt_test (de_op rd_eq (de_op rd_ix (de_var 0) (de_int 0)) (de_str k1))) (de_un rd_neg (de_cb rd_int (da_cons (de_var 1) da_nil))) (de_cb rd_int (da_cons (de_var 1) da_nil))))))), fun ws Ps Po h => ?body⟩)
  case len =>
    unfold s_parse_integer at h
    split at h
    · rfl
    · exact h.elim
  case body =>
    unfold s_parse_integer at h
    split at h
    rotate_left
    · exact h.elim
    obtain ⟨i, rfl, h1, h2, h⟩ := h
    cases i with
    | ofNat n =>
      have e0 : decW (Int.ofNat n) = TL.numL n := decW_nat n
      have hn : n ≤ 9999 := by have : (n : Int) ≤ 9999 := h2; omega
      have hl := TL.numL_len (n := n) (k := 4) (by decide) (by omega)
      have hne := TL.numL_ne n
      have hl1 := List.length_pos_iff.mpr hne
      have hdg := numL_DG n
      have hi := numL_int n (by omega)
      have hh := numL_head n
      have hz : n = 0 → TL.numL n = [48] := by rintro rfl; exact TL.numL_lt (by decide)
      rw [e0]
      generalize TL.numL n = d at hl hne hl1 hdg hi hh hz ⊢
      obtain ⟨c, hc⟩ : ∃ c, d[0]? = some c := ⟨d[0], List.getElem?_eq_getElem hl1⟩
      have h45 : c ≠ 45 := by
        intro e
        have := hdg c (List.mem_of_getElem? hc)
        rw [e] at this
        revert this
        decide
      have ht : d.take 1 = [c] := by
        cases d with
        | nil => exact absurd rfl hne
        | cons a r => simp at hc; subst hc; simp
      walk_at "s"
      refine st_opt (e_slS (by omega)) ?_
      rw [show cutW d none (some 1) = d.take 1 from cutW_to d 1, ht]
      walk_at "s"
      refine iteN (by simp [h45]) ?_
      walk_at "s"
      refine iteY (by simp; omega) ?_
      walk_at "s"
      refine iteN (by simp; omega) ?_
      walk_at "s"
      refine lc_map (fun w => .bl ((fun _ => true) w)) ?_ ?_ (fun i w acc hw I => ?_) ?_
      · trivial
      · rw [show (sgnW d).length = d.length from List.length_map _]; omega
      · obtain ⟨c, _, hc, rfl⟩ := sgnW_get hw
        walk_at "s"
        exact wx_yes hw I rfl (by simpa using hdg c hc)
      · refine st_opt e_allT ?_
        walk_at "s"
        refine st_opt (e_ixS (by omega) (c := c) ((atI_natL d 0).trans hc)) ?_
        walk_at "s"
        have fin : ∀ G2, dIf (dTest (dOp fEq (dOp ixW (dVar 0) (dC (.int 0))) (dC (.str [45])))) (dUn negW (dCB fInt (dCons (dVar 1) dNil))) (dCB fInt (dCons (dVar 1) dNil)) (some (.str d) :: some (.str d) :: G2) Ps fun w P1 => (finD Po).rt w P1 := by
          intro G2
          walk_at "s"
          refine st_opt (e_ixS (by omega) (c := c) ((atI_natL d 0).trans hc)) ?_
          walk_at "s"
          refine iteN (by simp [h45]) ?_
          walk_at "s"
          refine st_opt (e_intS (by omega) hi) ?_
          exact fin_here h
        by_cases hc48 : c = 48
        · refine iteY (by simp [hc48]) ?_
          walk_at "s"
          have hd : d = [48] := hz (hh (by rw [hc, hc48]))
          refine iteN (by simp [hd]) ?_
          exact fin _
        · refine iteN (by simp [hc48]) ?_
          exact fin _
    | negSucc m =>
      have e0 := decW_neg m
      have hn : m + 1 ≤ 9999 := by omega
      have hl := TL.numL_len (n := m + 1) (k := 4) (by decide) (by omega)
      have hne := TL.numL_ne (m + 1)
      have hl1 := List.length_pos_iff.mpr hne
      have hdg := numL_DG (m + 1)
      have hi := numL_int (m + 1) (by omega)
      have hh := numL_head (m + 1)
      rw [e0]
      generalize TL.numL (m + 1) = d at hl hne hl1 hdg hi hh ⊢
      obtain ⟨c, hc⟩ : ∃ c, d[0]? = some c := ⟨d[0], List.getElem?_eq_getElem hl1⟩
      have h48 : c ≠ 48 := by
        intro e
        have := hh (by rw [hc, e])
        omega
      have hL : (45 :: d).length ≤ 1000 := by simp; omega
      walk_at "s"
      refine st_opt (e_slS hL) ?_
      rw [show cutW (45 :: d) none (some 1) = (45 :: d).take 1 from cutW_to _ 1]
      walk_at "s"
      refine st_opt (e_slS hL) ?_
      rw [show cutW (45 :: d) (some 1) none = (45 :: d).drop 1 from cutW_from _ 1]
      rw [show (45 :: d).drop 1 = d from rfl]
      walk_at "s"
      refine iteY (by simp; omega) ?_
      walk_at "s"
      refine iteN (by simp; omega) ?_
      walk_at "s"
      refine lc_map (fun w => .bl ((fun _ => true) w)) ?_ ?_ (fun i w acc hw I => ?_) ?_
      · trivial
      · rw [show (sgnW d).length = d.length from List.length_map _]; omega
      · obtain ⟨c, _, hc, rfl⟩ := sgnW_get hw
        walk_at "s"
        exact wx_yes hw I rfl (by simpa using hdg c hc)
      · refine st_opt e_allT ?_
        walk_at "s"
        refine st_opt (e_ixS (by omega) (c := c) ((atI_natL d 0).trans hc)) ?_
        walk_at "s"
        refine iteN (by simp [h48]) ?_
        walk_at "s"
        refine st_opt (e_ixS hL (c := 45) (atI_natL (45 :: d) 0)) ?_
        walk_at "s"
        refine st_opt (e_intS (by omega) hi) ?_
        walk_at "s"
        exact fin_here h
def s_matching_words (_ : PySem.W.Frag) : WSp := fun ws P Po => match ws with
  | [.tup ws, .str x] => ∃ ls : List (List Nat), ws = ls.map .str ∧ ls.length ≤ 100 ∧ x.length ≤ 300 ∧ (∀ l ∈ ls, l.length ≤ 100) ∧ Po (.lst ((matchL ls x).map .str)) P
  | _ => False
theorem sc_matching_words : FnScope ["words", "text", "word"] ["words", "text"] (defScope x_matching_words) := ⟨rfl, rfl, rfl, by decide +kernel, rfl, by decide +kernel, by decide +kernel⟩
theorem cl_matching_words {P : Program} {w : World} {K : PySem.W.Frag} {mg : Str → Option Value} {base : Heap} (T : Txt K mg)  : Cl P w K mg base 1 "matching_words" (s_matching_words K) := by
  obtain ⟨fd, F⟩ := T.d_matching_words
  refine cl_of F T.g_matching_words sc_matching_words (fun ws Ps Po h => ?len) (fun _ _ _ _ _ _ us hl => match us, hl with | [_, _], _ => rfl) (fun cdv A outer sh H E hr => ⟨_, _,
      (pss_cons (ps_if (pt_cmpR op_in_seq (pv 1) (pv 0) (by first | exact nomark _ | rfl))
      (pss_one (ps_ret (pe_lst (pa_cons (pv 1) pa_nil))))
      pss_nil)
      (pss_one (ps_ret (pe_lc (own := [("word", 2)]) rfl sc_matching_words.nd (pi_tup (pv 0)) (blkOk_by (own := [("word", 2)]) (N := ["words", "text", "word"]) (sc := defScope x_matching_words) (by decide +kernel)) (fun _ _ _ _ _ => (pg_name (i := 2) sc_matching_words.nd rfl (by first | exact Or.inl rfl | exact Or.inr rfl))) (fun _ _ _ _ _ => (pts_one (PW.pt (pw_and (pt_cmpR op_ne (pv 1) pe_str (nomark _)) (pw_and1 (pt_cmpR op_eq (pe_slice sl_str (pv 2) po_none (po_some (pe_callB call_lenQ (by rfl) T.f_len boot_len (pa_cons (pv 1) pa_nil)))) (pv 1) (nomark _))))))) (fun _ _ _ _ _ => (pv 2)))))),
      (ds_seq (ds_if (dt_test (de_op (rd_in (n := false)) (de_var 1) (de_var 0)))
      (ds_ret (de_lst (da_cons (de_var 1) da_nil)))
      ds_next)
      (ds_ret (de_lc (di_tup (de_var 0)) (dg_name 2) (dt_and (dt_test (de_op rd_ne (de_var 1) (de_str k14))) (dt_test (de_op rd_eq (de_sl rd_slS (de_var 2) do_none (do_some (de_cb rd_len (da_cons (de_var 1) da_nil)))) (de_var 1)))) (de_var 2) (by decide)))), fun ws Ps Po h => ?body⟩)
  case len =>
    unfold s_matching_words at h
    split at h
    · rfl
    · exact h.elim
  case body =>
    unfold s_matching_words at h
    split at h
    rotate_left
    · exact h.elim
    rename_i ws x
    obtain ⟨ls, rfl, hl, hx, hls, h⟩ := h
    walk_at "s"
    refine st_opt (e_in (inW_strs rfl)) ?_
    by_cases hm : x ∈ ls
    · refine iteY (by simp [hm]) ?_
      walk_at "s"
      refine fin_here ?_
      unfold matchL at h
      rw [if_pos hm] at h
      exact h
    · refine iteN (by simp [hm]) ?_
      walk_at "s"
      refine lc_fm (onS fun y => decide (x ≠ []) && decide (y.take x.length = x)) (fun w => w) ?_ ?_ (fun i w acc hw I => ?_) ?_
      · trivial
      · rw [List.length_map]; omega
      · obtain ⟨y, _, hy, rfl⟩ := map_get hw
        have := hls y hy
        walk_at "s"
        by_cases hxe : x = []
        · refine iteN (by simp [hxe]) ?_
          refine iteN rfl ?_
          exact wx_no hw I (by simp [onS, hxe])
        · refine iteY (by simp [hxe]) ?_
          walk_at "s"
          refine st_opt (e_slS (by omega)) ?_
          rw [cutW_to]
          walk_at "s"
          by_cases ht : y.take x.length = x
          · refine iteY (by simp [ht]) ?_
            walk_at "s"
            exact wx_yes hw I (by simp [onS, hxe, ht]) rfl
          · refine iteN (by simp [ht]) ?_
            exact wx_no hw I (by simp [onS, ht])
      · refine fin_here ?_
        rw [filter_mapS2]
        unfold matchL at h
        rw [if_neg hm] at h
        exact h
def s_value_of (_ : PySem.W.Frag) : WSp := fun ws P Po => match ws with
  | [w, .str x] => ∃ k vs, w = Kd.w k ∧ KdOk k ∧ TokOk x ∧ ValR k x vs ∧ Po (.lst vs) P
  | _ => False
theorem sc_value_of : FnScope ["kind", "text", "number", "found"] ["kind", "text"] (defScope x_value_of) := ⟨rfl, rfl, rfl, by decide +kernel, rfl, by decide +kernel, by decide +kernel⟩
theorem cl_value_of {P : Program} {w : World} {K : PySem.W.Frag} {mg : Str → Option Value} {base : Heap} (T : Txt K mg) (G_is_token : Cl P w K mg base 1 "is_token" (s_is_token K)) (G_matching_words : Cl P w K mg base 1 "matching_words" (s_matching_words K)) (G_parse_integer : Cl P w K mg base 1 "parse_integer" (s_parse_integer K)) : Cl P w K mg base 2 "value_of" (s_value_of K) := by
  obtain ⟨fd, F⟩ := T.d_value_of
  refine cl_of F T.g_value_of sc_value_of (fun ws Ps Po h => ?len) (fun _ _ _ _ _ _ us hl => match us, hl with | [_, _], _ => rfl) (fun cdv A outer sh H E hr => ⟨_, _,
      (pss_cons (ps_if (pt_not (pt_val (pe_cl G_is_token hr (by decide) (by rfl) (pa_cons (pv 1) pa_nil))))
      (pss_one (ps_ret (pe_lst pa_nil)))
      pss_nil)
      (pss_cons (ps_if (pt_cmpR op_eq (pe_ix ix_seq (pv 0) pe_int (fun _ _ => rfl)) pe_str (nomark _))
      (pss_one (ps_ret (pe_lst (pa_cons (pv 1) pa_nil))))
      pss_nil)
      (pss_cons (ps_if (pt_cmpR op_eq (pe_ix ix_seq (pv 0) pe_int (fun _ _ => rfl)) pe_str (nomark _))
      (pss_cons (ps_set (i := 3) sc_value_of.nd rfl (by first | exact Or.inl rfl | exact Or.inr rfl) (pe_cl G_matching_words hr (by decide) (by rfl) (pa_cons (pe_ix ix_seq (pv 0) pe_int (fun _ _ => rfl)) (pa_cons (pv 1) pa_nil))))
      (pss_one (ps_ret (pe_ifExp (pt_cmpR op_eq (pe_callB call_lenQ (by rfl) T.f_len boot_len (pa_cons (pv 3) pa_nil)) pe_int (nomark _)) (pv 3) (pe_lst pa_nil)))))
      pss_nil)
      (pss_cons (ps_set (i := 2) sc_value_of.nd rfl (by first | exact Or.inl rfl | exact Or.inr rfl) (pe_cl G_parse_integer hr (by decide) (by rfl) (pa_cons (pv 1) pa_nil)))
      (pss_one (ps_ret (pe_ifExp (PW.pt (pw_and (pt_cmpR op_notN1 (pv 2) pe_non (nomark _)) (pw_and1 (pt_chain op_le op_le (pe_ix ix_seq (pv 0) pe_int (fun _ _ => rfl)) (pv 2) (pe_ix ix_seq (pv 0) pe_int (fun _ _ => rfl)))))) (pe_lst (pa_cons (pv 2) pa_nil)) (pe_lst pa_nil)))))))),
      (ds_seq (ds_if (dt_not (dt_B (de_call (da_cons (de_var 1) da_nil))))
      (ds_ret (de_lst da_nil))
      ds_next)
      (ds_seq (ds_if (dt_test (de_op rd_eq (de_op rd_ix (de_var 0) (de_int 0)) (de_str k12)))
      (ds_ret (de_lst (da_cons (de_var 1) da_nil)))
      ds_next)
      (ds_seq (ds_if (dt_test (de_op rd_eq (de_op rd_ix (de_var 0) (de_int 0)) (de_str k11)))
      (ds_seq (ds_asg (de_call (da_cons (de_op rd_ix (de_var 0) (de_int 1)) (da_cons (de_var 1) da_nil))) (dg_name 3))
      (ds_ret (de_if (dt_test (de_op rd_eq (de_cb rd_len (da_cons (de_var 3) da_nil)) (de_int 1))) (de_var 3) (de_lst da_nil))))
      ds_next)
      (ds_seq (ds_asg (de_call (da_cons (de_var 1) da_nil)) (dg_name 2))
      (ds_ret (de_if (dt_and (dt_test (de_op rd_notN (de_var 2) de_non)) (dt_test (de_chain rd_le rd_le (de_op rd_ix (de_var 0) (de_int 1)) (de_var 2) (de_op rd_ix (de_var 0) (de_int 2))))) (de_lst (da_cons (de_var 2) da_nil)) (de_lst da_nil))))))), fun ws Ps Po h => ?body⟩)
  case len =>
    unfold s_value_of at h
    split at h
    · rfl
    · exact h.elim
  case body =>
    unfold s_value_of at h
    split at h
    rotate_left
    · exact h.elim
    rename_i w x
    obtain ⟨k, vs, rfl, hk, hx, hv, h⟩ := h
    have hxl := hx.1
    walk_at "s"
    refine ⟨hx, ?_⟩
    walk_at "s"
    cases hv with
    | word x =>
      walk_at "s"
      exact fin_here h
    | ch ws x =>
      obtain ⟨h1, h2, h3, h4⟩ := hk
      walk_at "s"
      refine ⟨ws, rfl, by omega, by omega, fun l hl => by have := (h4 l hl).2.1; omega, ?_⟩
      walk_at "s"
      by_cases h1 : (matchL ws x).length = 1
      · refine iteY (by simp [h1]) ?_
        walk_at "s"
        rw [if_pos h1] at h
        exact fin_here h
      · refine iteN (by simp; omega) ?_
        walk_at "s"
        rw [if_neg h1] at h
        exact fin_here h
    | @int lo hi i h1 h2 =>
      obtain ⟨k1, k2, k3⟩ := hk
      walk_at "s"
      refine ⟨i, rfl, by omega, by omega, ?_⟩
      walk_at "s"
      refine iteY (by simp; omega) ?_
      walk_at "s"
      refine iteY (by simp; omega) ?_
      walk_at "s"
      exact fin_here h
def s_is_value (_ : PySem.W.Frag) : WSp := fun ws P Po => match ws with
  | [w, v] => ∃ k, w = Kd.w k ∧ KdOk k ∧ VOk k v ∧ Po (.bl true) P
  | _ => False
theorem sc_is_value : FnScope ["kind", "value"] ["kind", "value"] (defScope x_is_value) := ⟨rfl, rfl, rfl, by decide +kernel, rfl, by decide +kernel, by decide +kernel⟩
theorem cl_is_value {P : Program} {w : World} {K : PySem.W.Frag} {mg : Str → Option Value} {base : Heap} (T : Txt K mg) (G_is_integer : Cl P w K mg base 1 "is_integer" (s_is_integer K)) (G_is_token : Cl P w K mg base 1 "is_token" (s_is_token K)) : Cl P w K mg base 2 "is_value" (s_is_value K) := by
  obtain ⟨fd, F⟩ := T.d_is_value
  refine cl_of F T.g_is_value sc_is_value (fun ws Ps Po h => ?len) (fun _ _ _ _ _ _ us hl => match us, hl with | [_, _], _ => rfl) (fun cdv A outer sh H E hr => ⟨_, _,
      (pss_cons (ps_if (pt_cmpR op_isN1 (pv 0) pe_non (nomark _))
      (pss_one (ps_ret (pe_cmpR op_isBl (pv 1) pe_bl (nomark _))))
      pss_nil)
      (pss_cons (ps_if (pt_cmpR op_eq (pe_ix ix_seq (pv 0) pe_int (fun _ _ => rfl)) pe_str (nomark _))
      (pss_one (ps_ret (pe_cl G_is_integer hr (by decide) (by rfl) (pa_cons (pv 1) (pa_cons (pe_ix ix_seq (pv 0) pe_int (fun _ _ => rfl)) (pa_cons (pe_ix ix_seq (pv 0) pe_int (fun _ _ => rfl)) pa_nil))))))
      pss_nil)
      (pss_one (ps_ret (pe_ifExp (pt_cmpR op_eq (pe_ix ix_seq (pv 0) pe_int (fun _ _ => rfl)) pe_str (nomark _)) (pe_cmpR op_in_seq (pv 1) (pe_ix ix_seq (pv 0) pe_int (fun _ _ => rfl)) (by first | exact nomark _ | rfl)) (pe_cl G_is_token hr (by decide) (by rfl) (pa_cons (pv 1) pa_nil))))))),
      (ds_seq (ds_if (dt_test (de_op rd_isN (de_var 0) de_non))
      (ds_ret (de_op rd_isB (de_var 1) (de_bl true)))
      ds_next)
      (ds_seq (ds_if (dt_test (de_op rd_eq (de_op rd_ix (de_var 0) (de_int 0)) (de_str k10)))
      (ds_ret (de_call (da_cons (de_var 1) (da_cons (de_op rd_ix (de_var 0) (de_int 1)) (da_cons (de_op rd_ix (de_var 0) (de_int 2)) da_nil)))))
      ds_next)
      (ds_ret (de_if (dt_test (de_op rd_eq (de_op rd_ix (de_var 0) (de_int 0)) (de_str k11))) (de_op (rd_in (n := false)) (de_var 1) (de_op rd_ix (de_var 0) (de_int 1))) (de_call (da_cons (de_var 1) da_nil)))))), fun ws Ps Po h => ?body⟩)
  case len =>
    unfold s_is_value at h
    split at h
    · rfl
    · exact h.elim
  case body =>
    unfold s_is_value at h
    split at h
    rotate_left
    · exact h.elim
    rename_i w v
    obtain ⟨k, rfl, hk, hv, h⟩ := h
    cases k with
    | non =>
      have hv : v = .bl true := hv
      subst hv
      walk_at "s"
      exact fin_here h
    | int lo hi =>
      obtain ⟨i, rfl, h1, h2⟩ := hv
      walk_at "s"
      exact fin_bl (by simp; omega) h
    | ch ws =>
      obtain ⟨l, rfl, hl⟩ := hv
      walk_at "s"
      refine st_opt (e_in (inW_strs rfl)) ?_
      exact fin_bl (by simp [hl]) h
    | word =>
      obtain ⟨l, rfl, hl⟩ := hv
      walk_at "s"
      exact ⟨hl, fin_here h⟩
def s_shortest_text (_ : PySem.W.Frag) : WSp := fun ws P Po => match ws with
  | [w, v] => ∃ k, w = Kd.w k ∧ k ≠ .non ∧ KdOk k ∧ VOk k v ∧ Po (.str (shortT k v)) P
  | _ => False
theorem sc_shortest_text : FnScope ["kind", "value", "texts", "length", "text"] ["kind", "value"] (defScope x_shortest_text) := ⟨rfl, rfl, rfl, by decide +kernel, rfl, by decide +kernel, by decide +kernel⟩
theorem cl_shortest_text {P : Program} {w : World} {K : PySem.W.Frag} {mg : Str → Option Value} {base : Heap} (T : Txt K mg) (G_value_of : Cl P w K mg base 2 "value_of" (s_value_of K)) : Cl P w K mg base 3 "shortest_text" (s_shortest_text K) := by
  obtain ⟨fd, F⟩ := T.d_shortest_text
  refine cl_of F T.g_shortest_text sc_shortest_text (fun ws Ps Po h => ?len) (fun _ _ _ _ _ _ us hl => match us, hl with | [_, _], _ => rfl) (fun cdv A outer sh H E hr => ⟨_, _,
      (pss_cons (ps_if (pt_cmpR op_ne (pe_ix ix_seq (pv 0) pe_int (fun _ _ => rfl)) pe_str (nomark _))
      (pss_one (ps_ret (pe_callTy call_strQ (by rfl) T.f_str (by decide +kernel) (pa_cons (pv 1) pa_nil))))
      pss_nil)
      (pss_cons (ps_setLc (i := 2) (own := [("length", 3)]) rfl sc_shortest_text.nd rfl rfl (sw_true rfl rfl rfl (by decide +kernel)) (pi_range2 (by rfl) T.f_range (pa_cons pe_int (pa_cons (pe_op op_add (pe_callB call_lenQ (by rfl) T.f_len boot_len (pa_cons (pv 1) pa_nil)) pe_int) pa_nil))) (blkOk_by (own := [("length", 3)]) (N := ["kind", "value", "texts", "length", "text"]) (sc := defScope x_shortest_text) (by decide +kernel)) (fun _ _ _ _ _ => (pg_name (i := 3) sc_shortest_text.nd rfl (by first | exact Or.inl rfl | exact Or.inr rfl))) (fun _ _ _ _ _ => pts_nil) (fun _ _ _ _ _ => (pe_slice sl_str (pv 1) po_none (po_some (pv 3)))))
      (pss_one (ps_ret (pe_ix ix_seq (pe_lc (own := [("text", 4)]) rfl sc_shortest_text.nd (pi_list (pv 2)) (blkOk_by (own := [("text", 4)]) (N := ["kind", "value", "texts", "length", "text"]) (sc := defScope x_shortest_text) (by decide +kernel)) (fun _ _ _ _ _ => (pg_name (i := 4) sc_shortest_text.nd rfl (by first | exact Or.inl rfl | exact Or.inr rfl))) (fun _ _ _ _ _ => (pts_one (pt_cmpR (op_eqD hr.units) (pe_cl G_value_of hr (by decide) (by rfl) (pa_cons (pv 0) (pa_cons (pv 4) pa_nil))) (pe_lst (pa_cons (pv 1) pa_nil)) (nomark _)))) (fun _ _ _ _ _ => (pv 4))) pe_int (fun _ _ => rfl)))))),
      (ds_seq (ds_if (dt_test (de_op rd_ne (de_op rd_ix (de_var 0) (de_int 0)) (de_str k11)))
      (ds_ret (de_cb rd_str (da_cons (de_var 1) da_nil)))
      ds_next)
      (ds_seq (ds_asg (de_lc (di_rng2 (da_cons (de_int 1) (da_cons (de_op rd_add (de_cb rd_len (da_cons (de_var 1) da_nil)) (de_int 1)) da_nil))) (dg_name 3) dt_yes (de_sl rd_slS (de_var 1) do_none (do_some (de_var 3))) (by decide)) (dg_name 2))
      (ds_ret (de_op rd_ix (de_lc (di_list (de_var 2)) (dg_name 4) (dt_test (de_op rd_eqD (de_call (da_cons (de_var 0) (da_cons (de_var 4) da_nil))) (de_lst (da_cons (de_var 1) da_nil)))) (de_var 4) (by decide)) (de_int 0))))), fun ws Ps Po h => ?body⟩)
  case len =>
    unfold s_shortest_text at h
    split at h
    · rfl
    · exact h.elim
  case body =>
    unfold s_shortest_text at h
    split at h
    rotate_left
    · exact h.elim
    rename_i w v
    obtain ⟨k, rfl, hn, hk, hv, h⟩ := h
    cases k with
    | non => exact absurd rfl hn
    | int lo hi =>
      obtain ⟨i, rfl, h1, h2⟩ := hv
      obtain ⟨k1, k2, k3⟩ := hk
      walk_at "s"
      refine st_opt (if_pos (by omega)) ?_
      exact fin_here h
    | word =>
      obtain ⟨l, rfl, hl⟩ := hv
      walk_at "s"
      exact fin_here h
    | ch ws =>
      obtain ⟨l, rfl, hl⟩ := hv
      have hw := hk.2.2.2 l hl
      have hll := hw.2.1
      have hok : ∀ y ∈ ws, okT y := fun y hy => okT_LT (hk.2.2.2 y hy).2.2
      have hne : l ≠ [] := by intro e; subst e; have := hw.1; simp at this
      walk_at "s"
      refine ⟨by omega, by omega, by omega, by omega, ?_⟩
      rw [show ((l.length : Int) + 1 - 1).toNat = l.length by omega]
      refine lc_map (takeI l) trivial (by rw [rngW_len]; omega) (fun i w acc hw I => ?_) ?_
      · obtain ⟨hi, rfl⟩ := rngW_inv hw
        walk_at "s"
        refine st_opt (e_slS (by omega)) ?_
        refine wx_yes hw I rfl ?_
        rw [show (1 : Int) + (i : Int) = ((i + 1 : Nat) : Int) by omega, cutW_to]
        rfl
      · rw [rng1_map]
        walk_at "s"
        refine lc_fm (onS fun p => decide (matchL ws p = [l])) (fun w => w) trivial (by rw [List.length_map]; unfold prefs; simp; omega) (fun i w acc hw I => ?_) ?_
        · obtain ⟨p, _, hp, rfl⟩ := map_get hw
          obtain ⟨j, hj, rfl⟩ := prefs_mem hp
          have hpl : (l.take (j + 1)).length ≤ 12 := by rw [List.length_take]; omega
          walk_at "s"
          refine ⟨.ch ws, _, rfl, hk, ⟨by omega, fun c hc => LT_AB c (hk.2.2.2 l hl |>.2.2 c (List.mem_of_mem_take hc))⟩, ValR.ch ws _, ?_⟩
          generalize l.take (j + 1) = p at hpl hp hw ⊢
          have e0 : (if (matchL ws p).length = 1 then (matchL ws p).map Wv.str else []) = (if (matchL ws p).length = 1 then matchL ws p else []).map Wv.str := by split <;> rfl
          rw [e0]
          walk_at "s"
          refine st_opt (e_eqL (b := [l]) (datP_strs _) (datP_strs [l]) ?_ ?_) ?_
          · intro y hy
            split at hy
            · exact hok y (matchL_mem y hy)
            · cases hy
          · intro y hy
            have : y = l := by simpa using hy
            rw [this]
            exact hok l hl
          by_cases hm : matchL ws p = [l]
          · refine iteY (by simp [hm]) ?_
            walk_at "s"
            exact wx_yes hw I (by simp [onS, hm]) rfl
          · refine iteN ?_ ?_
            · rw [if_neg Bool.false_ne_true]
              refine decide_eq_false ?_
              split
              · exact hm
              · simp
            · exact wx_no hw I (by simp [onS, hm])
        · rw [filter_mapS2]
          obtain ⟨r, e⟩ := shortC_cons hl hne
          rw [e]
          walk_at "s"
          refine st_opt (e_ix0 rfl) ?_
          exact fin_here h
end Fc
namespace Fc
open PySem PySem.Spec PyProof.Rows L2
local macro_rules | `(tactic| walk_at "s") => `(tactic| repeat (first
  | refine st_opt rfl ?_
  | refine st_opt (e_len (by first | assumption | omega)) ?_
  | refine st_opt (e_addS (by first | decide | omega | (simp; done) | (simp; omega))) ?_
  | refine st_opt (fldW_at (by first | assumption | exact updP_same) rfl) ?_
  | refine st_opt (insOf_at (by first | assumption | exact updP_same)) ?_
  | refine st_ble rfl ?_
  | refine st_blt rfl ?_
  | refine st_eqr ?_))
def s_OptionTable___init__ (K : PySem.W.Frag) : WSp := fun ws P Po => match ws with
  | [.r a, w] => ∃ os lo hi dx, w = gramW os lo hi ∧ GOk os lo hi ∧ P a = some (.ins (He.ga K "OptionTable") dx []) ∧ ∀ T P', TabAt K T a os → (∀ b, T b ≠ none → b = a ∨ P b = none) → SubP T P' → SubP (delP P a) P' → Po .non P'
  | _ => False
theorem sc_OptionTable___init__ : FnScope ["self", "grammar", "name", "letter", "kind"] ["self", "grammar"] (defScope x_OptionTable___init__) := ⟨rfl, rfl, rfl, by decide +kernel, rfl, by decide +kernel, by decide +kernel⟩
theorem cl_OptionTable___init__ {P : Program} {w : World} {K : PySem.W.Frag} {mg : Str → Option Value} {base : Heap} (T : Txt K mg) (G_names_of : Cl P w K mg base 1 "names_of" (s_names_of K)) : Mq P w K mg base 2 "OptionTable" (He.ga K "OptionTable") (s_OptionTable___init__ K) := by
  obtain ⟨fd, F⟩ := T.d_OptionTable___init__
  refine mq_of F T.g_OptionTable T.k_OptionTable sc_OptionTable___init__ (fun ws Ps Po h => ?len) (fun _ _ _ _ _ _ us hl => match us, hl with | [_, _], _ => rfl) (fun cdv A outer sh H E hr => ⟨_, _,
      (pss_cons (ps_fld (pv 0) (pe_cl G_names_of hr (by decide) (by rfl) (pa_cons (pv 1) pa_nil)) rfl)
      (pss_cons (ps_fld (pv 0) (pe_dc (own := [("name", 2), ("letter", 3), ("kind", 4)]) rfl sc_OptionTable___init__.nd (pi_tup (pe_ix ix_seq (pv 1) pe_int (fun _ _ => rfl))) (blkOk_by (own := [("name", 2), ("letter", 3), ("kind", 4)]) (N := ["self", "grammar", "name", "letter", "kind"]) (sc := defScope x_OptionTable___init__) (by decide +kernel)) (fun _ _ _ _ _ => (pg_tup (n := 3) rfl (pgs_cons (pg_name (i := 2) sc_OptionTable___init__.nd rfl (by first | exact Or.inl rfl | exact Or.inr rfl)) (pgs_cons (pg_name (i := 3) sc_OptionTable___init__.nd rfl (by first | exact Or.inl rfl | exact Or.inr rfl)) (pgs_cons (pg_name (i := 4) sc_OptionTable___init__.nd rfl (by first | exact Or.inl rfl | exact Or.inr rfl)) pgs_nil))))) (fun _ _ _ _ _ => pts_nil) (fun _ _ _ _ _ => (pv 2)) (fun _ _ _ _ _ => (pv 4))) rfl)
      (pss_cons (ps_fld (pv 0) (pe_dc (own := [("name", 2), ("letter", 3), ("kind", 4)]) rfl sc_OptionTable___init__.nd (pi_tup (pe_ix ix_seq (pv 1) pe_int (fun _ _ => rfl))) (blkOk_by (own := [("name", 2), ("letter", 3), ("kind", 4)]) (N := ["self", "grammar", "name", "letter", "kind"]) (sc := defScope x_OptionTable___init__) (by decide +kernel)) (fun _ _ _ _ _ => (pg_tup (n := 3) rfl (pgs_cons (pg_name (i := 2) sc_OptionTable___init__.nd rfl (by first | exact Or.inl rfl | exact Or.inr rfl)) (pgs_cons (pg_name (i := 3) sc_OptionTable___init__.nd rfl (by first | exact Or.inl rfl | exact Or.inr rfl)) (pgs_cons (pg_name (i := 4) sc_OptionTable___init__.nd rfl (by first | exact Or.inl rfl | exact Or.inr rfl)) pgs_nil))))) (fun _ _ _ _ _ => (pts_one (pt_cmpR op_ne (pv 3) pe_str (nomark _)))) (fun _ _ _ _ _ => (pv 3)) (fun _ _ _ _ _ => (pv 2))) rfl)
      (pss_one (ps_fld (pv 0) (pe_dc (own := [("name", 2), ("letter", 3), ("kind", 4)]) rfl sc_OptionTable___init__.nd (pi_tup (pe_ix ix_seq (pv 1) pe_int (fun _ _ => rfl))) (blkOk_by (own := [("name", 2), ("letter", 3), ("kind", 4)]) (N := ["self", "grammar", "name", "letter", "kind"]) (sc := defScope x_OptionTable___init__) (by decide +kernel)) (fun _ _ _ _ _ => (pg_tup (n := 3) rfl (pgs_cons (pg_name (i := 2) sc_OptionTable___init__.nd rfl (by first | exact Or.inl rfl | exact Or.inr rfl)) (pgs_cons (pg_name (i := 3) sc_OptionTable___init__.nd rfl (by first | exact Or.inl rfl | exact Or.inr rfl)) (pgs_cons (pg_name (i := 4) sc_OptionTable___init__.nd rfl (by first | exact Or.inl rfl | exact Or.inr rfl)) pgs_nil))))) (fun _ _ _ _ _ => pts_nil) (fun _ _ _ _ _ => (pv 2)) (fun _ _ _ _ _ => (pv 3))) rfl))))),
      (ds_seq (ds_fld (He.ga K "OptionTable") 3 T.c_OptionTable T.n_OptionTable_names (de_var 0) (de_call (da_cons (de_var 1) da_nil)))
      (ds_seq (ds_fld (He.ga K "OptionTable") 4 T.c_OptionTable T.n_OptionTable_kinds (de_var 0) (de_dc (di_tup (de_op rd_ix (de_var 1) (de_int 0))) (dg_tup (dgs_cons (dg_name 2) (dgs_cons (dg_name 3) (dgs_cons (dg_name 4) dgs_nil)))) dt_yes (de_var 2) (de_var 4) (by decide)))
      (ds_seq (ds_fld (He.ga K "OptionTable") 5 T.c_OptionTable T.n_OptionTable_letters (de_var 0) (de_dc (di_tup (de_op rd_ix (de_var 1) (de_int 0))) (dg_tup (dgs_cons (dg_name 2) (dgs_cons (dg_name 3) (dgs_cons (dg_name 4) dgs_nil)))) (dt_test (de_op rd_ne (de_var 3) (de_str k14))) (de_var 3) (de_var 2) (by decide)))
      (ds_fld (He.ga K "OptionTable") 6 T.c_OptionTable T.n_OptionTable_short_names (de_var 0) (de_dc (di_tup (de_op rd_ix (de_var 1) (de_int 0))) (dg_tup (dgs_cons (dg_name 2) (dgs_cons (dg_name 3) (dgs_cons (dg_name 4) dgs_nil)))) dt_yes (de_var 2) (de_var 3) (by decide)))))), fun ws Ps Po h => ?body⟩)
  case len =>
    unfold s_OptionTable___init__ at h
    split at h
    · rfl
    · exact h.elim
  case body =>
    unfold s_OptionTable___init__ at h
    split at h
    rotate_left
    · exact h.elim
    rename_i a w
    obtain ⟨os, lo, hi, dx, rfl, ok, ha, h⟩ := h
    have hl := ok.len2
    walk_at "s"
    refine ⟨os, lo, hi, rfl, hl, ?_⟩
    walk_at "s"
    refine dc_fm bAll fKind trivial (by rw [List.length_map]; omega) (fun i w acc hw I => ?_) ?_
    · obtain ⟨o, _, ho, rfl⟩ := map_get hw
      walk_at "s"
      exact dx_yes (nd_keys (kinds_eq os) (kinds_nd ok)) hw I rfl rfl
    · rw [kinds_eq]
      intro k hk
      obtain ⟨hka, hk⟩ := updP_none hk
      have hka : k ≠ a := hka
      walk_at "s"
      refine st_opt (insOf_at (updP_at (Ne.symm hka) updP_same)) ?_
      walk_at "s"
      refine dc_fm bLet fLet trivial (by rw [List.length_map]; omega) (fun i w acc hw I => ?_) ?_
      · obtain ⟨o, _, ho, rfl⟩ := map_get hw
        walk_at "s"
        by_cases e : o.lt = []
        · refine iteN (by simp [e]) ?_
          exact ⟨rfl, dx_no hw I (by show decide (o.lt ≠ []) = false; simp [e])⟩
        · refine iteY (by simp [e]) ?_
          walk_at "s"
          exact dx_yes (nd_keys (letters_eq os) (letters_nd ok)) hw I (by show decide (o.lt ≠ []) = true; simp [e]) rfl
      · rw [letters_eq]
        intro l hlq
        obtain ⟨hla, hlq⟩ := updP_none hlq
        have hla : l ≠ a := hla
        obtain ⟨hlk, hlq⟩ := updP_none hlq
        obtain ⟨_, hlq⟩ := updP_none hlq
        walk_at "s"
        refine st_opt (insOf_at (updP_at (Ne.symm hla) updP_same)) ?_
        walk_at "s"
        refine dc_fm bAll fShort trivial (by rw [List.length_map]; omega) (fun i w acc hw I => ?_) ?_
        · obtain ⟨o, _, ho, rfl⟩ := map_get hw
          walk_at "s"
          exact dx_yes (nd_keys (shorts_eq os) (shorts_nd ok)) hw I rfl rfl
        · rw [shorts_eq]
          intro s hs
          obtain ⟨hsa, hs⟩ := updP_none hs
          have hsa : s ≠ a := hsa
          obtain ⟨hsl, hs⟩ := updP_none hs
          obtain ⟨_, hs⟩ := updP_none hs
          obtain ⟨hsk, hs⟩ := updP_none hs
          obtain ⟨_, hs⟩ := updP_none hs
          walk_at "s"
          refine st_opt (insOf_at (updP_at (Ne.symm hsa) updP_same)) ?_
          walk_at "s"
          refine fin_here (h (updP (updP (updP (updP (fun _ => none) a (tabO K dx os k l s)) k (.dic (kindsD os))) l (.dic (lettersD os))) s (.dic (shortsD os))) _ ?_ ?_ ?_ ?_)
          · exact ⟨dx, k, l, s, updP_at (Ne.symm hsa) (updP_at (Ne.symm hla) (updP_at (Ne.symm hka) updP_same)), updP_at (Ne.symm hsk) (updP_at (Ne.symm hlk) updP_same), updP_at (Ne.symm hsl) updP_same, updP_same⟩
          · intro b hb
            by_cases h1 : b = s
            · exact .inr (by rw [h1]; exact hs)
            by_cases h2 : b = l
            · exact .inr (by rw [h2]; exact hlq)
            by_cases h3 : b = k
            · exact .inr (by rw [h3]; exact hk)
            by_cases h4 : b = a
            · exact .inl h4
            · rw [updP_ne h1, updP_ne h2, updP_ne h3, updP_ne h4] at hb
              exact absurd rfl hb
          · intro b so e
            by_cases h4 : b = a
            · subst h4
              rw [updP_ne (Ne.symm hsa), updP_ne (Ne.symm hla), updP_ne (Ne.symm hka), updP_same] at e
              exact updP_same.trans e
            · by_cases h1 : b = s
              · subst h1
                rw [updP_same] at e
                exact (updP_at h4 updP_same).trans e
              rw [updP_ne h1] at e
              by_cases h2 : b = l
              · subst h2
                rw [updP_same] at e
                exact (updP_at h4 (updP_at h1 (updP_at h4 updP_same))).trans e
              rw [updP_ne h2] at e
              by_cases h3 : b = k
              · subst h3
                rw [updP_same] at e
                exact (updP_at h4 (updP_at h1 (updP_at h4 (updP_at h2 (updP_at h4 updP_same))))).trans e
              rw [updP_ne h3, updP_ne h4] at e
              cases e
          · exact SubP.delU (SubP.new (delP_none hs) (SubP.delU (SubP.new (delP_none hlq) (SubP.delU (SubP.new (delP_none hk) (SubP.delU SubP.del))))))
def s_OptionTable_matches (K : PySem.W.Frag) : WSp := fun ws P Po => match ws with
  | [.r a, .str x] => ∃ os, TabAt K P a os ∧ os.length ≤ 12 ∧ (∀ o ∈ os, o.nm.length ≤ 12) ∧ x.length ≤ 300 ∧ Po (.lst ((matchL (namesL os) x).map .str)) P
  | _ => False
theorem sc_OptionTable_matches : FnScope ["self", "text", "name"] ["self", "text"] (defScope x_OptionTable_matches) := ⟨rfl, rfl, rfl, by decide +kernel, rfl, by decide +kernel, by decide +kernel⟩
theorem cl_OptionTable_matches {P : Program} {w : World} {K : PySem.W.Frag} {mg : Str → Option Value} {base : Heap} (T : Txt K mg)  : Mt P w K mg base 1 (He.ga K "OptionTable") "matches" (s_OptionTable_matches K) := by
  obtain ⟨fd, F⟩ := T.d_OptionTable_matches
  refine mt_of F T.c_OptionTable T.m_OptionTable_matches sc_OptionTable_matches (fun ws Ps Po h => ?len) (fun _ _ _ _ _ _ us hl => match us, hl with | [_, _], _ => rfl) (fun cdv A outer sh H E hr => ⟨_, _,
      (pss_cons (ps_if (pt_cmp (pc_din (hu_of hr) (pv 1) (pe_fld (pv 0) rfl)))
      (pss_one (ps_ret (pe_lst (pa_cons (pv 1) pa_nil))))
      pss_nil)
      (pss_one (ps_ret (pe_lc (own := [("name", 2)]) rfl sc_OptionTable_matches.nd (pi_list (pe_fld (pv 0) rfl)) (blkOk_by (own := [("name", 2)]) (N := ["self", "text", "name"]) (sc := defScope x_OptionTable_matches) (by decide +kernel)) (fun _ _ _ _ _ => (pg_name (i := 2) sc_OptionTable_matches.nd rfl (by first | exact Or.inl rfl | exact Or.inr rfl))) (fun _ _ _ _ _ => (pts_one (PW.pt (pw_and (pt_cmpR op_ne (pv 1) pe_str (nomark _)) (pw_and1 (pt_cmpR op_eq (pe_slice sl_str (pv 2) po_none (po_some (pe_callB call_lenQ (by rfl) T.f_len boot_len (pa_cons (pv 1) pa_nil)))) (pv 1) (nomark _))))))) (fun _ _ _ _ _ => (pv 2)))))),
      (ds_seq (ds_if (dt_B (de_din (de_var 1) (de_fld (He.ga K "OptionTable") 4 T.c_OptionTable T.n_OptionTable_kinds (de_var 0))))
      (ds_ret (de_lst (da_cons (de_var 1) da_nil)))
      ds_next)
      (ds_ret (de_lc (di_list (de_fld (He.ga K "OptionTable") 3 T.c_OptionTable T.n_OptionTable_names (de_var 0))) (dg_name 2) (dt_and (dt_test (de_op rd_ne (de_var 1) (de_str k14))) (dt_test (de_op rd_eq (de_sl rd_slS (de_var 2) do_none (do_some (de_cb rd_len (da_cons (de_var 1) da_nil)))) (de_var 1)))) (de_var 2) (by decide)))), fun ws Ps Po h => ?body⟩)
  case len =>
    unfold s_OptionTable_matches at h
    split at h
    · rfl
    · exact h.elim
  case body =>
    unfold s_OptionTable_matches at h
    split at h
    rotate_left
    · exact h.elim
    rename_i a x
    obtain ⟨os, ⟨dx, k, l, s, ha, hk, hl, hs⟩, h1, h2, h3, h⟩ := h
    unfold tabO at ha
    have hkeys : (kindsD os).map (·.1) = namesL os := by unfold kindsD namesL; rw [List.map_map]; rfl
    walk_at "s"
    refine st_opt (dicP_at hk) ?_
    by_cases hm : x ∈ namesL os
    · refine iteY ?_ ?_
      · cases e : lookD (kindsD os) x with
        | some u => rfl
        | none =>
          have := lookD_none.mp e
          rw [hkeys] at this
          exact absurd hm this
      walk_at "s"
      refine fin_here ?_
      unfold matchL at h
      rw [if_pos hm] at h
      exact h
    · refine iteN ?_ ?_
      · exact look_no (by rw [hkeys]; exact hm)
      walk_at "s"
      refine lc_fm (onS fun y => decide (x ≠ []) && decide (y.take x.length = x)) (fun w => w) ?_ ?_ (fun i w acc hw I => ?_) ?_
      · trivial
      · rw [List.length_map]; unfold namesL; rw [List.length_map]; omega
      · obtain ⟨y, _, hy, rfl⟩ := map_get hw
        obtain ⟨o, ho, rfl⟩ := List.mem_map.mp hy
        have := h2 o ho
        generalize o.nm = y at *
        walk_at "s"
        by_cases hxe : x = []
        · refine iteN (by simp [hxe]) ?_
          refine iteN rfl ?_
          exact wx_no hw I (by simp [onS, hxe])
        · refine iteY (by simp [hxe]) ?_
          walk_at "s"
          refine st_opt (e_slS (by omega)) ?_
          rw [cutW_to]
          walk_at "s"
          by_cases ht : y.take x.length = x
          · refine iteY (by simp [ht]) ?_
            walk_at "s"
            exact wx_yes hw I (by simp [onS, hxe, ht]) rfl
          · refine iteN (by simp [ht]) ?_
            exact wx_no hw I (by simp [onS, ht])
      · refine fin_here ?_
        rw [filter_mapS2]
        unfold matchL at h
        rw [if_neg hm] at h
        exact h
def s_OptionTable_abbreviation (K : PySem.W.Frag) : WSp := fun ws P Po => match ws with
  | [.r a, .str n] => ∃ os lo hi, TabAt K P a os ∧ GOk os lo hi ∧ n ∈ namesL os ∧ Po (.str (abbrL os n)) P
  | _ => False
theorem sc_OptionTable_abbreviation : FnScope ["self", "name", "texts", "length", "text"] ["self", "name"] (defScope x_OptionTable_abbreviation) := ⟨rfl, rfl, rfl, by decide +kernel, rfl, by decide +kernel, by decide +kernel⟩
theorem cl_OptionTable_abbreviation {P : Program} {w : World} {K : PySem.W.Frag} {mg : Str → Option Value} {base : Heap} (T : Txt K mg) (G_OptionTable_matches : Mt P w K mg base 1 (He.ga K "OptionTable") "matches" (s_OptionTable_matches K)) : Mt P w K mg base 2 (He.ga K "OptionTable") "abbreviation" (s_OptionTable_abbreviation K) := by
  obtain ⟨fd, F⟩ := T.d_OptionTable_abbreviation
  refine mt_of F T.c_OptionTable T.m_OptionTable_abbreviation sc_OptionTable_abbreviation (fun ws Ps Po h => ?len) (fun _ _ _ _ _ _ us hl => match us, hl with | [_, _], _ => rfl) (fun cdv A outer sh H E hr => ⟨_, _,
      (pss_cons (ps_setLc (i := 2) (own := [("length", 3)]) rfl sc_OptionTable_abbreviation.nd rfl rfl (sw_true rfl rfl rfl (by decide +kernel)) (pi_range2 (by rfl) T.f_range (pa_cons pe_int (pa_cons (pe_op op_add (pe_callB call_lenQ (by rfl) T.f_len boot_len (pa_cons (pv 1) pa_nil)) pe_int) pa_nil))) (blkOk_by (own := [("length", 3)]) (N := ["self", "name", "texts", "length", "text"]) (sc := defScope x_OptionTable_abbreviation) (by decide +kernel)) (fun _ _ _ _ _ => (pg_name (i := 3) sc_OptionTable_abbreviation.nd rfl (by first | exact Or.inl rfl | exact Or.inr rfl))) (fun _ _ _ _ _ => pts_nil) (fun _ _ _ _ _ => (pe_slice sl_str (pv 1) po_none (po_some (pv 3)))))
      (pss_one (ps_ret (pe_ix ix_seq (pe_lc (own := [("text", 4)]) rfl sc_OptionTable_abbreviation.nd (pi_list (pv 2)) (blkOk_by (own := [("text", 4)]) (N := ["self", "name", "texts", "length", "text"]) (sc := defScope x_OptionTable_abbreviation) (by decide +kernel)) (fun _ _ _ _ _ => (pg_name (i := 4) sc_OptionTable_abbreviation.nd rfl (by first | exact Or.inl rfl | exact Or.inr rfl))) (fun _ _ _ _ _ => (pts_one (pt_cmpR (op_eqD hr.units) (pe_mtd G_OptionTable_matches hr (by decide) (pv 0) (pa_cons (pv 4) pa_nil)) (pe_lst (pa_cons (pv 1) pa_nil)) (nomark _)))) (fun _ _ _ _ _ => (pv 4))) pe_int (fun _ _ => rfl))))),
      (ds_seq (ds_asg (de_lc (di_rng2 (da_cons (de_int 1) (da_cons (de_op rd_add (de_cb rd_len (da_cons (de_var 1) da_nil)) (de_int 1)) da_nil))) (dg_name 3) dt_yes (de_sl rd_slS (de_var 1) do_none (do_some (de_var 3))) (by decide)) (dg_name 2))
      (ds_ret (de_op rd_ix (de_lc (di_list (de_var 2)) (dg_name 4) (dt_test (de_op rd_eqD (de_meth (de_var 0) (da_cons (de_var 4) da_nil)) (de_lst (da_cons (de_var 1) da_nil)))) (de_var 4) (by decide)) (de_int 0)))), fun ws Ps Po h => ?body⟩)
  case len =>
    unfold s_OptionTable_abbreviation at h
    split at h
    · rfl
    · exact h.elim
  case body =>
    unfold s_OptionTable_abbreviation at h
    split at h
    rotate_left
    · exact h.elim
    rename_i a n
    obtain ⟨os, lo, hi, ht, ok, hn, h⟩ := h
    have hlen := ok.len2
    have hnm : ∀ o ∈ os, o.nm.length ≤ 12 := fun o ho => (ok.ops o ho).nm.2.1
    obtain ⟨on, hon, rfl⟩ := List.mem_map.mp hn
    have hok : ∀ y ∈ namesL os, okT y := fun y hy => by
      obtain ⟨o, ho, rfl⟩ := List.mem_map.mp hy
      exact okT_name (ok.ops o ho).nm
    have hll := hnm on hon
    have h1l := (ok.ops on hon).nm.1
    generalize on.nm = l at *
    have hne : l ≠ [] := by intro e; subst e; simp at h1l
    walk_at "s"
    refine ⟨by omega, by omega, by omega, by omega, ?_⟩
    rw [show ((l.length : Int) + 1 - 1).toNat = l.length by omega]
    refine lc_map (takeI l) trivial (by rw [rngW_len]; omega) (fun i w acc hw I => ?_) ?_
    · obtain ⟨hi, rfl⟩ := rngW_inv hw
      walk_at "s"
      refine st_opt (e_slS (by omega)) ?_
      refine wx_yes hw I rfl ?_
      rw [show (1 : Int) + (i : Int) = ((i + 1 : Nat) : Int) by omega, cutW_to]
      rfl
    · rw [rng1_map]
      walk_at "s"
      refine lc_fm (onS fun p => decide (matchL (namesL os) p = [l])) (fun w => w) trivial (by rw [List.length_map]; unfold prefs; simp; omega) (fun i w acc hw I => ?_) ?_
      · obtain ⟨p, _, hp, rfl⟩ := map_get hw
        obtain ⟨j, hj, rfl⟩ := prefs_mem hp
        have hpl : (l.take (j + 1)).length ≤ 12 := by rw [List.length_take]; omega
        obtain ⟨dx, k, l2, s, ha, hk, hl2, hs⟩ := ht
        unfold tabO at ha
        walk_at "s"
        refine ⟨os, ⟨dx, k, l2, s, ha, hk, hl2, hs⟩, hlen, hnm, by omega, ?_⟩
        generalize l.take (j + 1) = p at hpl hp hw ⊢
        walk_at "s"
        refine st_opt (e_eqL (b := [l]) (datP_strs _) (datP_strs [l]) ?_ ?_) ?_
        · exact fun y hy => hok y (matchL_mem y hy)
        · intro y hy
          have : y = l := by simpa using hy
          rw [this]
          exact hok l hn
        by_cases hm : matchL (namesL os) p = [l]
        · refine iteY (by simp [hm]) ?_
          walk_at "s"
          exact wx_yes hw I (by simp [onS, hm]) rfl
        · refine iteN (by simp [hm]) ?_
          exact wx_no hw I (by simp [onS, hm])
      · rw [filter_mapS2]
        obtain ⟨r, e⟩ := shortC_cons hn hne
        rw [e]
        walk_at "s"
        refine st_opt (e_ix0 rfl) ?_
        exact fin_here h
def s_is_bundle (_ : PySem.W.Frag) : WSp := fun ws P Po => match ws with
  | [.str x] => x.length ≤ 300 ∧ Po (.bl (bundleB x)) P
  | _ => False
theorem sc_is_bundle : FnScope ["token"] ["token"] (defScope x_is_bundle) := ⟨rfl, rfl, rfl, by decide +kernel, rfl, by decide +kernel, by decide +kernel⟩
theorem cl_is_bundle {P : Program} {w : World} {K : PySem.W.Frag} {mg : Str → Option Value} {base : Heap} (T : Txt K mg)  : Cl P w K mg base 1 "is_bundle" (s_is_bundle K) := by
  obtain ⟨fd, F⟩ := T.d_is_bundle
  refine cl_of F T.g_is_bundle sc_is_bundle (fun ws Ps Po h => ?len) (fun _ _ _ _ _ _ us hl => match us, hl with | [_], _ => rfl) (fun cdv A outer sh H E hr => ⟨_, _,
      (pss_one (ps_ret (pe_and (pe_cmpR op_gt (pe_callB call_lenQ (by rfl) T.f_len boot_len (pa_cons (pv 0) pa_nil)) pe_int (nomark _)) (pe_and (pe_cmpR op_eq (pe_ix ix_seq (pv 0) pe_int (fun _ _ => rfl)) (pe_gs (by rfl) T.s_HYPHEN_lines) (nomark _)) (pe_one (pe_cmpR op_inS (pe_ix ix_seq (pv 0) pe_int (fun _ _ => rfl)) (pe_gs (by rfl) T.s_LETTERS) rfl)))))),
      (ds_ret (de_andV (de_op rd_gt (de_cb rd_len (da_cons (de_var 0) da_nil)) (de_int 1)) (de_andV (de_op rd_eq (de_op rd_ix (de_var 0) (de_int 0)) (de_str k1)) (de_op rd_inS (de_op rd_ix (de_var 0) (de_int 1)) (de_str k0))))), fun ws Ps Po h => ?body⟩)
  case len =>
    unfold s_is_bundle at h
    split at h
    · rfl
    · exact h.elim
  case body =>
    unfold s_is_bundle at h
    split at h
    rotate_left
    · exact h.elim
    rename_i x
    obtain ⟨hl, h⟩ := h
    match x, hl, h with
    | [], hl, h => walk_at "s"; exact fin_here h
    | [c], hl, h => walk_at "s"; exact fin_bl (by unfold bundleB; split <;> simp_all) h
    | c :: d :: r, hl, h =>
      walk_at "s"
      refine iteY (by simp; omega) ?_
      walk_at "s"
      refine st_opt (e_ixS (by omega) (c := c) (atI_natL (c :: d :: r) 0)) ?_
      walk_at "s"
      by_cases hc : c = 45
      · refine iteY (by simp [hc]) ?_
        walk_at "s"
        refine st_opt (e_ixS (by omega) (c := d) (atI_natL (c :: d :: r) 1)) ?_
        walk_at "s"
        subst hc
        exact fin_bl (by unfold bundleB; simp) h
      · refine iteN (by simp [hc]) ?_
        exact fin_bl (by unfold bundleB; split <;> simp_all) h
def s_is_long (_ : PySem.W.Frag) : WSp := fun ws P Po => match ws with
  | [.str x] => x.length ≤ 300 ∧ Po (.bl (longB x)) P
  | _ => False
theorem sc_is_long : FnScope ["token"] ["token"] (defScope x_is_long) := ⟨rfl, rfl, rfl, by decide +kernel, rfl, by decide +kernel, by decide +kernel⟩
theorem cl_is_long {P : Program} {w : World} {K : PySem.W.Frag} {mg : Str → Option Value} {base : Heap} (T : Txt K mg)  : Cl P w K mg base 1 "is_long" (s_is_long K) := by
  obtain ⟨fd, F⟩ := T.d_is_long
  refine cl_of F T.g_is_long sc_is_long (fun ws Ps Po h => ?len) (fun _ _ _ _ _ _ us hl => match us, hl with | [_], _ => rfl) (fun cdv A outer sh H E hr => ⟨_, _,
      (pss_one (ps_ret (pe_and (pe_cmpR op_gt (pe_callB call_lenQ (by rfl) T.f_len boot_len (pa_cons (pv 0) pa_nil)) pe_int (nomark _)) (pe_one (pe_cmpR op_eq (pe_slice sl_str (pv 0) po_none (po_some pe_int)) (pe_gs (by rfl) T.s_SEPARATOR) (nomark _)))))),
      (ds_ret (de_andV (de_op rd_gt (de_cb rd_len (da_cons (de_var 0) da_nil)) (de_int 2)) (de_op rd_eq (de_sl rd_slS (de_var 0) do_none (do_some (de_int 2))) (de_str k8)))), fun ws Ps Po h => ?body⟩)
  case len =>
    unfold s_is_long at h
    split at h
    · rfl
    · exact h.elim
  case body =>
    unfold s_is_long at h
    split at h
    rotate_left
    · exact h.elim
    rename_i x
    obtain ⟨hl, h⟩ := h
    match x, hl, h with
    | [], hl, h => walk_at "s"; exact fin_here h
    | [c], hl, h => walk_at "s"; exact fin_bl (by unfold longB; split <;> simp_all) h
    | [c, d], hl, h => walk_at "s"; exact fin_bl (by unfold longB; split <;> simp_all) h
    | c :: d :: e :: r, hl, h =>
      walk_at "s"
      refine iteY (by simp; omega) ?_
      walk_at "s"
      refine st_opt (e_slS (by omega)) ?_
      rw [show cutW (c :: d :: e :: r) none (some 2) = (c :: d :: e :: r).take 2 from cutW_to _ 2]
      walk_at "s"
      refine fin_bl ?_ h
      show decide ([c, d] = [45, 45]) = _
      unfold longB
      by_cases h1 : c = 45 ∧ d = 45
      · obtain ⟨rfl, rfl⟩ := h1
        simp
      · split
        · rename_i e2
          cases e2
          exact absurd ⟨rfl, rfl⟩ h1
        · refine decide_eq_false ?_
          intro z
          simp at z
          exact h1 z
def s_is_ordinary (_ : PySem.W.Frag) : WSp := fun ws P Po => match ws with
  | [.str x] => x.length ≤ 300 ∧ Po (.bl (ordB x)) P
  | _ => False
theorem sc_is_ordinary : FnScope ["token"] ["token"] (defScope x_is_ordinary) := ⟨rfl, rfl, rfl, by decide +kernel, rfl, by decide +kernel, by decide +kernel⟩
theorem cl_is_ordinary {P : Program} {w : World} {K : PySem.W.Frag} {mg : Str → Option Value} {base : Heap} (T : Txt K mg) (G_is_bundle : Cl P w K mg base 1 "is_bundle" (s_is_bundle K)) (G_is_long : Cl P w K mg base 1 "is_long" (s_is_long K)) : Cl P w K mg base 2 "is_ordinary" (s_is_ordinary K) := by
  obtain ⟨fd, F⟩ := T.d_is_ordinary
  refine cl_of F T.g_is_ordinary sc_is_ordinary (fun ws Ps Po h => ?len) (fun _ _ _ _ _ _ us hl => match us, hl with | [_], _ => rfl) (fun cdv A outer sh H E hr => ⟨_, _,
      (pss_one (ps_ret (pe_and (pe_not (pe_cl G_is_bundle hr (by decide) (by rfl) (pa_cons (pv 0) pa_nil))) (pe_and (pe_not (pe_cl G_is_long hr (by decide) (by rfl) (pa_cons (pv 0) pa_nil))) (pe_one (pe_cmpR op_ne (pv 0) (pe_gs (by rfl) T.s_SEPARATOR) (nomark _))))))),
      (ds_ret (de_andV (de_notV (de_call (da_cons (de_var 0) da_nil))) (de_andV (de_notV (de_call (da_cons (de_var 0) da_nil))) (de_op rd_ne (de_var 0) (de_str k8))))), fun ws Ps Po h => ?body⟩)
  case len =>
    unfold s_is_ordinary at h
    split at h
    · rfl
    · exact h.elim
  case body =>
    unfold s_is_ordinary at h
    split at h
    rotate_left
    · exact h.elim
    rename_i x
    obtain ⟨hl, h⟩ := h
    walk_at "s"
    refine ⟨hl, ?_⟩
    unfold ordB at h
    cases h1 : bundleB x with
    | true =>
      rw [h1] at h
      walk_at "s"
      exact fin_here h
    | false =>
      rw [h1] at h
      walk_at "s"
      refine ⟨hl, ?_⟩
      cases h2 : longB x with
      | true =>
        rw [h2] at h
        walk_at "s"
        exact fin_here h
      | false =>
        rw [h2] at h
        walk_at "s"
        exact fin_here h
end Fc
namespace Fc
open PySem PySem.Spec PyProof.Rows L2
local macro_rules | `(tactic| walk_at "s") => `(tactic| repeat (first
  | refine st_opt rfl ?_
  | refine st_opt (e_len (by first | assumption | omega)) ?_
  | refine st_opt (e_addS (by first | decide | omega | (simp; done) | (simp; omega))) ?_
  | refine st_opt (fldW_at (by first | assumption | exact updP_same) rfl) ?_
  | refine st_opt (insOf_at (by first | assumption | exact updP_same)) ?_
  | refine st_ble rfl ?_
  | refine st_blt rfl ?_
  | refine st_eqr ?_))
def rs0 : Rs := ⟨[], [], none, false⟩
def s_TokenReader___init__ (K : PySem.W.Frag) : WSp := fun ws P Po => match ws with
  | [.r a, w] => ∃ os lo hi dx, w = gramW os lo hi ∧ GOk os lo hi ∧ P a = some (.ins (He.ga K "TokenReader") dx []) ∧ ∀ F P', RdAt K F os hi P' a rs0 → SubP (delP P a) F → Po .non P'
  | _ => False
theorem sc_TokenReader___init__ : FnScope ["self", "grammar"] ["self", "grammar"] (defScope x_TokenReader___init__) := ⟨rfl, rfl, rfl, by decide +kernel, rfl, by decide +kernel, by decide +kernel⟩
theorem cl_TokenReader___init__ {P : Program} {w : World} {K : PySem.W.Frag} {mg : Str → Option Value} {base : Heap} (T : Txt K mg) (G_OptionTable___init__ : Mq P w K mg base 2 "OptionTable" (He.ga K "OptionTable") (s_OptionTable___init__ K)) : Mq P w K mg base 4 "TokenReader" (He.ga K "TokenReader") (s_TokenReader___init__ K) := by
  obtain ⟨fd, F⟩ := T.d_TokenReader___init__
  refine mq_of F T.g_TokenReader T.k_TokenReader sc_TokenReader___init__ (fun ws Ps Po h => ?len) (fun _ _ _ _ _ _ us hl => match us, hl with | [_, _], _ => rfl) (fun cdv A outer sh H E hr => ⟨_, _,
      (pss_cons (ps_fld (pv 0) (pe_mq G_OptionTable___init__ hr (by decide) (by rfl) (pa_cons (pv 1) pa_nil)) rfl)
      (pss_cons (ps_fld (pv 0) (pe_ix ix_seq (pe_ix ix_seq (pv 1) pe_int (fun _ _ => rfl)) pe_int (fun _ _ => rfl)) rfl)
      (pss_cons (ps_fld (pv 0) pe_dnewK rfl)
      (pss_cons (ps_fld (pv 0) (pe_lst pa_nil) rfl)
      (pss_cons (ps_fld (pv 0) pe_non rfl)
      (pss_cons (ps_fld (pv 0) pe_bl rfl)
      (pss_one (ps_fld (pv 0) pe_int rfl)))))))),
      (ds_seq (ds_fld (He.ga K "TokenReader") 7 T.c_TokenReader T.n_TokenReader_table (de_var 0) (de_make (da_cons (de_var 1) da_nil)))
      (ds_seq (ds_fld (He.ga K "TokenReader") 8 T.c_TokenReader T.n_TokenReader_limit (de_var 0) (de_op rd_ix (de_op rd_ix (de_var 1) (de_int 1)) (de_int 1)))
      (ds_seq (ds_fld (He.ga K "TokenReader") 9 T.c_TokenReader T.n_TokenReader_assignments (de_var 0) de_dnew)
      (ds_seq (ds_fld (He.ga K "TokenReader") 10 T.c_TokenReader T.n_TokenReader_words (de_var 0) (de_lstN da_nil))
      (ds_seq (ds_fld (He.ga K "TokenReader") 11 T.c_TokenReader T.n_TokenReader_pending (de_var 0) de_non)
      (ds_seq (ds_fld (He.ga K "TokenReader") 12 T.c_TokenReader T.n_TokenReader_only_words (de_var 0) (de_bl false))
      (ds_fld (He.ga K "TokenReader") 13 T.c_TokenReader T.n_TokenReader_count (de_var 0) (de_int 0)))))))), fun ws Ps Po h => ?body⟩)
  case len =>
    unfold s_TokenReader___init__ at h
    split at h
    · rfl
    · exact h.elim
  case body =>
    unfold s_TokenReader___init__ at h
    split at h
    rotate_left
    · exact h.elim
    rename_i a w
    obtain ⟨os, lo, hi, dx, rfl, ok, ha, h⟩ := h
    walk_at "s"
    intro t dx2 ht
    have hta : a ≠ t := fun e => by subst e; rw [ha] at ht; cases ht
    refine ⟨os, lo, hi, dx2, rfl, ok, updP_same, fun T P1 h1 h2 h3 h4 => ⟨rfl, ?_⟩⟩
    have ha1 : P1 a = some (.ins (He.ga K "TokenReader") dx []) := h4 a _ (by rw [delP_ne hta, updP_ne hta]; exact ha)
    have hTa : T a = none := by
      cases q : T a with
      | none => rfl
      | some o =>
        rcases h2 a (by rw [q]; simp) with e | e
        · exact absurd e hta
        · rw [updP_ne hta, ha] at e
          cases e
    walk_at "s"
    intro d hd
    obtain ⟨hda, hd⟩ := updP_none hd
    have hda : d ≠ a := hda
    obtain ⟨_, hd⟩ := updP_none hd
    walk_at "s"
    refine st_opt (insOf_at (updP_at (Ne.symm hda) updP_same)) ?_
    walk_at "s"
    intro w hw
    obtain ⟨hwa, hw⟩ := updP_none hw
    have hwa : w ≠ a := hwa
    obtain ⟨hwd, hw⟩ := updP_none hw
    obtain ⟨_, hw⟩ := updP_none hw
    obtain ⟨_, hw⟩ := updP_none hw
    walk_at "s"
    refine st_opt (insOf_at (updP_at (Ne.symm hwa) updP_same)) ?_
    walk_at "s"
    have fin : ∀ P2 : Pst, P2 a = some (rdO K dx t hi d w rs0 0) → P2 d = some (.dic []) → P2 w = some (.lst []) → (∀ b, b ≠ a → b ≠ d → b ≠ w → P2 b = P1 b) → finP Po .non P2 := by
      intro P2 g1 g2 g3 g4
      refine fin_here (h (fun b => if b = a ∨ b = d ∨ b = w then none else P2 b) P2 ⟨dx, t, d, w, 0, ⟨g1, g2, g3, ?_, ?_, ?_, ?_, Ne.symm hda, Ne.symm hwa, Ne.symm hwd, ?_, Nat.zero_le _, Nat.zero_le _⟩⟩ ?_)
      · intro b so e
        simp only at e
        split at e
        · cases e
        · exact e
      · exact if_pos (.inl rfl)
      · exact if_pos (.inr (.inl rfl))
      · exact if_pos (.inr (.inr rfl))
      · refine h1.mono fun b so e => ?_
        have q1 : b ≠ a := fun z => by rw [z, hTa] at e; cases e
        have e1 := h3 b so e
        have q2 : b ≠ d := fun z => by rw [z, hd] at e1; cases e1
        have q3 : b ≠ w := fun z => by rw [z, hw] at e1; cases e1
        show (if b = a ∨ b = d ∨ b = w then none else P2 b) = _
        rw [if_neg (by rintro (z | z | z) <;> contradiction), g4 b q1 q2 q3]
        exact e1
      · intro b so e
        have q1 : b ≠ a := fun z => by
          subst z
          unfold delP at e
          rw [if_pos rfl] at e
          cases e
        rw [delP_ne q1] at e
        have q0 : b ≠ t := ne_ofP e ht
        have e1 := h4 b so (by rw [delP_ne q0, updP_ne q0]; exact e)
        have q2 : b ≠ d := fun z => by rw [z, hd] at e1; cases e1
        have q3 : b ≠ w := fun z => by rw [z, hw] at e1; cases e1
        show (if b = a ∨ b = d ∨ b = w then none else P2 b) = _
        rw [if_neg (by rintro (z | z | z) <;> contradiction), g4 b q1 q2 q3]
        exact e1
    refine fin _ updP_same ?_ ?_ ?_
    · repeat (first | exact updP_same | refine updP_at (by first | assumption | exact Ne.symm ‹_›) ?_)
    · repeat (first | exact updP_same | refine updP_at (by first | assumption | exact Ne.symm ‹_›) ?_)
    · intro b q1 q2 q3
      repeat (first | exact rfl | refine updP_at (by assumption) ?_)
def s_TokenReader_add_word (K : PySem.W.Frag) : WSp := fun ws P Po => match ws with
  | [.r a, .str tok] => ∃ F os hi s, RdAt K F os hi P a s ∧ (s.words.length : Int) < hi ∧ hi ≤ 9 ∧ ∀ P', RdAt K F os hi P' a { s with words := s.words ++ [tok] } → Po .non P'
  | _ => False
theorem sc_TokenReader_add_word : FnScope ["self", "token"] ["self", "token"] (defScope x_TokenReader_add_word) := ⟨rfl, rfl, rfl, by decide +kernel, rfl, by decide +kernel, by decide +kernel⟩
theorem cl_TokenReader_add_word {P : Program} {w : World} {K : PySem.W.Frag} {mg : Str → Option Value} {base : Heap} (T : Txt K mg)  : Mt P w K mg base 1 (He.ga K "TokenReader") "add_word" (s_TokenReader_add_word K) := by
  obtain ⟨fd, F⟩ := T.d_TokenReader_add_word
  refine mt_of F T.c_TokenReader T.m_TokenReader_add_word sc_TokenReader_add_word (fun ws Ps Po h => ?len) (fun _ _ _ _ _ _ us hl => match us, hl with | [_, _], _ => rfl) (fun cdv A outer sh H E hr => ⟨_, _,
      (pss_cons (ps_if (pt_cmpR op_eq (pe_callB call_lenQ (by rfl) T.f_len boot_len (pa_cons (pe_fld (pv 0) rfl) pa_nil)) (pe_fld (pv 0) rfl) (nomark _))
      (pss_one ps_never)
      pss_nil)
      (pss_one (ps_expr (pe_bm PySem.F.plainAttrs_list PySem.F.slot_list_append PySem.F.type_list_append mt_append (pe_fld (pv 0) rfl) (pa_cons (pv 1) pa_nil))))),
      (ds_seq (ds_if (dt_test (de_op rd_eq (de_cb rd_len (da_cons (de_fld (He.ga K "TokenReader") 10 T.c_TokenReader T.n_TokenReader_words (de_var 0)) da_nil)) (de_fld (He.ga K "TokenReader") 8 T.c_TokenReader T.n_TokenReader_limit (de_var 0))))
      ds_never
      ds_next)
      (ds_drop (de_app (de_fld (He.ga K "TokenReader") 10 T.c_TokenReader T.n_TokenReader_words (de_var 0)) (de_var 1)))), fun ws Ps Po h => ?body⟩)
  case len =>
    unfold s_TokenReader_add_word at h
    split at h
    · rfl
    · exact h.elim
  case body =>
    unfold s_TokenReader_add_word at h
    split at h
    rotate_left
    · exact h.elim
    rename_i a tok
    obtain ⟨F, os, hi, s, ⟨dx, t, d, w, cnt, R⟩, h1, h2, h⟩ := h
    have ha := R.pa
    unfold rdO at ha
    have hw := R.pw
    have hlw := R.lw
    walk_at "s"
    refine st_opt (e_lenL (seqP_at hw)) ?_
    walk_at "s"
    refine iteN (decide_eq_false (by rw [List.length_map]; omega)) ?_
    walk_at "s"
    refine ⟨⟨w, _, rfl, hw⟩, ?_⟩
    walk_at "s"
    refine st_opt (lstM_at hw) ?_
    refine ⟨by show (s.words.map Wv.str).length < 1000000; rw [List.length_map]; omega, ?_⟩
    have R2 := R.setW (s.words ++ [tok]) (by rw [List.length_append]; simp; omega)
    refine fin_here (h _ ⟨dx, t, d, w, cnt, ?_⟩)
    rw [List.map_append] at R2
    exact R2
def s_TokenReader_start (K : PySem.W.Frag) : WSp := fun ws P Po => match ws with
  | [.r a, .str n] => ∃ F os hi s, RdAt K F os hi P a s ∧ s.pend = none ∧ noKey s.asg n ∧ Po .non P
  | _ => False
theorem sc_TokenReader_start : FnScope ["self", "name"] ["self", "name"] (defScope x_TokenReader_start) := ⟨rfl, rfl, rfl, by decide +kernel, rfl, by decide +kernel, by decide +kernel⟩
theorem cl_TokenReader_start {P : Program} {w : World} {K : PySem.W.Frag} {mg : Str → Option Value} {base : Heap} (T : Txt K mg)  : Mt P w K mg base 1 (He.ga K "TokenReader") "start" (s_TokenReader_start K) := by
  obtain ⟨fd, F⟩ := T.d_TokenReader_start
  refine mt_of F T.c_TokenReader T.m_TokenReader_start sc_TokenReader_start (fun ws Ps Po h => ?len) (fun _ _ _ _ _ _ us hl => match us, hl with | [_, _], _ => rfl) (fun cdv A outer sh H E hr => ⟨_, _,
      (pss_one (ps_if (PW.pt (pw_or (pt_cmp (pc_din (hu_of hr) (pv 1) (pe_fld (pv 0) rfl))) (pw_or1 (pt_cmpR op_eq (pv 1) (pe_fld (pv 0) rfl) (nomark _)))))
      (pss_one ps_never)
      pss_nil)),
      (ds_if (dt_or (dt_B (de_din (de_var 1) (de_fld (He.ga K "TokenReader") 9 T.c_TokenReader T.n_TokenReader_assignments (de_var 0)))) (dt_test (de_op rd_eq (de_var 1) (de_fld (He.ga K "TokenReader") 11 T.c_TokenReader T.n_TokenReader_pending (de_var 0)))))
      ds_never
      ds_next), fun ws Ps Po h => ?body⟩)
  case len =>
    unfold s_TokenReader_start at h
    split at h
    · rfl
    · exact h.elim
  case body =>
    unfold s_TokenReader_start at h
    split at h
    rotate_left
    · exact h.elim
    rename_i a n
    obtain ⟨F, os, hi, s, ⟨dx, t, d, w, cnt, R⟩, h1, h2, h⟩ := h
    have ha := R.pa
    unfold rdO at ha
    rw [h1] at ha
    walk_at "s"
    refine st_opt (dicP_at R.pd) ?_
    refine iteN (look_no h2) ?_
    walk_at "s"
    exact fin_here h
end Fc
namespace Fc
open PySem PySem.Spec PyProof.Rows L2
local macro_rules | `(tactic| walk_at "s") => `(tactic| repeat (first
  | refine st_opt rfl ?_
  | refine st_opt (e_len (by first | assumption | omega)) ?_
  | refine st_opt (e_addS (by first | decide | omega | (simp; done) | (simp; omega))) ?_
  | refine st_opt (fldW_at (by first | assumption | exact updP_same) rfl) ?_
  | refine st_opt (insOf_at (by first | assumption | exact updP_same)) ?_
  | refine st_ble rfl ?_
  | refine st_blt rfl ?_
  | refine st_eqr ?_))
def s_TokenReader_assign (K : PySem.W.Frag) : WSp := fun ws P Po => match ws with
  | [.r a, .str n, .str tx] => ∃ F os lo hi s o v, RdAt K F os hi P a s ∧ GOk os lo hi ∧ o ∈ os ∧ n = o.nm ∧ o.kd ≠ .non ∧ TokOk tx ∧ ValR o.kd tx [v] ∧ s.asg.length ≤ 99 ∧ ∀ P', RdAt K F os hi P' a { s with asg := putD s.asg n v } → Po .non P'
  | _ => False
theorem sc_TokenReader_assign : FnScope ["self", "name", "text", "found"] ["self", "name", "text"] (defScope x_TokenReader_assign) := ⟨rfl, rfl, rfl, by decide +kernel, rfl, by decide +kernel, by decide +kernel⟩
theorem cl_TokenReader_assign {P : Program} {w : World} {K : PySem.W.Frag} {mg : Str → Option Value} {base : Heap} (T : Txt K mg) (G_value_of : Cl P w K mg base 2 "value_of" (s_value_of K)) : Mt P w K mg base 3 (He.ga K "TokenReader") "assign" (s_TokenReader_assign K) := by
  obtain ⟨fd, F⟩ := T.d_TokenReader_assign
  refine mt_of F T.c_TokenReader T.m_TokenReader_assign sc_TokenReader_assign (fun ws Ps Po h => ?len) (fun _ _ _ _ _ _ us hl => match us, hl with | [_, _, _], _ => rfl) (fun cdv A outer sh H E hr => ⟨_, _,
      (pss_cons (ps_set (i := 3) sc_TokenReader_assign.nd rfl (by first | exact Or.inl rfl | exact Or.inr rfl) (pe_cl G_value_of hr (by decide) (by rfl) (pa_cons (pe_dget (hu_of hr) (pe_fld (pe_fld (pv 0) rfl) rfl) (pv 1) (fun _ _ => rfl)) (pa_cons (pv 2) pa_nil))))
      (pss_cons (ps_if (pt_cmpR (op_eqD hr.units) (pv 3) (pe_lst pa_nil) (nomark _))
      (pss_one ps_never)
      pss_nil)
      (pss_one (ps_dput (hu_of hr) (pe_fld (pv 0) rfl) (pv 1) (pe_ix ix_seq (pv 3) pe_int (fun _ _ => rfl)) rfl)))),
      (ds_seq (ds_asg (de_call (da_cons (de_dget (de_fld (He.ga K "OptionTable") 4 T.c_OptionTable T.n_OptionTable_kinds (de_fld (He.ga K "TokenReader") 7 T.c_TokenReader T.n_TokenReader_table (de_var 0))) (de_var 1)) (da_cons (de_var 2) da_nil))) (dg_name 3))
      (ds_seq (ds_if (dt_test (de_op rd_eqD (de_var 3) (de_lst da_nil)))
      ds_never
      ds_next)
      (ds_dput (de_fld (He.ga K "TokenReader") 9 T.c_TokenReader T.n_TokenReader_assignments (de_var 0)) (de_var 1) (de_op rd_ix (de_var 3) (de_int 0))))), fun ws Ps Po h => ?body⟩)
  case len =>
    unfold s_TokenReader_assign at h
    split at h
    · rfl
    · exact h.elim
  case body =>
    unfold s_TokenReader_assign at h
    split at h
    rotate_left
    · exact h.elim
    rename_i a n tx
    obtain ⟨F, os, lo, hi, s, o, v, ⟨dx, t, d, w, cnt, R⟩, ok, ho, rfl, hk, htx, hv, hl, h⟩ := h
    have ha := R.pa
    unfold rdO at ha
    obtain ⟨dx2, k, l, u, h1, h2, h3, h4⟩ := R.tabP
    unfold tabO at h1
    obtain ⟨dd, e1, e2, e3⟩ := valR_dat (ok.ops o ho).kd htx hv
    walk_at "s"
    refine st_opt (dicP_at h2) ?_
    refine st_opt (look_kinds ok ho) ?_
    walk_at "s"
    refine ⟨o.kd, [v], rfl, (ok.ops o ho).kd, htx, hv, ?_⟩
    walk_at "s"
    refine st_opt (e_eqNil1 e1 e2 e3) ?_
    walk_at "s"
    refine st_opt (dicM_at R.pd) ?_
    refine ⟨by show s.asg.length < 1000; omega, ?_⟩
    exact fin_here (h _ ⟨dx, t, d, w, cnt, R.setD (putD s.asg o.nm _) (Nat.le_trans putD_len (by omega))⟩)
def s_TokenReader_read_long (K : PySem.W.Frag) : WSp := fun ws P Po => match ws with
  | [.r a, .str x] => ∃ F os lo hi s s', RdAt K F os hi P a s ∧ GOk os lo hi ∧ s.asg.length ≤ 99 ∧ s.pend = none ∧ s.only = false ∧ RStep os hi s (45 :: 45 :: x) s' ∧ x ≠ [] ∧ ∀ P', RdAt K F os hi P' a s' → Po .non P'
  | _ => False
theorem hk_len {os : List Op} {lo hi : Int} (g : GOk os lo hi) : ∀ o ∈ os, o.nm.length ≤ 12 := fun o ho => (g.ops o ho).nm.2.1
theorem sc_TokenReader_read_long : FnScope ["self", "text", "name_text", "equals", "value_text", "names", "name"] ["self", "text"] (defScope x_TokenReader_read_long) := ⟨rfl, rfl, rfl, by decide +kernel, rfl, by decide +kernel, by decide +kernel⟩
theorem cl_TokenReader_read_long {P : Program} {w : World} {K : PySem.W.Frag} {mg : Str → Option Value} {base : Heap} (T : Txt K mg) (G_OptionTable_matches : Mt P w K mg base 1 (He.ga K "OptionTable") "matches" (s_OptionTable_matches K)) (G_TokenReader_start : Mt P w K mg base 1 (He.ga K "TokenReader") "start" (s_TokenReader_start K)) (G_TokenReader_assign : Mt P w K mg base 3 (He.ga K "TokenReader") "assign" (s_TokenReader_assign K)) : Mt P w K mg base 4 (He.ga K "TokenReader") "read_long" (s_TokenReader_read_long K) := by
  obtain ⟨fd, F⟩ := T.d_TokenReader_read_long
  refine mt_of F T.c_TokenReader T.m_TokenReader_read_long sc_TokenReader_read_long (fun ws Ps Po h => ?len) (fun _ _ _ _ _ _ us hl => match us, hl with | [_, _], _ => rfl) (fun cdv A outer sh H E hr => ⟨_, _,
      (pss_cons (ps_asg (pe_partition (pv 1) (pe_gs (by rfl) T.s_EQUALS)) (pg_tup (n := 3) rfl (pgs_cons (pg_name (i := 2) sc_TokenReader_read_long.nd rfl (by first | exact Or.inl rfl | exact Or.inr rfl)) (pgs_cons (pg_name (i := 3) sc_TokenReader_read_long.nd rfl (by first | exact Or.inl rfl | exact Or.inr rfl)) (pgs_cons (pg_name (i := 4) sc_TokenReader_read_long.nd rfl (by first | exact Or.inl rfl | exact Or.inr rfl)) pgs_nil)))))
      (pss_cons (ps_set (i := 5) sc_TokenReader_read_long.nd rfl (by first | exact Or.inl rfl | exact Or.inr rfl) (pe_mtd G_OptionTable_matches hr (by decide) (pe_fld (pv 0) rfl) (pa_cons (pv 2) pa_nil)))
      (pss_cons (ps_if (pt_cmpR op_ne (pe_callB call_lenQ (by rfl) T.f_len boot_len (pa_cons (pv 5) pa_nil)) pe_int (nomark _))
      (pss_one ps_never)
      pss_nil)
      (pss_cons (ps_set (i := 6) sc_TokenReader_read_long.nd rfl (by first | exact Or.inl rfl | exact Or.inr rfl) (pe_ix ix_seq (pv 5) pe_int (fun _ _ => rfl)))
      (pss_cons (ps_expr (pe_mtd G_TokenReader_start hr (by decide) (pv 0) (pa_cons (pv 6) pa_nil)))
      (pss_one (ps_if (pt_cmpR op_isN1 (pe_dget (hu_of hr) (pe_fld (pe_fld (pv 0) rfl) rfl) (pv 6) (fun _ _ => rfl)) pe_non (nomark _))
      (pss_cons (ps_if (pt_cmpR op_ne (pv 3) pe_str (nomark _))
      (pss_one ps_never)
      pss_nil)
      (pss_one (ps_dput (hu_of hr) (pe_fld (pv 0) rfl) (pv 6) pe_bl rfl)))
      (pss_one (ps_if (pt_cmpR op_ne (pv 3) pe_str (nomark _))
      (pss_one (ps_expr (pe_mtd G_TokenReader_assign hr (by decide) (pv 0) (pa_cons (pv 6) (pa_cons (pv 4) pa_nil)))))
      (pss_one (ps_fld (pv 0) (pv 6) rfl))))))))))),
      (ds_seq (ds_asg (de_m1 rd_part (de_var 1) (de_str k9)) (dg_tup (dgs_cons (dg_name 2) (dgs_cons (dg_name 3) (dgs_cons (dg_name 4) dgs_nil)))))
      (ds_seq (ds_asg (de_meth (de_fld (He.ga K "TokenReader") 7 T.c_TokenReader T.n_TokenReader_table (de_var 0)) (da_cons (de_var 2) da_nil)) (dg_name 5))
      (ds_seq (ds_if (dt_test (de_op rd_ne (de_cb rd_len (da_cons (de_var 5) da_nil)) (de_int 1)))
      ds_never
      ds_next)
      (ds_seq (ds_asg (de_op rd_ix (de_var 5) (de_int 0)) (dg_name 6))
      (ds_seq (ds_drop (de_meth (de_var 0) (da_cons (de_var 6) da_nil)))
      (ds_if (dt_test (de_op rd_isN (de_dget (de_fld (He.ga K "OptionTable") 4 T.c_OptionTable T.n_OptionTable_kinds (de_fld (He.ga K "TokenReader") 7 T.c_TokenReader T.n_TokenReader_table (de_var 0))) (de_var 6)) de_non))
      (ds_seq (ds_if (dt_test (de_op rd_ne (de_var 3) (de_str k14)))
      ds_never
      ds_next)
      (ds_dput (de_fld (He.ga K "TokenReader") 9 T.c_TokenReader T.n_TokenReader_assignments (de_var 0)) (de_var 6) (de_bl true)))
      (ds_if (dt_test (de_op rd_ne (de_var 3) (de_str k14)))
      (ds_drop (de_meth (de_var 0) (da_cons (de_var 6) (da_cons (de_var 4) da_nil))))
      (ds_fld (He.ga K "TokenReader") 11 T.c_TokenReader T.n_TokenReader_pending (de_var 0) (de_var 6))))))))), fun ws Ps Po h => ?body⟩)
  case len =>
    unfold s_TokenReader_read_long at h
    split at h
    · rfl
    · exact h.elim
  case body =>
    unfold s_TokenReader_read_long at h
    split at h
    rotate_left
    · exact h.elim
    rename_i a x
    obtain ⟨F, os, lo, hi, s, s', ⟨dx, t, d, w, cnt, R⟩, ok, hl, hpe, hon, hst, hxn, h⟩ := h
    have ha := R.pa
    unfold rdO at ha
    rw [hpe] at ha
    obtain ⟨dx2, k, l, u, h1, h2, h3, h4⟩ := R.tabP
    have hT := R.tabP
    unfold tabO at h1
    generalize e : 45 :: 45 :: x = tok at hst
    cases hst with
    | pend _ q _ _ _ => rw [hpe] at q; cases q
    | word _ _ q _ =>
      exfalso
      subst e
      rcases q with q | q
      · rw [hon] at q; cases q
      · cases x with
        | nil => exact hxn rfl
        | cons c r => simp [ordB, longB, bundleB] at q
    | sep _ _ =>
      cases e
      exact absurd rfl hxn
    | @long o x' _ _ ho hx0 hx1 h61 hm hno hkd =>
      cases e
      walk_at "s"
      refine st_opt (if_pos ⟨by simp, sz1000 (by omega)⟩) ?_
      rw [part_no h61]
      walk_at "s"
      refine ⟨os, hT, ok.len2, hk_len ok, by omega, ?_⟩
      rw [hm]
      walk_at "s"
      refine ⟨F, os, hi, s, ⟨dx, t, d, w, cnt, R⟩, hpe, hno, ?_⟩
      walk_at "s"
      refine st_opt (dicP_at h2) ?_
      refine st_opt (look_kinds ok ho) ?_
      rw [hkd]
      walk_at "s"
      refine st_opt (dicM_at R.pd) ?_
      refine ⟨by show s.asg.length < 1000; omega, ?_⟩
      exact fin_here (h _ ⟨dx, t, d, w, cnt, R.setD (putD s.asg o.nm _) (Nat.le_trans putD_len (by omega))⟩)
    | @longV o x' y v _ _ ho hxl h61 hm hno hkd hy hv =>
      cases e
      have hxL : (x' ++ 61 :: y).length ≤ 1000 := by rw [List.length_append, List.length_cons]; omega
      walk_at "s"
      refine st_opt (if_pos ⟨by simp, sz1000 hxL⟩) ?_
      rw [part_in rfl h61]
      walk_at "s"
      refine ⟨os, hT, ok.len2, hk_len ok, by omega, ?_⟩
      rw [hm]
      walk_at "s"
      refine ⟨F, os, hi, s, ⟨dx, t, d, w, cnt, R⟩, hpe, hno, ?_⟩
      walk_at "s"
      refine st_opt (dicP_at h2) ?_
      refine st_opt (look_kinds ok ho) ?_
      walk_at "s"
      refine iteN (isNon_kd hkd) ?_
      walk_at "s"
      refine ⟨F, os, lo, hi, s, o, v, ⟨dx, t, d, w, cnt, R⟩, ok, ho, rfl, hkd, hy, hv, hl, fun P' R' => ?_⟩
      exact fin_here (h _ R')
    | bun _ _ hc _ _ _ =>
      cases e
      exact absurd hc (by decide)
end Fc
namespace Fc
open PySem PySem.Spec PyProof.Rows L2
local macro_rules | `(tactic| walk_at "s") => `(tactic| repeat (first
  | refine st_opt rfl ?_
  | refine st_opt (e_len (by first | assumption | omega)) ?_
  | refine st_opt (e_addS (by first | decide | omega | (simp; done) | (simp; omega))) ?_
  | refine st_opt (fldW_at (by first | assumption | exact updP_same) rfl) ?_
  | refine st_opt (insOf_at (by first | assumption | exact updP_same)) ?_
  | refine st_ble rfl ?_
  | refine st_blt rfl ?_
  | refine st_eqr ?_))
def s_TokenReader_read_bundle (K : PySem.W.Frag) : WSp := fun ws P Po => match ws with
  | [.r a, .str x] => ∃ F os lo hi s g' p, RdAt K F os hi P a s ∧ GOk os lo hi ∧ s.pend = none ∧ x.length ≤ 200 ∧ BunR os x s.asg g' p ∧ g'.length ≤ 100 ∧ ∀ P', RdAt K F os hi P' a { s with asg := g', pend := p } → Po .non P'
  | _ => False
def BnI (K : PySem.W.Frag) (F : Pst) (os : List Op) (hi : Int) (a : Addr) (s : Rs) (x : List Nat) (g' : List (List Nat × Wv)) (p : Option (List Nat)) (i : Nat) (G : Env) (P : Pst) : Prop := ∃ g y1 y2 y3, G = [some (.r a), some (.str x), y1, y2, y3] ∧ BunR os (x.drop i) g g' p ∧ RdAt K F os hi P a { s with asg := g, pend := none }
theorem sc_TokenReader_read_bundle : FnScope ["self", "letters", "index", "letter", "name"] ["self", "letters"] (defScope x_TokenReader_read_bundle) := ⟨rfl, rfl, rfl, by decide +kernel, rfl, by decide +kernel, by decide +kernel⟩
theorem cl_TokenReader_read_bundle {P : Program} {w : World} {K : PySem.W.Frag} {mg : Str → Option Value} {base : Heap} (T : Txt K mg) (G_TokenReader_start : Mt P w K mg base 1 (He.ga K "TokenReader") "start" (s_TokenReader_start K)) (G_TokenReader_assign : Mt P w K mg base 3 (He.ga K "TokenReader") "assign" (s_TokenReader_assign K)) : Mt P w K mg base 4 (He.ga K "TokenReader") "read_bundle" (s_TokenReader_read_bundle K) := by
  obtain ⟨fd, F⟩ := T.d_TokenReader_read_bundle
  refine mt_of F T.c_TokenReader T.m_TokenReader_read_bundle sc_TokenReader_read_bundle (fun ws Ps Po h => ?len) (fun _ _ _ _ _ _ us hl => match us, hl with | [_, _], _ => rfl) (fun cdv A outer sh H E hr => ⟨_, _,
      (pss_one (ps_for PassesOwn.never rfl (pi_enumS (by rfl) T.f_enumerate (pa_cons (pv 1) pa_nil)) (pg_tup (n := 2) rfl (pgs_cons (pg_name (i := 2) sc_TokenReader_read_bundle.nd rfl (by first | exact Or.inl rfl | exact Or.inr rfl)) (pgs_cons (pg_name (i := 3) sc_TokenReader_read_bundle.nd rfl (by first | exact Or.inl rfl | exact Or.inr rfl)) pgs_nil)))
      (pss_cons (ps_if (pt_cmp (pc_dnotin (hu_of hr) (pv 3) (pe_fld (pe_fld (pv 0) rfl) rfl)))
      (pss_one ps_never)
      pss_nil)
      (pss_cons (ps_set (i := 4) sc_TokenReader_read_bundle.nd rfl (by first | exact Or.inl rfl | exact Or.inr rfl) (pe_dget (hu_of hr) (pe_fld (pe_fld (pv 0) rfl) rfl) (pv 3) (fun _ _ => rfl)))
      (pss_cons (ps_expr (pe_mtd G_TokenReader_start hr (by decide) (pv 0) (pa_cons (pv 4) pa_nil)))
      (pss_cons (ps_if (pt_cmpR op_notN1 (pe_dget (hu_of hr) (pe_fld (pe_fld (pv 0) rfl) rfl) (pv 4) (fun _ _ => rfl)) pe_non (nomark _))
      (pss_cons (ps_if (pt_cmpR op_lt (pe_op op_add (pv 2) pe_int) (pe_callB call_lenQ (by rfl) T.f_len boot_len (pa_cons (pv 1) pa_nil)) (nomark _))
      (pss_one (ps_expr (pe_mtd G_TokenReader_assign hr (by decide) (pv 0) (pa_cons (pv 4) (pa_cons (pe_slice sl_str (pv 1) (po_some (pe_op op_add (pv 2) pe_int)) po_none) pa_nil)))))
      (pss_one (ps_fld (pv 0) (pv 4) rfl)))
      (pss_one ps_retN))
      pss_nil)
      (pss_one (ps_dput (hu_of hr) (pe_fld (pv 0) rfl) (pv 4) pe_bl rfl)))))))),
      (ds_for (di_enumS (da_cons (de_var 1) da_nil)) (dg_tup (dgs_cons (dg_name 2) (dgs_cons (dg_name 3) dgs_nil)))
      (ds_seq (ds_if (dt_B (de_dnotin (de_var 3) (de_fld (He.ga K "OptionTable") 5 T.c_OptionTable T.n_OptionTable_letters (de_fld (He.ga K "TokenReader") 7 T.c_TokenReader T.n_TokenReader_table (de_var 0)))))
      ds_never
      ds_next)
      (ds_seq (ds_asg (de_dget (de_fld (He.ga K "OptionTable") 5 T.c_OptionTable T.n_OptionTable_letters (de_fld (He.ga K "TokenReader") 7 T.c_TokenReader T.n_TokenReader_table (de_var 0))) (de_var 3)) (dg_name 4))
      (ds_seq (ds_drop (de_meth (de_var 0) (da_cons (de_var 4) da_nil)))
      (ds_seq (ds_if (dt_test (de_op rd_notN (de_dget (de_fld (He.ga K "OptionTable") 4 T.c_OptionTable T.n_OptionTable_kinds (de_fld (He.ga K "TokenReader") 7 T.c_TokenReader T.n_TokenReader_table (de_var 0))) (de_var 4)) de_non))
      (ds_seq (ds_if (dt_test (de_op rd_lt (de_op rd_add (de_var 2) (de_int 1)) (de_cb rd_len (da_cons (de_var 1) da_nil))))
      (ds_drop (de_meth (de_var 0) (da_cons (de_var 4) (da_cons (de_sl rd_slS (de_var 1) (do_some (de_op rd_add (de_var 2) (de_int 1))) do_none) da_nil))))
      (ds_fld (He.ga K "TokenReader") 11 T.c_TokenReader T.n_TokenReader_pending (de_var 0) (de_var 4)))
      ds_retN)
      ds_next)
      (ds_dput (de_fld (He.ga K "TokenReader") 9 T.c_TokenReader T.n_TokenReader_assignments (de_var 0)) (de_var 4) (de_bl true))))))), fun ws Ps Po h => ?body⟩)
  case len =>
    unfold s_TokenReader_read_bundle at h
    split at h
    · rfl
    · exact h.elim
  case body =>
    unfold s_TokenReader_read_bundle at h
    split at h
    rotate_left
    · exact h.elim
    rename_i a x
    obtain ⟨F, os, lo, hi, s, g', p, R, ok, hpe, hxl, hb, hgl, h⟩ := h
    walk_at "s"
    refine for_I (BnI K F os hi a s x g' p) ?_ (fun _ _ _ _ => trivial) ?_ ?_
    · refine ⟨s.asg, none, none, none, rfl, hb, ?_⟩
      have e : ({ s with asg := s.asg, pend := none } : Rs) = s := by cases s; simp_all
      rw [e]
      exact R
    · rintro i w G2 P2 hw ⟨g, y1, y2, y3, rfl, hb, dx, t, d, w1, cnt, R⟩
      obtain ⟨ow, how, rfl⟩ := enumW_inv hw
      obtain ⟨c, hc, hm, rfl⟩ := sgnW_get how
      have hi1 := (List.getElem?_eq_some_iff.mp hc).1
      have hdr : x.drop i = c :: x.drop (i + 1) := by
        obtain ⟨h1, h2⟩ := List.getElem?_eq_some_iff.mp hc
        rw [List.drop_eq_getElem_cons h1, h2]
      rw [hdr] at hb
      have ha := R.pa
      unfold rdO at ha
      obtain ⟨dx2, k, l, u, h1, h2, h3, h4⟩ := R.tabP
      unfold tabO at h1
      have hgd : P2 d = some (.dic g) := R.pd
      generalize er : x.drop (i + 1) = r at hb
      have hrl : r.length + (i + 1) = x.length := by
        have := congrArg List.length er
        rw [List.length_drop] at this
        omega
      cases hb with
      | @flag o _ _ _ _ _ ho hlt hkd hno hb =>
        walk_at "s"
        refine st_opt (dicP_at h3) ?_
        refine iteN (by rw [e_letters ok ho hlt]; rfl) ?_
        walk_at "s"
        refine st_opt (dicP_at h3) ?_
        refine st_opt (e_letters ok ho hlt) ?_
        walk_at "s"
        refine ⟨F, os, hi, { s with asg := g, pend := none }, ⟨dx, t, d, w1, cnt, R⟩, rfl, hno, ?_⟩
        walk_at "s"
        refine st_opt (dicP_at h2) ?_
        refine st_opt (look_kinds ok ho) ?_
        rw [hkd]
        walk_at "s"
        refine st_opt (dicM_at hgd) ?_
        have hgl2 := hb.len
        rw [putD_lenN hno] at hgl2
        refine ⟨by show g.length < 1000; omega, ?_⟩
        refine ⟨putD g o.nm (.bl true), _, _, _, rfl, ?_, dx, t, d, w1, cnt, R.setD _ (by rw [putD_lenN hno]; omega)⟩
        rw [er]
        exact hb
      | @val o _ _ g v ho hlt hkd hno hr htx hv =>
        walk_at "s"
        refine st_opt (dicP_at h3) ?_
        refine iteN (by rw [e_letters ok ho hlt]; rfl) ?_
        walk_at "s"
        refine st_opt (dicP_at h3) ?_
        refine st_opt (e_letters ok ho hlt) ?_
        walk_at "s"
        refine ⟨F, os, hi, _, ⟨dx, t, d, w1, cnt, R⟩, rfl, hno, ?_⟩
        walk_at "s"
        refine st_opt (dicP_at h2) ?_
        refine st_opt (look_kinds ok ho) ?_
        walk_at "s"
        refine iteY (by rw [isNon_kd hkd]; rfl) ?_
        walk_at "s"
        have hr1 := List.length_pos_iff.mpr hr
        refine iteY (decide_eq_true (by omega)) ?_
        walk_at "s"
        refine st_opt (e_slS (by omega)) ?_
        rw [show (i : Int) + 1 = ((i + 1 : Nat) : Int) by omega, cutW_from, er]
        walk_at "s"
        rw [putD_lenN hno] at hgl
        refine ⟨F, os, lo, hi, _, o, v, ⟨dx, t, d, w1, cnt, R⟩, ok, ho, rfl, hkd, htx, hv, by dsimp only; omega, fun P' R' => ?_⟩
        exact fin_here (h _ R')
      | @pend o _ _ ho hlt hkd hno =>
        walk_at "s"
        refine st_opt (dicP_at h3) ?_
        refine iteN (by rw [e_letters ok ho hlt]; rfl) ?_
        walk_at "s"
        refine st_opt (dicP_at h3) ?_
        refine st_opt (e_letters ok ho hlt) ?_
        walk_at "s"
        refine ⟨F, os, hi, _, ⟨dx, t, d, w1, cnt, R⟩, rfl, hno, ?_⟩
        walk_at "s"
        refine st_opt (dicP_at h2) ?_
        refine st_opt (look_kinds ok ho) ?_
        walk_at "s"
        refine iteY (by rw [isNon_kd hkd]; rfl) ?_
        walk_at "s"
        simp only [List.length_nil] at hrl
        refine iteN (decide_eq_false (by omega)) ?_
        walk_at "s"
        exact fin_here (h _ ⟨dx, t, d, w1, cnt, R.setA (some o.nm) s.only cnt⟩)
    · rintro G2 P2 ⟨g, y1, y2, y3, rfl, hb, R⟩
      have e : x.drop (enumW (sgnW x)).length = [] := by
        rw [enumW_len]
        have : (sgnW x).length = x.length := List.length_map _
        rw [this, List.drop_length]
      rw [e] at hb
      cases hb
      exact fin_here (h _ R)
def s_TokenReader_read (K : PySem.W.Frag) : WSp := fun ws P Po => match ws with
  | [.r a, .str tok] => ∃ F os lo hi s s', RdAt K F os hi P a s ∧ GOk os lo hi ∧ s.asg.length ≤ 99 ∧ RStep os hi s tok s' ∧ ∀ P', RdAt K F os hi P' a s' → Po .non P'
  | _ => False
theorem ordB_cases {x : List Nat} (h : ordB x = true) : bundleB x = false ∧ longB x = false ∧ x ≠ [45, 45] := by
  unfold ordB at h
  simp only [Bool.and_eq_true, Bool.not_eq_true', decide_eq_false_iff_not] at h
  exact ⟨h.1.1, h.1.2, h.2⟩
theorem sc_TokenReader_read : FnScope ["self", "token", "name"] ["self", "token"] (defScope x_TokenReader_read) := ⟨rfl, rfl, rfl, by decide +kernel, rfl, by decide +kernel, by decide +kernel⟩
theorem cl_TokenReader_read {P : Program} {w : World} {K : PySem.W.Frag} {mg : Str → Option Value} {base : Heap} (T : Txt K mg) (G_TokenReader_assign : Mt P w K mg base 3 (He.ga K "TokenReader") "assign" (s_TokenReader_assign K)) (G_is_ordinary : Cl P w K mg base 2 "is_ordinary" (s_is_ordinary K)) (G_TokenReader_add_word : Mt P w K mg base 1 (He.ga K "TokenReader") "add_word" (s_TokenReader_add_word K)) (G_is_long : Cl P w K mg base 1 "is_long" (s_is_long K)) (G_TokenReader_read_long : Mt P w K mg base 4 (He.ga K "TokenReader") "read_long" (s_TokenReader_read_long K)) (G_TokenReader_read_bundle : Mt P w K mg base 4 (He.ga K "TokenReader") "read_bundle" (s_TokenReader_read_bundle K)) : Mt P w K mg base 5 (He.ga K "TokenReader") "read" (s_TokenReader_read K) := by
  obtain ⟨fd, F⟩ := T.d_TokenReader_read
  refine mt_of F T.c_TokenReader T.m_TokenReader_read sc_TokenReader_read (fun ws Ps Po h => ?len) (fun _ _ _ _ _ _ us hl => match us, hl with | [_, _], _ => rfl) (fun cdv A outer sh H E hr => ⟨_, _,
      (pss_cons (ps_if (pt_cmpR op_notN1 (pe_fld (pv 0) rfl) pe_non (nomark _))
      (pss_cons (ps_asg (pe_tup (pa_cons (pe_fld (pv 0) rfl) (pa_cons pe_non pa_nil))) (pg_tup (n := 2) rfl (pgs_cons (pg_name (i := 2) sc_TokenReader_read.nd rfl (by first | exact Or.inl rfl | exact Or.inr rfl)) (pgs_cons (pg_fld (pv 0)) pgs_nil))))
      (pss_one (ps_expr (pe_mtd G_TokenReader_assign hr (by decide) (pv 0) (pa_cons (pv 2) (pa_cons (pv 1) pa_nil))))))
      (pss_one (ps_if (PW.pt (pw_or (pt_val (pe_fld (pv 0) rfl)) (pw_or1 (pt_val (pe_cl G_is_ordinary hr (by decide) (by rfl) (pa_cons (pv 1) pa_nil))))))
      (pss_one (ps_expr (pe_mtd G_TokenReader_add_word hr (by decide) (pv 0) (pa_cons (pv 1) pa_nil))))
      (pss_one (ps_if (pt_cmpR op_eq (pv 1) (pe_gs (by rfl) T.s_SEPARATOR) (nomark _))
      (pss_one (ps_fld (pv 0) pe_bl rfl))
      (pss_one (ps_if (pt_val (pe_cl G_is_long hr (by decide) (by rfl) (pa_cons (pv 1) pa_nil)))
      (pss_one (ps_expr (pe_mtd G_TokenReader_read_long hr (by decide) (pv 0) (pa_cons (pe_slice sl_str (pv 1) (po_some pe_int) po_none) pa_nil))))
      (pss_one (ps_expr (pe_mtd G_TokenReader_read_bundle hr (by decide) (pv 0) (pa_cons (pe_slice sl_str (pv 1) (po_some pe_int) po_none) pa_nil)))))))))))
      (pss_one (ps_fldaug (pv 0) pe_int in_add))),
      (ds_seq (ds_if (dt_test (de_op rd_notN (de_fld (He.ga K "TokenReader") 11 T.c_TokenReader T.n_TokenReader_pending (de_var 0)) de_non))
      (ds_seq (ds_asg (de_tup (da_cons (de_fld (He.ga K "TokenReader") 11 T.c_TokenReader T.n_TokenReader_pending (de_var 0)) (da_cons de_non da_nil))) (dg_tup (dgs_cons (dg_name 2) (dgs_cons (dg_fld (He.ga K "TokenReader") 11 T.c_TokenReader T.n_TokenReader_pending (de_var 0)) dgs_nil))))
      (ds_drop (de_meth (de_var 0) (da_cons (de_var 2) (da_cons (de_var 1) da_nil)))))
      (ds_if (dt_or (dt_B (de_fld (He.ga K "TokenReader") 12 T.c_TokenReader T.n_TokenReader_only_words (de_var 0))) (dt_B (de_call (da_cons (de_var 1) da_nil))))
      (ds_drop (de_meth (de_var 0) (da_cons (de_var 1) da_nil)))
      (ds_if (dt_test (de_op rd_eq (de_var 1) (de_str k8)))
      (ds_fld (He.ga K "TokenReader") 12 T.c_TokenReader T.n_TokenReader_only_words (de_var 0) (de_bl true))
      (ds_if (dt_B (de_call (da_cons (de_var 1) da_nil)))
      (ds_drop (de_meth (de_var 0) (da_cons (de_sl rd_slS (de_var 1) (do_some (de_int 2)) do_none) da_nil)))
      (ds_drop (de_meth (de_var 0) (da_cons (de_sl rd_slS (de_var 1) (do_some (de_int 1)) do_none) da_nil)))))))
      (ds_fldaug (He.ga K "TokenReader") 13 T.c_TokenReader T.n_TokenReader_count rd_augI (de_var 0) (de_int 1))), fun ws Ps Po h => ?body⟩)
  case len =>
    unfold s_TokenReader_read at h
    split at h
    · rfl
    · exact h.elim
  case body =>
    unfold s_TokenReader_read at h
    split at h
    rotate_left
    · exact h.elim
    rename_i a tok
    obtain ⟨F, os, lo, hi, s, s', ⟨dx, t, d, w, cnt, R⟩, ok, hl, hst, h⟩ := h
    have hhi := ok.hi9
    have ha := R.pa
    unfold rdO at ha
    have fin : ∀ P2 : Pst, RdAt K F os hi P2 a s' → ∀ G, dSFldAug (He.ga K "TokenReader") 13 augI (dVar 0) (dC (.int 1)) (finD Po) (some (.r a) :: G) P2 := by
      rintro P2 ⟨dx, t, d, w, cnt, R2⟩ G
      have ha2 := R2.pa
      unfold rdO at ha2
      walk_at "s"
      exact fin_here (h _ ⟨dx, t, d, w, cnt + 1, R2.setA s'.pend s'.only (cnt + 1)⟩)
    cases hst with
    | @pend o _ v ho hp hkd htx hv =>
      rw [hp] at ha
      walk_at "s"
      have R1 := R.setA none s.only cnt
      have ha1 := R1.pa
      refine ⟨F, os, lo, hi, { s with pend := none, only := s.only }, o, v, ⟨dx, t, d, w, cnt, R1⟩, ok, ho, rfl, hkd, htx, hv, hl, fun P' R' => ?_⟩
      exact fin _ R' _
    | @word tok hp htl ho hwl =>
      rw [hp] at ha
      walk_at "s"
      have fin2 : ∀ P2 : Pst, RdAt K F os hi P2 a { s with words := s.words ++ [tok] } → ∀ G, dSFldAug (He.ga K "TokenReader") 13 augI (dVar 0) (dC (.int 1)) (finD Po) (some (.r a) :: G) P2 := fin
      cases hon : s.only with
      | true =>
        walk_at "s"
        exact ⟨F, os, hi, s, ⟨dx, t, d, w, cnt, R⟩, hwl, hhi, fun P' R' => fin _ R' _⟩
      | false =>
        rw [hon] at ho
        have ho2 : ordB tok = true := ho.resolve_left (by simp)
        walk_at "s"
        refine ⟨by omega, ?_⟩
        rw [ho2]
        walk_at "s"
        exact ⟨F, os, hi, s, ⟨dx, t, d, w, cnt, R⟩, hwl, hhi, fun P' R' => fin _ R' _⟩
    | sep hp ho =>
      obtain ⟨ag, wds, pe, on⟩ := s
      have hp : pe = none := hp
      have ho : on = false := ho
      subst hp
      subst ho
      walk_at "s"
      exact fin_here (h _ ⟨dx, t, d, w, cnt + 1, (R.setA none true cnt).setA none true (cnt + 1)⟩)
    | @long o x hp ho hom hx0 hxl h61 hm hno hkd =>
      have hst : RStep os hi s (45 :: 45 :: x) { s with asg := putD s.asg o.nm (.bl true) } := .long hp ho hom hx0 hxl h61 hm hno hkd
      rw [hp, ho] at ha
      have hL : (45 :: 45 :: x).length ≤ 1000 := by simp; omega
      have hord : ordB (45 :: 45 :: x) = false := by
        cases x with
        | nil => exact absurd rfl hx0
        | cons c r => rfl
      have hlong : longB (45 :: 45 :: x) = true := by
        cases x with
        | nil => exact absurd rfl hx0
        | cons c r => rfl
      walk_at "s"
      refine ⟨by simp; omega, ?_⟩
      rw [hord]
      walk_at "s"
      refine iteN (by simp [hx0]) ?_
      walk_at "s"
      refine ⟨by simp; omega, ?_⟩
      rw [hlong]
      walk_at "s"
      refine st_opt (e_slS hL) ?_
      rw [show cutW (45 :: 45 :: x) (some 2) none = (45 :: 45 :: x).drop 2 from cutW_from _ 2]
      walk_at "s"
      exact ⟨F, os, lo, hi, s, _, ⟨dx, t, d, w, cnt, R⟩, ok, hl, hp, ho, hst, hx0, fun P' R' => fin _ R' _⟩
    | @longV o x y v hp ho hom hxl h61 hm hno hkd hy hv =>
      have hst : RStep os hi s (45 :: 45 :: (x ++ 61 :: y)) { s with asg := putD s.asg o.nm v } := .longV hp ho hom hxl h61 hm hno hkd hy hv
      rw [hp, ho] at ha
      have hx0 : x ++ 61 :: y ≠ [] := by simp
      have hzl : (x ++ 61 :: y).length ≤ 201 := by rw [List.length_append, List.length_cons]; omega
      generalize x ++ 61 :: y = z at hst hx0 hzl
      have hL : (45 :: 45 :: z).length ≤ 1000 := by simp; omega
      have hord : ordB (45 :: 45 :: z) = false := by
        cases z with
        | nil => exact absurd rfl hx0
        | cons c r => rfl
      have hlong : longB (45 :: 45 :: z) = true := by
        cases z with
        | nil => exact absurd rfl hx0
        | cons c r => rfl
      walk_at "s"
      refine ⟨by simp; omega, ?_⟩
      rw [hord]
      walk_at "s"
      refine iteN (by simp [hx0]) ?_
      walk_at "s"
      refine ⟨by simp; omega, ?_⟩
      rw [hlong]
      walk_at "s"
      refine st_opt (e_slS hL) ?_
      rw [show cutW (45 :: 45 :: z) (some 2) none = (45 :: 45 :: z).drop 2 from cutW_from _ 2]
      walk_at "s"
      exact ⟨F, os, lo, hi, s, _, ⟨dx, t, d, w, cnt, R⟩, ok, hl, hp, ho, hst, hx0, fun P' R' => fin _ R' _⟩
    | @bun c r g' p hp ho hc hl2 hb hgl =>
      rw [hp, ho] at ha
      have hcn : c ≠ 45 := fun e => by subst e; exact absurd hc (by decide)
      have hL : (45 :: c :: r).length ≤ 1000 := by simp at hl2 ⊢; omega
      have hB : bundleB (45 :: c :: r) = true := decide_eq_true hc
      have hord : ordB (45 :: c :: r) = false := by unfold ordB; rw [hB]; rfl
      have hlong : longB (45 :: c :: r) = false := by
        unfold longB
        split
        · rename_i e
          cases e
          exact absurd rfl hcn
        · rfl
      walk_at "s"
      refine ⟨by simp at hl2 ⊢; omega, ?_⟩
      rw [hord]
      walk_at "s"
      refine iteN (by simp [hcn]) ?_
      walk_at "s"
      refine ⟨by simp at hl2 ⊢; omega, ?_⟩
      rw [hlong]
      walk_at "s"
      refine st_opt (e_slS hL) ?_
      rw [show cutW (45 :: c :: r) (some 1) none = (45 :: c :: r).drop 1 from cutW_from _ 1]
      walk_at "s"
      exact ⟨F, os, lo, hi, s, g', p, ⟨dx, t, d, w, cnt, R⟩, ok, hp, hl2, hb, hgl, fun P' R' => fin _ R' _⟩
theorem RSteps.len {os : List Op} {hi : Int} {s s' : Rs} {ts : List (List Nat)} (h : RSteps os hi s ts s') : True := trivial
def s_read_tokens (K : PySem.W.Frag) : WSp := fun ws P Po => match ws with
  | [w, .lst ws] => ∃ os lo hi ts s, w = gramW os lo hi ∧ GOk os lo hi ∧ ws = ts.map .str ∧ RSteps os hi rs0 ts s ∧ (∀ i s1, RSteps os hi rs0 (ts.take i) s1 → s1.asg.length ≤ 99) ∧ ∀ a F P', RdAt K F os hi P' a s → SubP P F → P a = none → Po (.r a) P'
  | _ => False
def RkI (K : PySem.W.Frag) (w0 w1 : Wv) (Ps : Pst) (os : List Op) (hi : Int) (ts : List (List Nat)) (sE : Rs) (i : Nat) (G : Env) (P : Pst) : Prop := ∃ a F s y, G = [some w0, some w1, some (.r a), y] ∧ RdAt K F os hi P a s ∧ SubP Ps F ∧ Ps a = none ∧ RSteps os hi rs0 (ts.take i) s ∧ RSteps os hi s (ts.drop i) sE
theorem RSteps.snoc {os : List Op} {hi : Int} {s s1 s2 : Rs} {ts : List (List Nat)} {t : List Nat} (h : RSteps os hi s ts s1) (h2 : RStep os hi s1 t s2) : RSteps os hi s (ts ++ [t]) s2 := by
  induction h with
  | nil => exact .cons h2 (.nil _)
  | cons h _ ih => exact .cons h (ih h2)
theorem sc_read_tokens : FnScope ["grammar", "tokens", "reader", "token"] ["grammar", "tokens"] (defScope x_read_tokens) := ⟨rfl, rfl, rfl, by decide +kernel, rfl, by decide +kernel, by decide +kernel⟩
theorem cl_read_tokens {P : Program} {w : World} {K : PySem.W.Frag} {mg : Str → Option Value} {base : Heap} (T : Txt K mg) (G_TokenReader___init__ : Mq P w K mg base 4 "TokenReader" (He.ga K "TokenReader") (s_TokenReader___init__ K)) (G_TokenReader_read : Mt P w K mg base 5 (He.ga K "TokenReader") "read" (s_TokenReader_read K)) : Cl P w K mg base 6 "read_tokens" (s_read_tokens K) := by
  obtain ⟨fd, F⟩ := T.d_read_tokens
  refine cl_of F T.g_read_tokens sc_read_tokens (fun ws Ps Po h => ?len) (fun _ _ _ _ _ _ us hl => match us, hl with | [_, _], _ => rfl) (fun cdv A outer sh H E hr => ⟨_, _,
      (pss_cons (ps_set (i := 2) sc_read_tokens.nd rfl (by first | exact Or.inl rfl | exact Or.inr rfl) (pe_mq G_TokenReader___init__ hr (by decide) (by rfl) (pa_cons (pv 0) pa_nil)))
      (pss_cons (ps_for PassesOwn.never rfl (pi_list (pv 1)) (pg_name (i := 3) sc_read_tokens.nd rfl (by first | exact Or.inl rfl | exact Or.inr rfl))
      (pss_one (ps_expr (pe_mtd G_TokenReader_read hr (by decide) (pv 2) (pa_cons (pv 3) pa_nil)))))
      (pss_one (ps_ret (pv 2))))),
      (ds_seq (ds_asg (de_make (da_cons (de_var 0) da_nil)) (dg_name 2))
      (ds_seq (ds_for (di_list (de_var 1)) (dg_name 3)
      (ds_drop (de_meth (de_var 2) (da_cons (de_var 3) da_nil))))
      (ds_ret (de_var 2)))), fun ws Ps Po h => ?body⟩)
  case len =>
    unfold s_read_tokens at h
    split at h
    · rfl
    · exact h.elim
  case body =>
    unfold s_read_tokens at h
    split at h
    rotate_left
    · exact h.elim
    rename_i w ws
    obtain ⟨os, lo, hi, ts, s, rfl, ok, rfl, hst, hlen, h⟩ := h
    walk_at "s"
    intro a dx ha
    refine ⟨os, lo, hi, dx, rfl, ok, updP_same, fun F P' R sub => ⟨rfl, ?_⟩⟩
    have sub2 : SubP Ps F := fun b so e => sub b so (by
      have q : b ≠ a := ne_ofP e ha
      rw [delP_ne q, updP_ne q]
      exact e)
    walk_at "s"
    refine for_I (RkI K (gramW os lo hi) (.lst (ts.map .str)) Ps os hi ts s) ?_ (fun _ _ _ _ => trivial) ?_ ?_
    · exact ⟨a, F, rs0, none, rfl, R, sub2, ha, .nil _, hst⟩
    · rintro i w G2 P2 hw ⟨a, F, s1, y, rfl, R, sub, ha, h1, h2⟩
      obtain ⟨tok, htok, _, rfl⟩ := map_get hw
      have hdr : ts.drop i = tok :: ts.drop (i + 1) := by
        obtain ⟨g1, g2⟩ := List.getElem?_eq_some_iff.mp htok
        rw [List.drop_eq_getElem_cons g1, g2]
      rw [hdr] at h2
      cases h2 with
      | @cons _ s2 _ _ _ hs1 hs2 =>
        obtain ⟨dx, t, d, w1, cnt, R0⟩ := R
        have ha2 := R0.pa
        unfold rdO at ha2
        walk_at "s"
        refine ⟨F, os, lo, hi, s1, s2, ⟨dx, t, d, w1, cnt, R0⟩, ok, hlen i s1 h1, hs1, fun P' R' => ?_⟩
        exact ⟨a, F, s2, _, rfl, R', sub, ha, by rw [take_succ_get htok]; exact h1.snoc hs1, hs2⟩
    · rintro G2 P2 ⟨a, F, s1, y, rfl, R, sub, ha, h1, h2⟩
      rw [List.length_map, List.drop_length] at h2
      cases h2
      walk_at "s"
      exact fin_here (h a F P2 R sub ha)
def s_check_both (_ : PySem.W.Frag) : WSp := fun ws P Po => match ws with
  | [w, .lst ws] => ∃ os lo hi, ∃ ts : List (List Nat), w = gramW os lo hi ∧ GOk os lo hi ∧ ws = ts.map .str ∧ ts.length ≤ 1000 ∧ (∀ t ∈ ts, TokOk t) ∧ Po .non P
  | _ => False
theorem sc_check_both : FnScope ["grammar", "tokens"] ["grammar", "tokens"] (defScope x_check_both) := ⟨rfl, rfl, rfl, by decide +kernel, rfl, by decide +kernel, by decide +kernel⟩
theorem cl_check_both {P : Program} {w : World} {K : PySem.W.Frag} {mg : Str → Option Value} {base : Heap} (T : Txt K mg) (G_check_grammar : Cl P w K mg base 5 "check_grammar" (s_check_grammar K)) (G_check_tokens : Cl P w K mg base 2 "check_tokens" (s_check_tokens K)) : Cl P w K mg base 6 "check_both" (s_check_both K) := by
  obtain ⟨fd, F⟩ := T.d_check_both
  refine cl_of F T.g_check_both sc_check_both (fun ws Ps Po h => ?len) (fun _ _ _ _ _ _ us hl => match us, hl with | [_, _], _ => rfl) (fun cdv A outer sh H E hr => ⟨_, _,
      (pss_cons (ps_expr (pe_cl G_check_grammar hr (by decide) (by rfl) (pa_cons (pv 0) pa_nil)))
      (pss_one (ps_expr (pe_cl G_check_tokens hr (by decide) (by rfl) (pa_cons (pv 1) pa_nil))))),
      (ds_seq (ds_drop (de_call (da_cons (de_var 0) da_nil)))
      (ds_drop (de_call (da_cons (de_var 1) da_nil)))), fun ws Ps Po h => ?body⟩)
  case len =>
    unfold s_check_both at h
    split at h
    · rfl
    · exact h.elim
  case body =>
    unfold s_check_both at h
    split at h
    rotate_left
    · exact h.elim
    rename_i w ws
    obtain ⟨os, lo, hi, ts, rfl, ok, rfl, h1, h2, h⟩ := h
    walk_at "s"
    refine ⟨os, lo, hi, rfl, ok, ?_⟩
    walk_at "s"
    exact ⟨ts, rfl, h1, h2, fin_here h⟩
def s_read_prefix (K : PySem.W.Frag) : WSp := fun ws P Po => match ws with
  | [w, .lst ws] => ∃ os lo hi, ∃ ts : List (List Nat), ∃ s, w = gramW os lo hi ∧ GOk os lo hi ∧ ws = ts.map .str ∧ ts.length ≤ 1000 ∧ (∀ t ∈ ts, TokOk t) ∧ RSteps os hi rs0 ts s ∧ (∀ i s1, RSteps os hi rs0 (ts.take i) s1 → s1.asg.length ≤ 99) ∧
      ∀ d P', P' d = some (.dic s.asg) → P d = none → SubP P P' → Po (.tup [.r d, .lst (s.words.map .str), penW s.pend, .bl s.only]) P'
  | _ => False
theorem sc_read_prefix : FnScope ["grammar", "tokens", "reader"] ["grammar", "tokens"] (defScope x_read_prefix) := ⟨rfl, rfl, rfl, by decide +kernel, rfl, by decide +kernel, by decide +kernel⟩
theorem cl_read_prefix {P : Program} {w : World} {K : PySem.W.Frag} {mg : Str → Option Value} {base : Heap} (T : Txt K mg) (G_check_both : Cl P w K mg base 6 "check_both" (s_check_both K)) (G_read_tokens : Cl P w K mg base 6 "read_tokens" (s_read_tokens K)) : Cl P w K mg base 7 "read_prefix" (s_read_prefix K) := by
  obtain ⟨fd, F⟩ := T.d_read_prefix
  refine cl_of F T.g_read_prefix sc_read_prefix (fun ws Ps Po h => ?len) (fun _ _ _ _ _ _ us hl => match us, hl with | [_, _], _ => rfl) (fun cdv A outer sh H E hr => ⟨_, _,
      (pss_cons (ps_expr (pe_cl G_check_both hr (by decide) (by rfl) (pa_cons (pv 0) (pa_cons (pv 1) pa_nil))))
      (pss_cons (ps_set (i := 2) sc_read_prefix.nd rfl (by first | exact Or.inl rfl | exact Or.inr rfl) (pe_cl G_read_tokens hr (by decide) (by rfl) (pa_cons (pv 0) (pa_cons (pv 1) pa_nil))))
      (pss_one (ps_ret (pe_tup (pa_cons (pe_callTy call_dictDQ (by rfl) T.f_dict (by decide +kernel) (pa_cons (pe_fld (pv 2) rfl) pa_nil)) (pa_cons (pe_callTy call_listQ (by rfl) T.f_list (by decide +kernel) (pa_cons (pe_fld (pv 2) rfl) pa_nil)) (pa_cons (pe_fld (pv 2) rfl) (pa_cons (pe_fld (pv 2) rfl) pa_nil))))))))),
      (ds_seq (ds_drop (de_call (da_cons (de_var 0) (da_cons (de_var 1) da_nil))))
      (ds_seq (ds_asg (de_call (da_cons (de_var 0) (da_cons (de_var 1) da_nil))) (dg_name 2))
      (ds_ret (de_tup (da_cons (de_cbN rd_dictD (da_cons (de_fld (He.ga K "TokenReader") 9 T.c_TokenReader T.n_TokenReader_assignments (de_var 2)) da_nil)) (da_cons (de_cb rd_list (da_cons (de_fld (He.ga K "TokenReader") 10 T.c_TokenReader T.n_TokenReader_words (de_var 2)) da_nil)) (da_cons (de_fld (He.ga K "TokenReader") 11 T.c_TokenReader T.n_TokenReader_pending (de_var 2)) (da_cons (de_fld (He.ga K "TokenReader") 12 T.c_TokenReader T.n_TokenReader_only_words (de_var 2)) da_nil)))))))), fun ws Ps Po h => ?body⟩)
  case len =>
    unfold s_read_prefix at h
    split at h
    · rfl
    · exact h.elim
  case body =>
    unfold s_read_prefix at h
    split at h
    rotate_left
    · exact h.elim
    rename_i w ws
    obtain ⟨os, lo, hi, ts, s, rfl, ok, rfl, h1, h2, hst, hlen, h⟩ := h
    walk_at "s"
    refine ⟨os, lo, hi, ts, rfl, ok, rfl, h1, h2, ?_⟩
    walk_at "s"
    refine ⟨os, lo, hi, ts, s, rfl, ok, rfl, hst, hlen, fun a F P' R sub ha => ?_⟩
    obtain ⟨dx, t, d, w1, cnt, R0⟩ := R
    have ha2 := R0.pa
    unfold rdO at ha2
    have subP : SubP Ps P' := fun b so e => R0.sub b so (sub b so e)
    walk_at "s"
    refine st_opt (show fDictD P' [.r d] = some (.dic s.asg) by unfold fDictD f1; simp only [dicP_at R0.pd, Option.map_some]) ?_
    intro q hq
    have hqn : Ps q = none := SubP.free subP hq
    have hqa : a ≠ q := fun e => by subst e; rw [ha2] at hq; cases hq
    walk_at "s"
    refine st_opt (fldW_at (updP_at hqa ha2) rfl) ?_
    walk_at "s"
    have hqw : w1 ≠ q := fun e => by subst e; rw [R0.pw] at hq; cases hq
    refine st_opt (show fList _ [.r w1] = some (.lst (s.words.map .str)) by unfold fList f1; simp only [seqP_at (updP_at hqw R0.pw), Option.map_some]) ?_
    walk_at "s"
    refine st_opt (fldW_at (updP_at hqa ha2) rfl) ?_
    walk_at "s"
    refine st_opt (fldW_at (updP_at hqa ha2) rfl) ?_
    walk_at "s"
    exact fin_here (h q _ updP_same hqn (SubP.new hqn subP))
end Fc
namespace Fc
open PySem PySem.Spec PyProof.Rows L2
local macro_rules | `(tactic| walk_at "s") => `(tactic| repeat (first
  | refine st_opt rfl ?_
  | refine st_opt (e_len (by first | assumption | omega)) ?_
  | refine st_opt (e_addS (by first | decide | omega | (simp; done) | (simp; omega))) ?_
  | refine st_opt (fldW_at (by first | assumption | exact updP_same) rfl) ?_
  | refine st_opt (insOf_at (by first | assumption | exact updP_same)) ?_
  | refine st_ble rfl ?_
  | refine st_blt rfl ?_
  | refine st_eqr ?_))
def WdsOk (lo hi : Int) (ws : List (List Nat)) : Prop := lo ≤ (ws.length : Int) ∧ (ws.length : Int) ≤ hi ∧ ∀ t ∈ ws, TokOk t
def s_check_arguments (_ : PySem.W.Frag) : WSp := fun ws P Po => match ws with
  | [w, .r a, .lst ws] => ∃ os lo hi g, ∃ ts : List (List Nat), w = gramW os lo hi ∧ GOk os lo hi ∧ P a = some (.dic g) ∧ AOk os g ∧ ws = ts.map .str ∧ WdsOk lo hi ts ∧ Po .non P
  | _ => False
theorem sc_check_arguments : FnScope ["grammar", "assignments", "words", "kinds", "name", "value", "letter", "kind", "word"] ["grammar", "assignments", "words"] (defScope x_check_arguments) := ⟨rfl, rfl, rfl, by decide +kernel, rfl, by decide +kernel, by decide +kernel⟩
theorem cl_check_arguments {P : Program} {w : World} {K : PySem.W.Frag} {mg : Str → Option Value} {base : Heap} (T : Txt K mg) (G_is_value : Cl P w K mg base 2 "is_value" (s_is_value K)) (G_is_token : Cl P w K mg base 1 "is_token" (s_is_token K)) : Cl P w K mg base 3 "check_arguments" (s_check_arguments K) := by
  obtain ⟨fd, F⟩ := T.d_check_arguments
  refine cl_of F T.g_check_arguments sc_check_arguments (fun ws Ps Po h => ?len) (fun _ _ _ _ _ _ us hl => match us, hl with | [_, _, _], _ => rfl) (fun cdv A outer sh H E hr => ⟨_, _,
      (pss_cons (ps_setDc (i := 3) (own := [("name", 4), ("letter", 6), ("kind", 7)]) rfl sc_check_arguments.nd rfl rfl (sw_trueD rfl rfl rfl (by decide +kernel)) (pi_tup (pe_ix ix_seq (pv 0) pe_int (fun _ _ => rfl))) (blkOk_by (own := [("name", 4), ("letter", 6), ("kind", 7)]) (N := ["grammar", "assignments", "words", "kinds", "name", "value", "letter", "kind", "word"]) (sc := defScope x_check_arguments) (by decide +kernel)) (fun _ _ _ _ _ => (pg_tup (n := 3) rfl (pgs_cons (pg_name (i := 4) sc_check_arguments.nd rfl (by first | exact Or.inl rfl | exact Or.inr rfl)) (pgs_cons (pg_name (i := 6) sc_check_arguments.nd rfl (by first | exact Or.inl rfl | exact Or.inr rfl)) (pgs_cons (pg_name (i := 7) sc_check_arguments.nd rfl (by first | exact Or.inl rfl | exact Or.inr rfl)) pgs_nil))))) (fun _ _ _ _ _ => pts_nil) (fun _ _ _ _ _ => (pv 4)) (fun _ _ _ _ _ => (pv 7)))
      (pss_cons (ps_if (pt_not (pt_val (pe_callB call_isi (by rfl) T.f_isinstance (by decide +kernel) (pa_cons (pv 1) (pa_cons (pe_bltn (v := .ty "dict") (by rfl) T.f_dict (by decide +kernel) rfl) pa_nil)))))
      (pss_one ps_never)
      pss_nil)
      (pss_cons (ps_lock (ps_for PassesOwn.never rfl (pi_items (pv 1)) (pg_tup (n := 2) rfl (pgs_cons (pg_name (i := 4) sc_check_arguments.nd rfl (by first | exact Or.inl rfl | exact Or.inr rfl)) (pgs_cons (pg_name (i := 5) sc_check_arguments.nd rfl (by first | exact Or.inl rfl | exact Or.inr rfl)) pgs_nil)))
      (pss_one (ps_if (PW.pt (pw_or (pt_not (pt_val (pe_callB call_isi (by rfl) T.f_isinstance (by decide +kernel) (pa_cons (pv 4) (pa_cons (pe_bltn (v := .ty "str") (by rfl) T.f_str (by decide +kernel) rfl) pa_nil))))) (pw_or (pt_cmp (pc_dnotin (hu_of hr) (pv 4) (pv 3))) (pw_or1 (pt_not (pt_val (pe_cl G_is_value hr (by decide) (by rfl) (pa_cons (pe_dget (hu_of hr) (pv 3) (pv 4) (fun _ _ => rfl)) (pa_cons (pv 5) pa_nil)))))))))
      (pss_one ps_never)
      pss_nil))))
      (pss_cons (ps_if (PW.pt (pw_or (pt_not (pt_val (pe_callB call_isi (by rfl) T.f_isinstance (by decide +kernel) (pa_cons (pv 2) (pa_cons (pe_bltn (v := .ty "list") (by rfl) T.f_list (by decide +kernel) rfl) pa_nil))))) (pw_or1 (pt_not (pt_chain op_le op_le (pe_ix ix_seq (pe_ix ix_seq (pv 0) pe_int (fun _ _ => rfl)) pe_int (fun _ _ => rfl)) (pe_callB call_lenQ (by rfl) T.f_len boot_len (pa_cons (pv 2) pa_nil)) (pe_ix ix_seq (pe_ix ix_seq (pv 0) pe_int (fun _ _ => rfl)) pe_int (fun _ _ => rfl)))))))
      (pss_one ps_never)
      pss_nil)
      (pss_one (ps_if (pt_not (pt_val (pe_callB (cr_all rfl) (by rfl) T.f_all (by decide +kernel) (pa_cons (pe_lc (own := [("word", 8)]) rfl sc_check_arguments.nd (pi_list (pv 2)) (blkOk_by (own := [("word", 8)]) (N := ["grammar", "assignments", "words", "kinds", "name", "value", "letter", "kind", "word"]) (sc := defScope x_check_arguments) (by decide +kernel)) (fun _ _ _ _ _ => (pg_name (i := 8) sc_check_arguments.nd rfl (by first | exact Or.inl rfl | exact Or.inr rfl))) (fun _ _ _ _ _ => pts_nil) (fun _ _ _ _ _ => (pe_cl G_is_token hr (by decide) (by rfl) (pa_cons (pv 8) pa_nil)))) pa_nil))))
      (pss_one ps_never)
      pss_nil)))))),
      (ds_seq (ds_asg (de_dc (di_tup (de_op rd_ix (de_var 0) (de_int 0))) (dg_tup (dgs_cons (dg_name 4) (dgs_cons (dg_name 6) (dgs_cons (dg_name 7) dgs_nil)))) dt_yes (de_var 4) (de_var 7) (by decide)) (dg_name 3))
      (ds_seq (ds_if (dt_not (dt_B (de_cb rd_isi (da_cons (de_var 1) (da_cons (de_ty .dic) da_nil)))))
      ds_never
      ds_next)
      (ds_seq (ds_lockK (ds_for (di_items (de_var 1)) (dg_tup (dgs_cons (dg_name 4) (dgs_cons (dg_name 5) dgs_nil)))
      (ds_if (dt_or (dt_not (dt_B (de_cb rd_isi (da_cons (de_var 4) (da_cons (de_ty .str) da_nil))))) (dt_or (dt_B (de_dnotin (de_var 4) (de_var 3))) (dt_not (dt_B (de_call (da_cons (de_dget (de_var 3) (de_var 4)) (da_cons (de_var 5) da_nil)))))))
      ds_never
      ds_next)))
      (ds_seq (ds_if (dt_or (dt_not (dt_B (de_cb rd_isi (da_cons (de_var 2) (da_cons (de_ty .lst) da_nil))))) (dt_not (dt_test (de_chain rd_le rd_le (de_op rd_ix (de_op rd_ix (de_var 0) (de_int 1)) (de_int 0)) (de_cb rd_len (da_cons (de_var 2) da_nil)) (de_op rd_ix (de_op rd_ix (de_var 0) (de_int 1)) (de_int 1))))))
      ds_never
      ds_next)
      (ds_if (dt_not (dt_B (de_cb rd_all (da_cons (de_lc (di_list (de_var 2)) (dg_name 8) dt_yes (de_call (da_cons (de_var 8) da_nil)) (by decide)) da_nil))))
      ds_never
      ds_next))))), fun ws Ps Po h => ?body⟩)
  case len =>
    unfold s_check_arguments at h
    split at h
    · rfl
    · exact h.elim
  case body =>
    unfold s_check_arguments at h
    split at h
    rotate_left
    · exact h.elim
    rename_i w a ws
    obtain ⟨os, lo, hi, g, ts, rfl, ok, ha, A, rfl, ⟨hw1, hw2, hw3⟩, h⟩ := h
    have hl := ok.len2
    have hhi := ok.hi9
    walk_at "s"
    refine dc_fm bAll fKind trivial (by rw [List.length_map]; omega) (fun i w acc hw I => ?_) ?_
    · obtain ⟨o, _, ho, rfl⟩ := map_get hw
      walk_at "s"
      exact dx_yes (nd_keys (kinds_eq os) (kinds_nd ok)) hw I rfl rfl
    · rw [kinds_eq]
      intro k hk
      have hka : a ≠ k := fun e => by subst e; rw [ha] at hk; cases hk
      walk_at "s"
      refine st_opt (show fIsi _ [.r a, .ty .dic] = some (.bl true) by unfold fIsi tyW; simp only [updP_at hka ha]; rfl) ?_
      walk_at "s"
      refine ⟨a, g, updP_at hka ha, fun o kv => ?_⟩
      walk_at "s"
      refine ⟨a, o, kv, g, rfl, updP_same, ?_⟩
      refine for_I (fun _ G2 P2 => P2 = updP (updP Ps k (.dic (kindsD os))) a (.fdic (.frz o (.dK kv)) g) ∧ ∃ y4 y5 y6 y7 y8, G2 = [some (gramW os lo hi), some (.r a), some (.lst (ts.map .str)), some (.r k), y4, y5, y6, y7, y8]) ⟨rfl, _, _, _, _, _, rfl⟩ ?_ ?_ ?_
      · rintro i G2 P2 ⟨rfl, _⟩
        exact updP_same
      · rintro i w G2 P2 hw ⟨rfl, y4, y5, y6, y7, y8, rfl⟩
        unfold itemsW at hw
        obtain ⟨⟨n, v⟩, _, hm, rfl⟩ := map_get hw
        obtain ⟨op, h1, h2, h3⟩ := A.ok _ hm
        have h2 : n = op.nm := h2
        subst h2
        walk_at "s"
        refine st_opt (dicP_at (updP_at (Ne.symm hka) updP_same)) ?_
        refine iteN (by rw [look_kinds ok h1]; rfl) ?_
        walk_at "s"
        refine st_opt (dicP_at (updP_at (Ne.symm hka) updP_same)) ?_
        refine st_opt (look_kinds ok h1) ?_
        walk_at "s"
        refine ⟨op.kd, rfl, (ok.ops op h1).kd, h3, ?_⟩
        walk_at "s"
        exact ⟨_, _, _, _, _, rfl⟩
      · rintro G2 P2 ⟨rfl, y4, y5, y6, y7, y8, rfl⟩
        refine ⟨updP_same, ?_⟩
        walk_at "s"
        refine iteY (by rw [List.length_map]; simp; omega) ?_
        walk_at "s"
        refine iteN (by rw [List.length_map]; simp; omega) ?_
        walk_at "s"
        refine lc_map (fun w => .bl ((fun _ => true) w)) trivial (by rw [List.length_map]; omega) (fun i w acc hw I => ?_) ?_
        · obtain ⟨t, _, ht, rfl⟩ := map_get hw
          walk_at "s"
          exact ⟨hw3 t ht, wx_yes hw I rfl rfl⟩
        · refine st_opt e_allT ?_
          walk_at "s"
          refine fin_sub ?_ h
          rw [updP_updP, updP_id (updP_at hka ha)]
          exact SubP.new hk (SubP.refl _)
def s_Writer_add (K : PySem.W.Frag) : WSp := fun ws P Po => match ws with
  | [.r a, .str n] => ∃ F os lo hi g fl parts vals o, WrAt K F os g P a fl parts vals ∧ GOk os lo hi ∧ o ∈ os ∧ n = o.nm ∧ fl.length ≤ 20 ∧ parts.length ≤ 20 ∧ vals.length ≤ 20 ∧
      ∀ P', WrAt K F os g P' a (if isFlag o && decide (o.lt ≠ []) then fl ++ o.lt else fl) (if isFlag o && decide (o.lt = []) then parts ++ [[45, 45] ++ abbrL os o.nm] else parts) (if isFlag o then vals else vals ++ [o.nm]) → Po .non P'
  | _ => False
theorem sc_Writer_add : FnScope ["self", "name", "letter"] ["self", "name"] (defScope x_Writer_add) := ⟨rfl, rfl, rfl, by decide +kernel, rfl, by decide +kernel, by decide +kernel⟩
theorem cl_Writer_add {P : Program} {w : World} {K : PySem.W.Frag} {mg : Str → Option Value} {base : Heap} (T : Txt K mg) (G_OptionTable_abbreviation : Mt P w K mg base 2 (He.ga K "OptionTable") "abbreviation" (s_OptionTable_abbreviation K)) : Mt P w K mg base 3 (He.ga K "Writer") "add" (s_Writer_add K) := by
  obtain ⟨fd, F⟩ := T.d_Writer_add
  refine mt_of F T.c_Writer T.m_Writer_add sc_Writer_add (fun ws Ps Po h => ?len) (fun _ _ _ _ _ _ us hl => match us, hl with | [_, _], _ => rfl) (fun cdv A outer sh H E hr => ⟨_, _,
      (pss_cons (ps_set (i := 2) sc_Writer_add.nd rfl (by first | exact Or.inl rfl | exact Or.inr rfl) (pe_dget (hu_of hr) (pe_fld (pe_fld (pv 0) rfl) rfl) (pv 1) (fun _ _ => rfl)))
      (pss_one (ps_if (pt_cmpR op_notN1 (pe_dget (hu_of hr) (pe_fld (pe_fld (pv 0) rfl) rfl) (pv 1) (fun _ _ => rfl)) pe_non (nomark _))
      (pss_one (ps_expr (pe_bm PySem.F.plainAttrs_list PySem.F.slot_list_append PySem.F.type_list_append mt_append (pe_fld (pv 0) rfl) (pa_cons (pv 1) pa_nil))))
      (pss_one (ps_if (pt_cmpR op_ne (pv 2) pe_str (nomark _))
      (pss_one (ps_fldaug (pv 0) (pv 2) in_addS))
      (pss_one (ps_expr (pe_bm PySem.F.plainAttrs_list PySem.F.slot_list_append PySem.F.type_list_append mt_append (pe_fld (pv 0) rfl) (pa_cons (pe_op op_addStr (pe_gs (by rfl) T.s_SEPARATOR) (pe_mtd G_OptionTable_abbreviation hr (by decide) (pe_fld (pv 0) rfl) (pa_cons (pv 1) pa_nil))) pa_nil))))))))),
      (ds_seq (ds_asg (de_dget (de_fld (He.ga K "OptionTable") 6 T.c_OptionTable T.n_OptionTable_short_names (de_fld (He.ga K "Writer") 7 T.c_Writer T.n_Writer_table (de_var 0))) (de_var 1)) (dg_name 2))
      (ds_if (dt_test (de_op rd_notN (de_dget (de_fld (He.ga K "OptionTable") 4 T.c_OptionTable T.n_OptionTable_kinds (de_fld (He.ga K "Writer") 7 T.c_Writer T.n_Writer_table (de_var 0))) (de_var 1)) de_non))
      (ds_drop (de_app (de_fld (He.ga K "Writer") 16 T.c_Writer T.n_Writer_valued (de_var 0)) (de_var 1)))
      (ds_if (dt_test (de_op rd_ne (de_var 2) (de_str k14)))
      (ds_fldaug (He.ga K "Writer") 14 T.c_Writer T.n_Writer_flags rd_augS (de_var 0) (de_var 2))
      (ds_drop (de_app (de_fld (He.ga K "Writer") 15 T.c_Writer T.n_Writer_parts (de_var 0)) (de_op rd_addStr (de_str k8) (de_meth (de_fld (He.ga K "Writer") 7 T.c_Writer T.n_Writer_table (de_var 0)) (da_cons (de_var 1) da_nil)))))))), fun ws Ps Po h => ?body⟩)
  case len =>
    unfold s_Writer_add at h
    split at h
    · rfl
    · exact h.elim
  case body =>
    unfold s_Writer_add at h
    split at h
    rotate_left
    · exact h.elim
    rename_i a n
    obtain ⟨F, os, lo, hi, g, fl, parts, vals, o, ⟨dx, t, ga, p, v, W⟩, ok, ho, rfl, l1, l2, l3, h⟩ := h
    have ha := W.pa
    unfold wrO at ha
    have hT := W.tabP
    obtain ⟨dx2, k, l, u, h1, h2, h3, h4⟩ := W.tabP
    unfold tabO at h1
    have hlt := letOk_len (ok.ops o ho).lt
    walk_at "s"
    refine st_opt (dicP_at h4) ?_
    refine st_opt (look_shorts ok ho) ?_
    walk_at "s"
    refine st_opt (dicP_at h2) ?_
    refine st_opt (look_kinds ok ho) ?_
    walk_at "s"
    by_cases hk : o.kd = .non
    · have hf : isFlag o = true := decide_eq_true hk
      rw [hf] at h
      refine iteN (by rw [hk]; rfl) ?_
      walk_at "s"
      by_cases hlt0 : o.lt = []
      · refine iteN (by simp [hlt0]) ?_
        rw [if_neg (by simp [hlt0]), if_pos (by simp [hlt0]), if_pos rfl] at h
        walk_at "s"
        refine ⟨⟨p, _, rfl, W.pp⟩, ?_⟩
        walk_at "s"
        refine ⟨os, lo, hi, hT, ok, List.mem_map_of_mem ho, ?_⟩
        have hab := abbr_len ok ho
        walk_at "s"
        refine st_opt (lstM_at W.pp) ?_
        refine ⟨by show (parts.map Wv.str).length < 1000000; rw [List.length_map]; omega, ?_⟩
        have W2 := W.setP (parts ++ [[45, 45] ++ abbrL os o.nm])
        rw [List.map_append] at W2
        exact fin_here (h _ ⟨dx, t, ga, p, v, W2⟩)
      · refine iteY (by simp [hlt0]) ?_
        rw [if_pos (by simp [hlt0]), if_neg (by simp [hlt0]), if_pos rfl] at h
        walk_at "s"
        refine st_opt (if_pos (sz1000 (by omega))) ?_
        walk_at "s"
        exact fin_here (h _ ⟨dx, t, ga, p, v, W.setA _⟩)
    · have hf : isFlag o = false := decide_eq_false hk
      rw [hf] at h
      refine iteY (by rw [isNon_kd hk]; rfl) ?_
      walk_at "s"
      refine ⟨⟨v, _, rfl, W.pv⟩, ?_⟩
      walk_at "s"
      refine st_opt (lstM_at W.pv) ?_
      refine ⟨by show (vals.map Wv.str).length < 1000000; rw [List.length_map]; omega, ?_⟩
      have W2 := W.setV (vals ++ [o.nm])
      rw [List.map_append] at W2
      exact fin_here (h _ ⟨dx, t, ga, p, v, W2⟩)
def WrPre (K : PySem.W.Frag) (F : Pst) (os : List Op) (lo hi : Int) (g : Asg) (P : Pst) (a : Addr) (fl : List Nat) (parts vals : List (List Nat)) : Prop := WrAt K F os g P a fl parts vals ∧ GOk os lo hi ∧ AOk os g
def s_Writer_text (K : PySem.W.Frag) : WSp := fun ws P Po => match ws with
  | [.r a, .str n] => ∃ F os lo hi g fl parts vals o, WrPre K F os lo hi g P a fl parts vals ∧ o ∈ os ∧ n = o.nm ∧ hasK g o = true ∧ o.kd ≠ .non ∧ Po (.str (txtL g o)) P
  | _ => False
theorem sc_Writer_text : FnScope ["self", "name"] ["self", "name"] (defScope x_Writer_text) := ⟨rfl, rfl, rfl, by decide +kernel, rfl, by decide +kernel, by decide +kernel⟩
theorem cl_Writer_text {P : Program} {w : World} {K : PySem.W.Frag} {mg : Str → Option Value} {base : Heap} (T : Txt K mg) (G_shortest_text : Cl P w K mg base 3 "shortest_text" (s_shortest_text K)) : Mt P w K mg base 4 (He.ga K "Writer") "text" (s_Writer_text K) := by
  obtain ⟨fd, F⟩ := T.d_Writer_text
  refine mt_of F T.c_Writer T.m_Writer_text sc_Writer_text (fun ws Ps Po h => ?len) (fun _ _ _ _ _ _ us hl => match us, hl with | [_, _], _ => rfl) (fun cdv A outer sh H E hr => ⟨_, _,
      (pss_one (ps_ret (pe_cl G_shortest_text hr (by decide) (by rfl) (pa_cons (pe_dget (hu_of hr) (pe_fld (pe_fld (pv 0) rfl) rfl) (pv 1) (fun _ _ => rfl)) (pa_cons (pe_dget (hu_of hr) (pe_fld (pv 0) rfl) (pv 1) (fun _ _ => rfl)) pa_nil))))),
      (ds_ret (de_call (da_cons (de_dget (de_fld (He.ga K "OptionTable") 4 T.c_OptionTable T.n_OptionTable_kinds (de_fld (He.ga K "Writer") 7 T.c_Writer T.n_Writer_table (de_var 0))) (de_var 1)) (da_cons (de_dget (de_fld (He.ga K "Writer") 9 T.c_Writer T.n_Writer_assignments (de_var 0)) (de_var 1)) da_nil)))), fun ws Ps Po h => ?body⟩)
  case len =>
    unfold s_Writer_text at h
    split at h
    · rfl
    · exact h.elim
  case body =>
    unfold s_Writer_text at h
    split at h
    rotate_left
    · exact h.elim
    rename_i a n
    obtain ⟨F, os, lo, hi, g, fl, parts, vals, o, ⟨⟨dx, t, ga, p, v, W⟩, ok, A⟩, ho, rfl, hh, hk, h⟩ := h
    have ha := W.pa
    unfold wrO at ha
    obtain ⟨dx2, k, l, u, h1, h2, h3, h4⟩ := W.tabP
    unfold tabO at h1
    obtain ⟨hg1, hg2⟩ := gv_ok ok A ho hh
    walk_at "s"
    refine st_opt (dicP_at h2) ?_
    refine st_opt (look_kinds ok ho) ?_
    walk_at "s"
    refine st_opt (dicP_at W.gP) ?_
    refine st_opt hg1 ?_
    walk_at "s"
    exact ⟨o.kd, rfl, hk, (ok.ops o ho).kd, hg2, fin_here h⟩
def s_Writer_attached (K : PySem.W.Frag) : WSp := fun ws P Po => match ws with
  | [.r a, .str f2, .str n] => ∃ F os lo hi g fl parts vals o, WrPre K F os lo hi g P a fl parts vals ∧ o ∈ os ∧ n = o.nm ∧ hasK g o = true ∧ o.kd ≠ .non ∧ f2.length ≤ 12 ∧ Po (.str (attL g f2 o)) P
  | _ => False
theorem sc_Writer_attached : FnScope ["self", "flags", "name", "bundle"] ["self", "flags", "name"] (defScope x_Writer_attached) := ⟨rfl, rfl, rfl, by decide +kernel, rfl, by decide +kernel, by decide +kernel⟩
theorem cl_Writer_attached {P : Program} {w : World} {K : PySem.W.Frag} {mg : Str → Option Value} {base : Heap} (T : Txt K mg) (G_Writer_text : Mt P w K mg base 4 (He.ga K "Writer") "text" (s_Writer_text K)) (G_quote_token : Cl P w K mg base 2 "quote_token" (s_quote_token K)) : Mt P w K mg base 5 (He.ga K "Writer") "attached" (s_Writer_attached K) := by
  obtain ⟨fd, F⟩ := T.d_Writer_attached
  refine mt_of F T.c_Writer T.m_Writer_attached sc_Writer_attached (fun ws Ps Po h => ?len) (fun _ _ _ _ _ _ us hl => match us, hl with | [_, _, _], _ => rfl) (fun cdv A outer sh H E hr => ⟨_, _,
      (pss_cons (ps_set (i := 3) sc_Writer_attached.nd rfl (by first | exact Or.inl rfl | exact Or.inr rfl) (pe_op op_addStr (pe_op op_addStr (pe_gs (by rfl) T.s_HYPHEN_lines) (pv 1)) (pe_dget (hu_of hr) (pe_fld (pe_fld (pv 0) rfl) rfl) (pv 2) (fun _ _ => rfl))))
      (pss_cons (ps_if (pt_cmpR op_eq (pe_mtd G_Writer_text hr (by decide) (pv 0) (pa_cons (pv 2) pa_nil)) pe_str (nomark _))
      (pss_one (ps_ret (pe_op op_addStr (pe_op op_addStr (pv 3) (pe_gs (by rfl) T.s_SPACE)) (pe_cl G_quote_token hr (by decide) (by rfl) (pa_cons pe_str pa_nil)))))
      pss_nil)
      (pss_one (ps_ret (pe_cl G_quote_token hr (by decide) (by rfl) (pa_cons (pe_op op_addStr (pv 3) (pe_mtd G_Writer_text hr (by decide) (pv 0) (pa_cons (pv 2) pa_nil))) pa_nil)))))),
      (ds_seq (ds_asg (de_op rd_addStr (de_op rd_addStr (de_str k1) (de_var 1)) (de_dget (de_fld (He.ga K "OptionTable") 6 T.c_OptionTable T.n_OptionTable_short_names (de_fld (He.ga K "Writer") 7 T.c_Writer T.n_Writer_table (de_var 0))) (de_var 2))) (dg_name 3))
      (ds_seq (ds_if (dt_test (de_op rd_eq (de_meth (de_var 0) (da_cons (de_var 2) da_nil)) (de_str k14)))
      (ds_ret (de_op rd_addStr (de_op rd_addStr (de_var 3) (de_str k3)) (de_call (da_cons (de_str k14) da_nil))))
      ds_next)
      (ds_ret (de_call (da_cons (de_op rd_addStr (de_var 3) (de_meth (de_var 0) (da_cons (de_var 2) da_nil))) da_nil))))), fun ws Ps Po h => ?body⟩)
  case len =>
    unfold s_Writer_attached at h
    split at h
    · rfl
    · exact h.elim
  case body =>
    unfold s_Writer_attached at h
    split at h
    rotate_left
    · exact h.elim
    rename_i a f2 n
    obtain ⟨F, os, lo, hi, g, fl, parts, vals, o, ⟨⟨dx, t, ga, p, v, W⟩, ok, A⟩, ho, rfl, hh, hk, hfl, h⟩ := h
    have ha := W.pa
    unfold wrO at ha
    obtain ⟨dx2, k, l, u, h1, h2, h3, h4⟩ := W.tabP
    unfold tabO at h1
    have hlt := letOk_len (ok.ops o ho).lt
    have htx := txt_len ok A ho hh
    have hql : (quoteW []).length = 2 := rfl
    walk_at "s"
    refine st_opt (dicP_at h4) ?_
    refine st_opt (look_shorts ok ho) ?_
    walk_at "s"
    refine ⟨F, os, lo, hi, g, fl, parts, vals, o, ⟨⟨dx, t, ga, p, v, W⟩, ok, A⟩, ho, rfl, hh, hk, ?_⟩
    walk_at "s"
    unfold attL at h
    by_cases ht : txtL g o = []
    · rw [if_pos ht] at h
      refine iteY (by simp [ht]) ?_
      walk_at "s"
      exact fin_here h
    · rw [if_neg ht] at h
      refine iteN (by simp [ht]) ?_
      walk_at "s"
      refine ⟨F, os, lo, hi, g, fl, parts, vals, o, ⟨⟨dx, t, ga, p, v, W⟩, ok, A⟩, ho, rfl, hh, hk, ?_⟩
      walk_at "s"
      refine ⟨by simp; omega, fin_here h⟩
end Fc
namespace Fc
open PySem PySem.Spec PyProof.Rows L2
local macro_rules | `(tactic| walk_at "s") => `(tactic| repeat (first
  | refine st_opt rfl ?_
  | refine st_opt (e_len (by first | assumption | omega)) ?_
  | refine st_opt (e_addS (by first | decide | omega | (simp; done) | (simp; omega))) ?_
  | refine st_opt (fldW_at (by first | assumption | exact updP_same) rfl) ?_
  | refine st_opt (insOf_at (by first | assumption | exact updP_same)) ?_
  | refine st_ble rfl ?_
  | refine st_blt rfl ?_
  | refine st_eqr ?_))
def s_Writer_alone (K : PySem.W.Frag) : WSp := fun ws P Po => match ws with
  | [.r a, .str n] => ∃ F os lo hi g fl parts vals o, WrPre K F os lo hi g P a fl parts vals ∧ o ∈ os ∧ n = o.nm ∧ hasK g o = true ∧ o.kd ≠ .non ∧ Po (.str (aloneL g os o)) P
  | _ => False
theorem sc_Writer_alone : FnScope ["self", "name", "found", "part"] ["self", "name"] (defScope x_Writer_alone) := ⟨rfl, rfl, rfl, by decide +kernel, rfl, by decide +kernel, by decide +kernel⟩
theorem cl_Writer_alone {P : Program} {w : World} {K : PySem.W.Frag} {mg : Str → Option Value} {base : Heap} (T : Txt K mg) (G_quote_token : Cl P w K mg base 2 "quote_token" (s_quote_token K)) (G_OptionTable_abbreviation : Mt P w K mg base 2 (He.ga K "OptionTable") "abbreviation" (s_OptionTable_abbreviation K)) (G_Writer_text : Mt P w K mg base 4 (He.ga K "Writer") "text" (s_Writer_text K)) (G_Writer_attached : Mt P w K mg base 5 (He.ga K "Writer") "attached" (s_Writer_attached K)) : Mt P w K mg base 6 (He.ga K "Writer") "alone" (s_Writer_alone K) := by
  obtain ⟨fd, F⟩ := T.d_Writer_alone
  refine mt_of F T.c_Writer T.m_Writer_alone sc_Writer_alone (fun ws Ps Po h => ?len) (fun _ _ _ _ _ _ us hl => match us, hl with | [_, _], _ => rfl) (fun cdv A outer sh H E hr => ⟨_, _,
      (pss_cons (ps_set (i := 2) sc_Writer_alone.nd rfl (by first | exact Or.inl rfl | exact Or.inr rfl) (pe_lst (pa_cons (pe_cl G_quote_token hr (by decide) (by rfl) (pa_cons (pe_op op_addStr (pe_op op_addStr (pe_op op_addStr (pe_gs (by rfl) T.s_SEPARATOR) (pe_mtd G_OptionTable_abbreviation hr (by decide) (pe_fld (pv 0) rfl) (pa_cons (pv 1) pa_nil))) (pe_gs (by rfl) T.s_EQUALS)) (pe_mtd G_Writer_text hr (by decide) (pv 0) (pa_cons (pv 1) pa_nil))) pa_nil)) pa_nil)))
      (pss_cons (ps_if (pt_cmpR op_ne (pe_dget (hu_of hr) (pe_fld (pe_fld (pv 0) rfl) rfl) (pv 1) (fun _ _ => rfl)) pe_str (nomark _))
      (pss_one (ps_expr (pe_bm PySem.F.plainAttrs_list PySem.F.slot_list_append PySem.F.type_list_append mt_append (pv 2) (pa_cons (pe_mtd G_Writer_attached hr (by decide) (pv 0) (pa_cons pe_str (pa_cons (pv 1) pa_nil))) pa_nil))))
      pss_nil)
      (pss_one (ps_ret (pe_ix ix_seq (pe_callB (call_minD hr) (by rfl) T.f_min (by decide +kernel) (pa_cons (pe_lc (own := [("part", 3)]) rfl sc_Writer_alone.nd (pi_list (pv 2)) (blkOk_by (own := [("part", 3)]) (N := ["self", "name", "found", "part"]) (sc := defScope x_Writer_alone) (by decide +kernel)) (fun _ _ _ _ _ => (pg_name (i := 3) sc_Writer_alone.nd rfl (by first | exact Or.inl rfl | exact Or.inr rfl))) (fun _ _ _ _ _ => pts_nil) (fun _ _ _ _ _ => (pe_tup (pa_cons (pe_callB call_lenQ (by rfl) T.f_len boot_len (pa_cons (pv 3) pa_nil)) (pa_cons (pv 3) pa_nil))))) pa_nil)) pe_int (fun _ _ => rfl)))))),
      (ds_seq (ds_asg (de_lstN (da_cons (de_call (da_cons (de_op rd_addStr (de_op rd_addStr (de_op rd_addStr (de_str k8) (de_meth (de_fld (He.ga K "Writer") 7 T.c_Writer T.n_Writer_table (de_var 0)) (da_cons (de_var 1) da_nil))) (de_str k9)) (de_meth (de_var 0) (da_cons (de_var 1) da_nil))) da_nil)) da_nil)) (dg_name 2))
      (ds_seq (ds_if (dt_test (de_op rd_ne (de_dget (de_fld (He.ga K "OptionTable") 6 T.c_OptionTable T.n_OptionTable_short_names (de_fld (He.ga K "Writer") 7 T.c_Writer T.n_Writer_table (de_var 0))) (de_var 1)) (de_str k14)))
      (ds_drop (de_app (de_var 2) (de_meth (de_var 0) (da_cons (de_str k14) (da_cons (de_var 1) da_nil)))))
      ds_next)
      (ds_ret (de_op rd_ix (de_cb rd_minD (da_cons (de_lc (di_list (de_var 2)) (dg_name 3) dt_yes (de_tup (da_cons (de_cb rd_len (da_cons (de_var 3) da_nil)) (da_cons (de_var 3) da_nil))) (by decide)) da_nil)) (de_int 1))))), fun ws Ps Po h => ?body⟩)
  case len =>
    unfold s_Writer_alone at h
    split at h
    · rfl
    · exact h.elim
  case body =>
    unfold s_Writer_alone at h
    split at h
    rotate_left
    · exact h.elim
    rename_i a n
    obtain ⟨F, os, lo, hi, g, fl, parts, vals, o, ⟨⟨dx, t, ga, p, v, W⟩, ok, A⟩, ho, rfl, hh, hk, h⟩ := h
    have ha := W.pa
    unfold wrO at ha
    have hT := W.tabP
    obtain ⟨dx2, k, l, u, h1, h2, h3, h4⟩ := W.tabP
    unfold tabO at h1
    have hlt := letOk_len (ok.ops o ho).lt
    have htx := txt_len ok A ho hh
    have hab := abbr_len ok ho
    walk_at "s"
    refine ⟨os, lo, hi, hT, ok, List.mem_map_of_mem ho, ?_⟩
    walk_at "s"
    refine ⟨F, os, lo, hi, g, fl, parts, vals, o, ⟨⟨dx, t, ga, p, v, W⟩, ok, A⟩, ho, rfl, hh, hk, ?_⟩
    walk_at "s"
    refine ⟨by simp; omega, ?_⟩
    walk_at "s"
    intro q hq
    have sub : SubP Ps (updP Ps q (.lst [.str (quoteW ([45, 45] ++ abbrL os o.nm ++ [61] ++ txtL g o))])) := SubP.new hq (SubP.refl _)
    have fin : ∀ (os2 : List (List Nat)) (P2 : Pst) (G : Env), os2 ≠ [] → os2.length ≤ 1000 → (∀ x ∈ os2, x.length ≤ 1000) → P2 q = some (.lst (os2.map .str)) → SubP Ps P2 → aloneOs g os o = os2 →
        dRet (dOp ixW (dCB (fMM false) (dCons (dLc (dIList (dVar 2)) (gdName 3) dYes (dTup (dCons (dCB fLen (dCons (dVar 3) dNil)) (dCons (dVar 3) dNil))) [3]) dNil)) (dC (.int 1))) (finD Po) [some (.r a), some (.str o.nm), some (.r q), none] P2 := by
      intro os2 P2 G c1 c2 c3 c4 c5 c6
      walk_at "s"
      refine st_opt (lstP_at c4) ?_
      refine lc_map prI c4 (by rw [List.length_map]; omega) (fun i w acc hw I => ?_) ?_
      · obtain ⟨x, _, hx, rfl⟩ := map_get hw
        have := c3 x hx
        walk_at "s"
        exact wx_yes hw I rfl rfl
      · rw [prI_map]
        cases os2 with
        | nil => exact absurd rfl c1
        | cons x r =>
          refine st_opt (e_mmax (w := .lst _) rfl) ?_
          walk_at "s"
          refine fin_sub c5 ?_
          unfold aloneL at h
          rw [c6] at h
          exact h
    have hq1 : (quoteW ([45, 45] ++ abbrL os o.nm ++ [61] ++ txtL g o)).length ≤ 1000 := Nat.le_trans (quote_len _) (by simp; omega)
    have ha2 : updP Ps q (.lst [.str (quoteW ([45, 45] ++ abbrL os o.nm ++ [61] ++ txtL g o))]) a = some (.ins (He.ga K "Writer") dx [(7, .r t), (9, .r ga), (14, .str fl), (15, .r p), (16, .r v)]) := sub _ _ ha
    have h12 : updP Ps q (.lst [.str (quoteW ([45, 45] ++ abbrL os o.nm ++ [61] ++ txtL g o))]) t = _ := sub _ _ h1
    walk_at "s"
    refine st_opt (dicP_at (sub _ _ h4)) ?_
    refine st_opt (look_shorts ok ho) ?_
    walk_at "s"
    by_cases hl0 : o.lt = []
    · refine iteN (by simp [hl0]) ?_
      refine fin [quoteW ([45, 45] ++ abbrL os o.nm ++ [61] ++ txtL g o)] _ [] (by simp) (by simp) (by intro x hx; rw [List.mem_singleton.mp hx]; exact hq1) updP_same sub (by unfold aloneOs; simp [hl0])
    · refine iteY (by simp [hl0]) ?_
      walk_at "s"
      refine ⟨⟨q, _, rfl, updP_same⟩, ?_⟩
      walk_at "s"
      refine ⟨F, os, lo, hi, g, fl, parts, vals, o, ⟨⟨dx, t, ga, p, v, W.mono sub⟩, ok, A⟩, ho, rfl, hh, hk, by simp, ?_⟩
      walk_at "s"
      refine st_opt (lstM_at updP_same) ?_
      refine st_blt rfl ?_
      have hat := att_len ok A ho hh (fl := []) (by simp)
      exact fin [quoteW ([45, 45] ++ abbrL os o.nm ++ [61] ++ txtL g o), attL g [] o] _ [] (by simp) (by simp) (by
        intro x hx
        rcases List.mem_cons.mp hx with e | e
        · rw [e]; exact hq1
        · rw [List.mem_singleton.mp e]; omega) updP_same (SubP.new hq sub) (by unfold aloneOs; simp [hl0])
end Fc
namespace Fc
open PySem PySem.Spec PyProof.Rows L2
local macro_rules | `(tactic| walk_at "s") => `(tactic| repeat (first
  | refine st_opt rfl ?_
  | refine st_opt (e_len (by first | assumption | omega)) ?_
  | refine st_opt (e_addS (by first | decide | omega | (simp; done) | (simp; omega))) ?_
  | refine st_opt (fldW_at (by first | assumption | exact updP_same) rfl) ?_
  | refine st_opt (insOf_at (by first | assumption | exact updP_same)) ?_
  | refine st_ble rfl ?_
  | refine st_blt rfl ?_
  | refine st_eqr ?_))
def s_Writer_options (K : PySem.W.Frag) : WSp := fun ws P Po => match ws with
  | [.r a] => ∃ F os lo hi g, WrPre K F os lo hi g P a (flagsL g os) (partsLL g os os) ((valsL g os).map (·.nm)) ∧ ∀ q P', P' q = some (.lst ((optionsL g os).map .str)) → P q = none → SubP P P' → Po (.r q) P'
  | _ => False
def OpI (Ps : Pst) (a : Addr) (g : Asg) (os : List Op) (i : Nat) (G : Env) (P : Pst) : Prop := ∃ q x2 x3 x4 x5, G = [some (.r a), some (.r q), x2, x3, x4, x5] ∧ SubP Ps P ∧ Ps q = none ∧ P q = some (.lst (((0, []) :: rowsL g os (flagsL g os) ((valsL g os).take i)).map prW))
def nmO (os : List Op) (f : Op → List Nat) : Wv → Wv
  | .str n => .str (f (opOf os n))
  | w => w
theorem rows_len {g : Asg} {os : List Op} {fl : List Nat} {vs : List Op} : (rowsL g os fl vs).length ≤ vs.length := by
  unfold rowsL
  rw [List.length_map]
  exact List.length_filter_le _ _
theorem filt_nm {os vs : List Op} {lo hi : Int} (G : GOk os lo hi) (hv : ∀ o ∈ vs, o ∈ os) (j : List Nat) (f : Op → List Nat) : (((vs.map (·.nm)).map Wv.str).filter (onS fun n => decide (n ≠ j))).map (nmO os f) = ((vs.filter fun o => decide (o.nm ≠ j)).map f).map Wv.str := by
  rw [filter_mapS, List.filter_map, List.map_map, List.map_map, List.map_map]
  refine List.map_congr_left fun o ho => ?_
  have ho2 := hv o (List.mem_filter.mp ho).1
  show Wv.str (f (opOf os o.nm)) = _
  rw [opOf_eq G ho2]
  rfl
theorem sc_Writer_options : FnScope ["self", "rows", "name", "saved", "joined", "parts"] ["self"] (defScope x_Writer_options) := ⟨rfl, rfl, rfl, by decide +kernel, rfl, by decide +kernel, by decide +kernel⟩
theorem cl_Writer_options {P : Program} {w : World} {K : PySem.W.Frag} {mg : Str → Option Value} {base : Heap} (T : Txt K mg) (G_Writer_alone : Mt P w K mg base 6 (He.ga K "Writer") "alone" (s_Writer_alone K)) (G_Writer_attached : Mt P w K mg base 5 (He.ga K "Writer") "attached" (s_Writer_attached K)) : Mt P w K mg base 7 (He.ga K "Writer") "options" (s_Writer_options K) := by
  obtain ⟨fd, F⟩ := T.d_Writer_options
  refine mt_of F T.c_Writer T.m_Writer_options sc_Writer_options (fun ws Ps Po h => ?len) (fun _ _ _ _ _ _ us hl => match us, hl with | [_], _ => rfl) (fun cdv A outer sh H E hr => ⟨_, _,
      (pss_cons (ps_set (i := 1) sc_Writer_options.nd rfl (by first | exact Or.inl rfl | exact Or.inr rfl) (pe_lst (pa_cons (pe_tup (pa_cons pe_int (pa_cons pe_str pa_nil))) pa_nil)))
      (pss_cons (ps_for PassesOwn.never rfl (pi_list (pe_fld (pv 0) rfl)) (pg_name (i := 2) sc_Writer_options.nd rfl (by first | exact Or.inl rfl | exact Or.inr rfl))
      (pss_one (ps_if (PW.pt (pw_and (pt_cmpR op_ne (pe_fld (pv 0) rfl) pe_str (nomark _)) (pw_and1 (pt_cmpR op_ne (pe_dget (hu_of hr) (pe_fld (pe_fld (pv 0) rfl) rfl) (pv 2) (fun _ _ => rfl)) pe_str (nomark _)))))
      (pss_cons (ps_set (i := 3) sc_Writer_options.nd rfl (by first | exact Or.inl rfl | exact Or.inr rfl) (pe_op op_sub (pe_op op_add (pe_op op_add (pe_callB call_lenQ (by rfl) T.f_len boot_len (pa_cons (pe_mtd G_Writer_alone hr (by decide) (pv 0) (pa_cons (pv 2) pa_nil)) pa_nil)) (pe_callB call_lenQ (by rfl) T.f_len boot_len (pa_cons (pe_fld (pv 0) rfl) pa_nil))) pe_int) (pe_callB call_lenQ (by rfl) T.f_len boot_len (pa_cons (pe_mtd G_Writer_attached hr (by decide) (pv 0) (pa_cons (pe_fld (pv 0) rfl) (pa_cons (pv 2) pa_nil))) pa_nil))))
      (pss_one (ps_expr (pe_bm PySem.F.plainAttrs_list PySem.F.slot_list_append PySem.F.type_list_append mt_append (pv 1) (pa_cons (pe_tup (pa_cons (pv 3) (pa_cons (pv 2) pa_nil))) pa_nil)))))
      pss_nil)))
      (pss_cons (ps_asg (pe_callB (call_maxD hr) (by rfl) T.f_max (by decide +kernel) (pa_cons (pv 1) pa_nil)) (pg_tup (n := 2) rfl (pgs_cons (pg_name (i := 3) sc_Writer_options.nd rfl (by first | exact Or.inl rfl | exact Or.inr rfl)) (pgs_cons (pg_name (i := 4) sc_Writer_options.nd rfl (by first | exact Or.inl rfl | exact Or.inr rfl)) pgs_nil))))
      (pss_cons (ps_set (i := 5) sc_Writer_options.nd rfl (by first | exact Or.inl rfl | exact Or.inr rfl) (pe_callTy call_listQ (by rfl) T.f_list (by decide +kernel) (pa_cons (pe_fld (pv 0) rfl) pa_nil)))
      (pss_cons (ps_if (pt_cmpR op_ne (pv 4) pe_str (nomark _))
      (pss_one (ps_expr (pe_bm PySem.F.plainAttrs_list PySem.F.slot_list_append PySem.F.type_list_append mt_append (pv 5) (pa_cons (pe_mtd G_Writer_attached hr (by decide) (pv 0) (pa_cons (pe_fld (pv 0) rfl) (pa_cons (pv 4) pa_nil))) pa_nil))))
      (pss_one (ps_if (pt_cmpR op_ne (pe_fld (pv 0) rfl) pe_str (nomark _))
      (pss_one (ps_expr (pe_bm PySem.F.plainAttrs_list PySem.F.slot_list_append PySem.F.type_list_append mt_append (pv 5) (pa_cons (pe_op op_addStr (pe_gs (by rfl) T.s_HYPHEN_lines) (pe_fld (pv 0) rfl)) pa_nil))))
      pss_nil)))
      (pss_one (ps_ret (pe_op op_cat (pv 5) (pe_lc (own := [("name", 2)]) rfl sc_Writer_options.nd (pi_list (pe_fld (pv 0) rfl)) (blkOk_by (own := [("name", 2)]) (N := ["self", "rows", "name", "saved", "joined", "parts"]) (sc := defScope x_Writer_options) (by decide +kernel)) (fun _ _ _ _ _ => (pg_name (i := 2) sc_Writer_options.nd rfl (by first | exact Or.inl rfl | exact Or.inr rfl))) (fun _ _ _ _ _ => (pts_one (pt_cmpR op_ne (pv 2) (pv 4) (nomark _)))) (fun _ _ _ _ _ => (pe_mtd G_Writer_alone hr (by decide) (pv 0) (pa_cons (pv 2) pa_nil)))))))))))),
      (ds_seq (ds_asg (de_lstN (da_cons (de_tup (da_cons (de_int 0) (da_cons (de_str k14) da_nil))) da_nil)) (dg_name 1))
      (ds_seq (ds_for (di_list (de_fld (He.ga K "Writer") 16 T.c_Writer T.n_Writer_valued (de_var 0))) (dg_name 2)
      (ds_if (dt_and (dt_test (de_op rd_ne (de_fld (He.ga K "Writer") 14 T.c_Writer T.n_Writer_flags (de_var 0)) (de_str k14))) (dt_test (de_op rd_ne (de_dget (de_fld (He.ga K "OptionTable") 6 T.c_OptionTable T.n_OptionTable_short_names (de_fld (He.ga K "Writer") 7 T.c_Writer T.n_Writer_table (de_var 0))) (de_var 2)) (de_str k14))))
      (ds_seq (ds_asg (de_op rd_sub (de_op rd_add (de_op rd_add (de_cb rd_len (da_cons (de_meth (de_var 0) (da_cons (de_var 2) da_nil)) da_nil)) (de_cb rd_len (da_cons (de_fld (He.ga K "Writer") 14 T.c_Writer T.n_Writer_flags (de_var 0)) da_nil))) (de_int 2)) (de_cb rd_len (da_cons (de_meth (de_var 0) (da_cons (de_fld (He.ga K "Writer") 14 T.c_Writer T.n_Writer_flags (de_var 0)) (da_cons (de_var 2) da_nil))) da_nil))) (dg_name 3))
      (ds_drop (de_app (de_var 1) (de_tup (da_cons (de_var 3) (da_cons (de_var 2) da_nil))))))
      ds_next))
      (ds_seq (ds_asg (de_cb rd_maxD (da_cons (de_var 1) da_nil)) (dg_tup (dgs_cons (dg_name 3) (dgs_cons (dg_name 4) dgs_nil))))
      (ds_seq (ds_asg (de_cbN rd_listN (da_cons (de_fld (He.ga K "Writer") 15 T.c_Writer T.n_Writer_parts (de_var 0)) da_nil)) (dg_name 5))
      (ds_seq (ds_if (dt_test (de_op rd_ne (de_var 4) (de_str k14)))
      (ds_drop (de_app (de_var 5) (de_meth (de_var 0) (da_cons (de_fld (He.ga K "Writer") 14 T.c_Writer T.n_Writer_flags (de_var 0)) (da_cons (de_var 4) da_nil)))))
      (ds_if (dt_test (de_op rd_ne (de_fld (He.ga K "Writer") 14 T.c_Writer T.n_Writer_flags (de_var 0)) (de_str k14)))
      (ds_drop (de_app (de_var 5) (de_op rd_addStr (de_str k1) (de_fld (He.ga K "Writer") 14 T.c_Writer T.n_Writer_flags (de_var 0)))))
      ds_next))
      (ds_ret (de_opN rd_catN (de_var 5) (de_lc (di_list (de_fld (He.ga K "Writer") 16 T.c_Writer T.n_Writer_valued (de_var 0))) (dg_name 2) (dt_test (de_op rd_ne (de_var 2) (de_var 4))) (de_meth (de_var 0) (da_cons (de_var 2) da_nil)) (by decide))))))))), fun ws Ps Po h => ?body⟩)
  case len =>
    unfold s_Writer_options at h
    split at h
    · rfl
    · exact h.elim
  case body =>
    unfold s_Writer_options at h
    split at h
    rotate_left
    · exact h.elim
    rename_i a
    obtain ⟨F, os, lo, hi, g, ⟨⟨dx, t, ga, p, v, W⟩, ok, A⟩, h⟩ := h
    have hf := flags_len ok g os (fun _ h => h)
    have hl2 := ok.len2
    have hvl := vals_len (g := g) (os := os)
    have hpl := parts_len (g := g) (os := os) (l := os)
    have heq : optionsL g os = partsLL g os os ++ (if joinedL g os (flagsL g os) (valsL g os) ≠ [] then [attL g (flagsL g os) (opOf os (joinedL g os (flagsL g os) (valsL g os)))] else if flagsL g os ≠ [] then [[45] ++ flagsL g os] else []) ++ ((valsL g os).filter fun o => decide (o.nm ≠ joinedL g os (flagsL g os) (valsL g os))).map (aloneL g os) := rfl
    have hvm : ∀ o ∈ valsL g os, o ∈ os := fun o ho => (vals_mem ho).1
    walk_at "s"
    intro q hq
    have sub0 : SubP Ps (updP Ps q (.lst [.tup [.int 0, .str []]])) := SubP.new hq (SubP.refl _)
    have haP : ∀ P2, SubP Ps P2 → P2 a = some (.ins (He.ga K "Writer") dx [(7, .r t), (9, .r ga), (14, .str (flagsL g os)), (15, .r p), (16, .r v)]) := fun P2 s => s _ _ W.pa
    have ha2 := haP _ sub0
    have hv2 := sub0 _ _ W.pv
    walk_at "s"
    refine st_opt (lstP_at hv2) ?_
    refine for_I (OpI Ps a g os) ?_ ?_ ?_ ?_
    · exact ⟨q, none, none, none, none, rfl, sub0, hq, updP_same⟩
    · rintro i G2 P2 ⟨q, x2, x3, x4, x5, rfl, sub, hq, hP⟩
      exact sub _ _ W.pv
    · rintro i w G2 P2 hw ⟨q, x2, x3, x4, x5, rfl, sub, hq, hP⟩
      rw [List.map_map] at hw
      obtain ⟨o, hoi, hom, rfl⟩ := map_get hw
      obtain ⟨ho, hh, hk⟩ := vals_mem hom
      have ha := haP _ sub
      have W2 := W.mono sub
      obtain ⟨dx2, k, l, u, h1, h2, h3, h4⟩ := W2.tabP
      unfold tabO at h1
      have hal := alone_len ok A ho hh
      have hat := att_len ok A ho hh (fl := flagsL g os) (by omega)
      have hrow := rows_snoc (g := g) (os := os) (fl := flagsL g os) hoi
      show gdName 2 (.str o.nm) _ _ _
      walk_at "s"
      by_cases hf0 : flagsL g os = []
      · refine iteN (by simp [hf0]) ?_
        refine iteN rfl ?_
        refine ⟨q, _, _, _, _, rfl, sub, hq, ?_⟩
        rw [hrow, if_neg (by simp [hf0]), List.append_nil]
        exact hP
      · refine iteY (by simp [hf0]) ?_
        walk_at "s"
        refine st_opt (dicP_at h4) ?_
        refine st_opt (look_shorts ok ho) ?_
        walk_at "s"
        by_cases hl0 : o.lt = []
        · refine iteN (by simp [hl0]) ?_
          refine ⟨q, _, _, _, _, rfl, sub, hq, ?_⟩
          rw [hrow, if_neg (by simp [hl0]), List.append_nil]
          exact hP
        · refine iteY (by simp [hl0]) ?_
          walk_at "s"
          refine ⟨F, os, lo, hi, g, _, _, _, o, ⟨⟨dx, t, ga, p, v, W2⟩, ok, A⟩, ho, rfl, hh, hk, ?_⟩
          walk_at "s"
          refine ⟨F, os, lo, hi, g, _, _, _, o, ⟨⟨dx, t, ga, p, v, W2⟩, ok, A⟩, ho, rfl, hh, hk, by omega, ?_⟩
          walk_at "s"
          refine ⟨⟨q, _, rfl, hP⟩, ?_⟩
          walk_at "s"
          refine st_opt (lstM_at hP) ?_
          have hrl := rows_len (g := g) (os := os) (fl := flagsL g os) (vs := (valsL g os).take i)
          have : ((valsL g os).take i).length ≤ (valsL g os).length := by rw [List.length_take]; exact Nat.min_le_right _ _
          refine ⟨by show (List.map prW _).length < 1000000; rw [List.length_map, List.length_cons]; omega, ?_⟩
          refine ⟨q, _, _, _, _, rfl, SubP.new hq sub, hq, ?_⟩
          rw [hrow, if_pos (by simp [hf0, hl0]), ← List.cons_append, List.map_append]
          exact updP_same
    · rintro G2 P2 ⟨q, x2, x3, x4, x5, rfl, sub, hq, hP⟩
      rw [List.length_map, List.length_map, List.take_length] at hP
      have ha := haP _ sub
      have W2 := W.mono sub
      walk_at "s"
      refine st_opt (e_mmax (lstP_at hP)) ?_
      rw [if_pos rfl]
      generalize hm : maxP (0, []) (rowsL g os (flagsL g os) (valsL g os)) = m
      obtain ⟨sv, jn⟩ := m
      have hjn : joinedL g os (flagsL g os) (valsL g os) = jn := by unfold joinedL; rw [hm]
      have hjc := joined_cases g os (flagsL g os) (valsL g os)
      rw [hjn] at heq hjc
      walk_at "s"
      refine st_opt (show fListN _ [.r p] = some (SO.lst ((partsLL g os os).map .str)) by unfold fListN f1; simp only [seqP_at W2.pp, Option.map_some]) ?_
      intro r hr
      have hrs := SubP.free sub hr
      have sub1 : SubP Ps (updP P2 r (SO.lst ((partsLL g os os).map .str))) := SubP.new hrs sub
      have ha1 := haP _ sub1
      walk_at "s"
      by_cases hj : jn = []
      · refine iteN (by simp [hj]) ?_
        walk_at "s"
        rw [if_neg (by simp [hj])] at heq
        by_cases hf0 : flagsL g os = []
        · refine iteN (by simp [hf0]) ?_
          rw [if_neg (by simp [hf0]), List.append_nil] at heq
          have heq' := heq
          have sub3 := sub1
          have hr3 : updP P2 r (SO.lst ((partsLL g os os).map .str)) r = some (.lst ((partsLL g os os).map .str)) := updP_same
          have W3 := W.mono sub3
          have hv3 := W3.pv
          walk_at "s"
          refine st_opt (lstP_at (show _ = _ from hv3)) ?_
          refine lc_fm (onS fun n => decide (n ≠ jn)) (nmO os (aloneL g os)) hv3 (by rw [List.length_map, List.length_map]; omega) (fun i w acc hw I => ?_) ?_
          · have hw0 := hw
            rw [List.map_map] at hw0
            obtain ⟨o, _, hom, rfl⟩ := map_get hw0
            obtain ⟨ho, hh, hk⟩ := vals_mem hom
            show gdName 2 (.str o.nm) _ _ _
            walk_at "s"
            by_cases hnj : o.nm = jn
            · refine iteN (by simp [hnj]) ?_
              exact wx_no hw I (by show decide (o.nm ≠ jn) = false; simp [hnj])
            · refine iteY (by simp [hnj]) ?_
              walk_at "s"
              refine ⟨F, os, lo, hi, g, _, _, _, o, ⟨⟨dx, t, ga, p, v, W3⟩, ok, A⟩, ho, rfl, hh, hk, ?_⟩
              exact wx_yes hw I (by show decide (o.nm ≠ jn) = true; simp [hnj]) (by show _ = Wv.str (aloneL g os (opOf os o.nm)); rw [opOf_eq ok ho])
          · rw [filt_nm ok hvm jn (aloneL g os)]
            refine st_opt (e_catN (lstP_at hr3) rfl ?_) ?_
            · have hc := options_cnt ok (g := g)
              rw [heq'] at hc
              rw [← List.length_append, ← List.map_append, List.length_map]
              omega
            · intro q2 hq2
              refine fin_here (h q2 _ ?_ (SubP.free sub3 hq2) (SubP.new (SubP.free sub3 hq2) sub3))
              rw [heq', ← List.map_append]
              exact updP_same
        · refine iteY (by simp [hf0]) ?_
          walk_at "s"
          rw [if_pos hf0] at heq
          have heq' := heq
          refine ⟨⟨r, _, rfl, updP_same⟩, ?_⟩
          walk_at "s"
          refine st_opt (lstM_at updP_same) ?_
          refine ⟨by show (List.map Wv.str _).length < 1000000; rw [List.length_map]; omega, ?_⟩
          have sub3 : SubP Ps (updP (updP P2 r (SO.lst ((partsLL g os os).map .str))) r (.lst ((partsLL g os os).map .str ++ [.str ([45] ++ flagsL g os)]))) := SubP.new hrs sub1
          have hr3 : updP (updP P2 r (SO.lst ((partsLL g os os).map .str))) r (.lst ((partsLL g os os).map .str ++ [.str ([45] ++ flagsL g os)])) r = some (.lst ((partsLL g os os ++ [[45] ++ flagsL g os]).map .str)) := by rw [updP_same, List.map_append]; rfl
          have W3 := W.mono sub3
          have hv3 := W3.pv
          have ha3 := haP _ sub3
          walk_at "s"
          refine st_opt (lstP_at (show _ = _ from hv3)) ?_
          refine lc_fm (onS fun n => decide (n ≠ jn)) (nmO os (aloneL g os)) hv3 (by rw [List.length_map, List.length_map]; omega) (fun i w acc hw I => ?_) ?_
          · have hw0 := hw
            rw [List.map_map] at hw0
            obtain ⟨o, _, hom, rfl⟩ := map_get hw0
            obtain ⟨ho, hh, hk⟩ := vals_mem hom
            show gdName 2 (.str o.nm) _ _ _
            walk_at "s"
            by_cases hnj : o.nm = jn
            · refine iteN (by simp [hnj]) ?_
              exact wx_no hw I (by show decide (o.nm ≠ jn) = false; simp [hnj])
            · refine iteY (by simp [hnj]) ?_
              walk_at "s"
              refine ⟨F, os, lo, hi, g, _, _, _, o, ⟨⟨dx, t, ga, p, v, W3⟩, ok, A⟩, ho, rfl, hh, hk, ?_⟩
              exact wx_yes hw I (by show decide (o.nm ≠ jn) = true; simp [hnj]) (by show _ = Wv.str (aloneL g os (opOf os o.nm)); rw [opOf_eq ok ho])
          · rw [filt_nm ok hvm jn (aloneL g os)]
            refine st_opt (e_catN (lstP_at hr3) rfl ?_) ?_
            · have hc := options_cnt ok (g := g)
              rw [heq'] at hc
              rw [← List.length_append, ← List.map_append, List.length_map]
              omega
            · intro q2 hq2
              refine fin_here (h q2 _ ?_ (SubP.free sub3 hq2) (SubP.new (SubP.free sub3 hq2) sub3))
              rw [heq', ← List.map_append]
              exact updP_same
      · obtain ⟨o, hom, hon, hf0, hl0⟩ := hjc.resolve_left hj
        obtain ⟨ho, hh, hk⟩ := vals_mem hom
        refine iteY (by simp [hj]) ?_
        walk_at "s"
        refine ⟨⟨r, _, rfl, updP_same⟩, ?_⟩
        walk_at "s"
        refine ⟨F, os, lo, hi, g, _, _, _, o, ⟨⟨dx, t, ga, p, v, W.mono sub1⟩, ok, A⟩, ho, hon, hh, hk, by omega, ?_⟩
        rw [if_pos hj, hon, opOf_eq ok ho, ← hon] at heq
        have heq' := heq
        refine st_opt (lstM_at updP_same) ?_
        refine ⟨by show (List.map Wv.str _).length < 1000000; rw [List.length_map]; omega, ?_⟩
        have sub3 : SubP Ps (updP (updP P2 r (SO.lst ((partsLL g os os).map .str))) r (.lst ((partsLL g os os).map .str ++ [.str (attL g (flagsL g os) o)]))) := SubP.new hrs sub1
        have hr3 : updP (updP P2 r (SO.lst ((partsLL g os os).map .str))) r (.lst ((partsLL g os os).map .str ++ [.str (attL g (flagsL g os) o)])) r = some (.lst ((partsLL g os os ++ [attL g (flagsL g os) o]).map .str)) := by rw [updP_same, List.map_append]; rfl
        have W3 := W.mono sub3
        have hv3 := W3.pv
        have ha3 := haP _ sub3
        walk_at "s"
        refine st_opt (lstP_at (show _ = _ from hv3)) ?_
        refine lc_fm (onS fun n => decide (n ≠ jn)) (nmO os (aloneL g os)) hv3 (by rw [List.length_map, List.length_map]; omega) (fun i w acc hw I => ?_) ?_
        · have hw0 := hw
          rw [List.map_map] at hw0
          obtain ⟨o, _, hom, rfl⟩ := map_get hw0
          obtain ⟨ho, hh, hk⟩ := vals_mem hom
          show gdName 2 (.str o.nm) _ _ _
          walk_at "s"
          by_cases hnj : o.nm = jn
          · refine iteN (by simp [hnj]) ?_
            exact wx_no hw I (by show decide (o.nm ≠ jn) = false; simp [hnj])
          · refine iteY (by simp [hnj]) ?_
            walk_at "s"
            refine ⟨F, os, lo, hi, g, _, _, _, o, ⟨⟨dx, t, ga, p, v, W3⟩, ok, A⟩, ho, rfl, hh, hk, ?_⟩
            exact wx_yes hw I (by show decide (o.nm ≠ jn) = true; simp [hnj]) (by show _ = Wv.str (aloneL g os (opOf os o.nm)); rw [opOf_eq ok ho])
        · rw [filt_nm ok hvm jn (aloneL g os)]
          refine st_opt (e_catN (lstP_at hr3) rfl ?_) ?_
          · have hc := options_cnt ok (g := g)
            rw [heq'] at hc
            rw [← List.length_append, ← List.map_append, List.length_map]
            omega
          · intro q2 hq2
            refine fin_here (h q2 _ ?_ (SubP.free sub3 hq2) (SubP.new (SubP.free sub3 hq2) sub3))
            rw [heq', ← List.map_append]
            exact updP_same
end Fc
namespace Fc
open PySem PySem.Spec PyProof.Rows L2
local macro_rules | `(tactic| walk_at "s") => `(tactic| repeat (first
  | refine st_opt rfl ?_
  | refine st_opt (e_len (by first | assumption | omega)) ?_
  | refine st_opt (e_addS (by first | decide | omega | (simp; done) | (simp; omega))) ?_
  | refine st_opt (fldW_at (by first | assumption | exact updP_same) rfl) ?_
  | refine st_opt (insOf_at (by first | assumption | exact updP_same)) ?_
  | refine st_ble rfl ?_
  | refine st_blt rfl ?_
  | refine st_eqr ?_))
theorem filt_take {α β : Type} {f : α → Bool} {h : α → β} {os : List α} {i : Nat} {o : α} (e : os[i]? = some o) : ((os.take (i + 1)).filter f).map h = ((os.take i).filter f).map h ++ (if f o = true then [h o] else []) := by
  rw [take_succ_get e, List.filter_append, List.map_append, List.filter_cons]
  split <;> simp_all
theorem flags_take {g : Asg} {os : List Op} {i : Nat} {o : Op} (e : os[i]? = some o) : flagsL g (os.take (i + 1)) = flagsL g (os.take i) ++ (if (hasK g o && isFlag o && decide (o.lt ≠ [])) = true then o.lt else []) := by
  unfold flagsL
  rw [filt_take e, List.flatten_append]
  congr 1
  split <;> simp
theorem parts_take {g : Asg} {os l : List Op} {i : Nat} {o : Op} (e : l[i]? = some o) : partsLL g os (l.take (i + 1)) = partsLL g os (l.take i) ++ (if (hasK g o && isFlag o && decide (o.lt = [])) = true then [[45, 45] ++ abbrL os o.nm] else []) := by
  unfold partsLL
  rw [filt_take e]
theorem vals_take {g : Asg} {os : List Op} {i : Nat} {o : Op} (e : os[i]? = some o) : (valsL g (os.take (i + 1))).map (·.nm) = (valsL g (os.take i)).map (·.nm) ++ (if (hasK g o && !isFlag o) = true then [o.nm] else []) := by
  unfold valsL
  rw [filt_take e]
def s_Writer___init__ (K : PySem.W.Frag) : WSp := fun ws P Po => match ws with
  | [.r a, w, .r ga] => ∃ os lo hi g dx, w = gramW os lo hi ∧ GOk os lo hi ∧ P ga = some (.dic g) ∧ P a = some (.ins (He.ga K "Writer") dx []) ∧ ∀ F P', WrAt K F os g P' a (flagsL g os) (partsLL g os os) ((valsL g os).map (·.nm)) → SubP (delP P a) F → Po .non P'
  | _ => False
def WiI (K : PySem.W.Frag) (F : Pst) (w : Wv) (os : List Op) (g : Asg) (a ga : Addr) (i : Nat) (G : Env) (P : Pst) : Prop := ∃ y, G = [some (.r a), some w, some (.r ga), y] ∧ WrAt K F os g P a (flagsL g (os.take i)) (partsLL g os (os.take i)) ((valsL g (os.take i)).map (·.nm))
theorem sc_Writer___init__ : FnScope ["self", "grammar", "assignments", "name"] ["self", "grammar", "assignments"] (defScope x_Writer___init__) := ⟨rfl, rfl, rfl, by decide +kernel, rfl, by decide +kernel, by decide +kernel⟩
theorem cl_Writer___init__ {P : Program} {w : World} {K : PySem.W.Frag} {mg : Str → Option Value} {base : Heap} (T : Txt K mg) (G_OptionTable___init__ : Mq P w K mg base 2 "OptionTable" (He.ga K "OptionTable") (s_OptionTable___init__ K)) (G_Writer_add : Mt P w K mg base 3 (He.ga K "Writer") "add" (s_Writer_add K)) : Mq P w K mg base 4 "Writer" (He.ga K "Writer") (s_Writer___init__ K) := by
  obtain ⟨fd, F⟩ := T.d_Writer___init__
  refine mq_of F T.g_Writer T.k_Writer sc_Writer___init__ (fun ws Ps Po h => ?len) (fun _ _ _ _ _ _ us hl => match us, hl with | [_, _, _], _ => rfl) (fun cdv A outer sh H E hr => ⟨_, _,
      (pss_cons (ps_fld (pv 0) (pe_mq G_OptionTable___init__ hr (by decide) (by rfl) (pa_cons (pv 1) pa_nil)) rfl)
      (pss_cons (ps_fld (pv 0) (pv 2) rfl)
      (pss_cons (ps_fld (pv 0) pe_str rfl)
      (pss_cons (ps_fld (pv 0) (pe_lst pa_nil) rfl)
      (pss_cons (ps_fld (pv 0) (pe_lst pa_nil) rfl)
      (pss_one (ps_for PassesOwn.never rfl (pi_list (pe_fld (pe_fld (pv 0) rfl) rfl)) (pg_name (i := 3) sc_Writer___init__.nd rfl (by first | exact Or.inl rfl | exact Or.inr rfl))
      (pss_one (ps_if (pt_cmp (pc_din (hu_of hr) (pv 3) (pv 2)))
      (pss_one (ps_expr (pe_mtd G_Writer_add hr (by decide) (pv 0) (pa_cons (pv 3) pa_nil))))
      pss_nil))))))))),
      (ds_seq (ds_fld (He.ga K "Writer") 7 T.c_Writer T.n_Writer_table (de_var 0) (de_make (da_cons (de_var 1) da_nil)))
      (ds_seq (ds_fld (He.ga K "Writer") 9 T.c_Writer T.n_Writer_assignments (de_var 0) (de_var 2))
      (ds_seq (ds_fld (He.ga K "Writer") 14 T.c_Writer T.n_Writer_flags (de_var 0) (de_str k14))
      (ds_seq (ds_fld (He.ga K "Writer") 15 T.c_Writer T.n_Writer_parts (de_var 0) (de_lstN da_nil))
      (ds_seq (ds_fld (He.ga K "Writer") 16 T.c_Writer T.n_Writer_valued (de_var 0) (de_lstN da_nil))
      (ds_for (di_list (de_fld (He.ga K "OptionTable") 3 T.c_OptionTable T.n_OptionTable_names (de_fld (He.ga K "Writer") 7 T.c_Writer T.n_Writer_table (de_var 0)))) (dg_name 3)
      (ds_if (dt_B (de_din (de_var 3) (de_var 2)))
      (ds_drop (de_meth (de_var 0) (da_cons (de_var 3) da_nil)))
      ds_next))))))), fun ws Ps Po h => ?body⟩)
  case len =>
    unfold s_Writer___init__ at h
    split at h
    · rfl
    · exact h.elim
  case body =>
    unfold s_Writer___init__ at h
    split at h
    rotate_left
    · exact h.elim
    rename_i a w ga
    obtain ⟨os, lo, hi, g, dx, rfl, ok, hga, ha, h⟩ := h
    have hgaa : ga ≠ a := fun e => by subst e; rw [ha] at hga; cases hga
    walk_at "s"
    intro t dx2 ht
    have hta : a ≠ t := fun e => by subst e; rw [ha] at ht; cases ht
    have htg : ga ≠ t := fun e => by subst e; rw [hga] at ht; cases ht
    refine ⟨os, lo, hi, dx2, rfl, ok, updP_same, fun T P1 h1 h2 h3 h4 => ⟨rfl, ?_⟩⟩
    have ha1 : P1 a = some (.ins (He.ga K "Writer") dx []) := h4 a _ (by rw [delP_ne hta, updP_ne hta]; exact ha)
    have hga1 : P1 ga = some (.dic g) := h4 ga _ (by rw [delP_ne htg, updP_ne htg]; exact hga)
    have hTa : T a = none := by
      cases q : T a with
      | none => rfl
      | some o =>
        rcases h2 a (by rw [q]; simp) with e | e
        · exact absurd e hta
        · rw [updP_ne hta, ha] at e
          cases e
    walk_at "s"
    intro p hp
    obtain ⟨hpa, hp⟩ := updP_none hp
    have hpa : p ≠ a := hpa
    obtain ⟨_, hp⟩ := updP_none hp
    obtain ⟨_, hp⟩ := updP_none hp
    walk_at "s"
    refine st_opt (insOf_at (updP_at (Ne.symm hpa) updP_same)) ?_
    walk_at "s"
    intro v hv
    obtain ⟨hva, hv⟩ := updP_none hv
    have hva : v ≠ a := hva
    obtain ⟨hvp, hv⟩ := updP_none hv
    obtain ⟨_, hv⟩ := updP_none hv
    obtain ⟨_, hv⟩ := updP_none hv
    obtain ⟨_, hv⟩ := updP_none hv
    walk_at "s"
    refine st_opt (insOf_at (updP_at (Ne.symm hva) updP_same)) ?_
    refine st_blt rfl ?_
    have key : ∀ P2 : Pst, P2 a = some (wrO K dx t ga [] p v) → P2 p = some (.lst []) → P2 v = some (.lst []) → (∀ b, b ≠ a → b ≠ p → b ≠ v → P2 b = P1 b) →
        WrA K (fun b => if b = a ∨ b = p ∨ b = v then none else P2 b) os g P2 a [] [] [] dx t ga p v ∧ SubP (delP Ps a) (fun b => if b = a ∨ b = p ∨ b = v then none else P2 b) := by
      intro P2 g1 g2 g3 g4
      have hgp : ga ≠ p := fun e => by rw [e] at hga1; rw [hp] at hga1; cases hga1
      have hgv : ga ≠ v := fun e => by rw [e] at hga1; rw [hv] at hga1; cases hga1
      refine ⟨⟨g1, g2, g3, ?_, ?_, ?_, ?_, ?_, ?_, Ne.symm hpa, Ne.symm hva, Ne.symm hvp⟩, ?_⟩
      · show (if ga = a ∨ ga = p ∨ ga = v then none else P2 ga) = _
        rw [if_neg (by rintro (z | z | z) <;> contradiction), g4 ga hgaa hgp hgv]
        exact hga1
      · refine h1.mono fun b so e => ?_
        have q1 : b ≠ a := fun z => by rw [z, hTa] at e; cases e
        have e1 := h3 b so e
        have q2 : b ≠ p := fun z => by rw [z, hp] at e1; cases e1
        have q3 : b ≠ v := fun z => by rw [z, hv] at e1; cases e1
        show (if b = a ∨ b = p ∨ b = v then none else P2 b) = _
        rw [if_neg (by rintro (z | z | z) <;> contradiction), g4 b q1 q2 q3]
        exact e1
      · intro b so e
        simp only at e
        split at e
        · cases e
        · exact e
      · exact if_pos (.inl rfl)
      · exact if_pos (.inr (.inl rfl))
      · exact if_pos (.inr (.inr rfl))
      · intro b so e
        have q1 : b ≠ a := fun z => by
          subst z
          unfold delP at e
          rw [if_pos rfl] at e
          cases e
        rw [delP_ne q1] at e
        have q0 : b ≠ t := ne_ofP e ht
        have e1 := h4 b so (by rw [delP_ne q0, updP_ne q0]; exact e)
        have q2 : b ≠ p := fun z => by rw [z, hp] at e1; cases e1
        have q3 : b ≠ v := fun z => by rw [z, hv] at e1; cases e1
        show (if b = a ∨ b = p ∨ b = v then none else P2 b) = _
        rw [if_neg (by rintro (z | z | z) <;> contradiction), g4 b q1 q2 q3]
        exact e1
    have loop : ∀ (F P2 : Pst), WrA K F os g P2 a [] [] [] dx t ga p v → SubP (delP Ps a) F → dFor (dIList (dFld (He.ga K "OptionTable") 3 (dFld (He.ga K "Writer") 7 (dVar 0)))) (gdName 3) (dIfS (dTest (dDIn false (dVar 3) (dVar 2))) (dDrop (dMeth (He.ga K "Writer") (s_Writer_add K) (dVar 0) (dCons (dVar 3) dNil))) dNext) (finD Po) [some (.r a), some (gramW os lo hi), some (.r ga), none] P2 := by
      intro F P2 W subF
      have hFg := W.fg
      have ha := W.pa
      unfold wrO at ha
      obtain ⟨dx3, k, l, u, g1, g2, g3, g4⟩ := W.tabP
      unfold tabO at g1
      walk_at "s"
      refine for_I (WiI K F (gramW os lo hi) os g a ga) ⟨none, rfl, dx, t, ga, p, v, W⟩ (fun _ _ _ _ => trivial) ?_ ?_
      · rintro i w G2 P2 hw ⟨y, rfl, dx, t, ga2, p, v, W⟩
        unfold namesL at hw
        rw [List.map_map] at hw
        obtain ⟨o, hoi, ho, rfl⟩ := map_get hw
        have ha := W.pa
        unfold wrO at ha
        show gdName 3 (.str o.nm) _ _ _
        walk_at "s"
        refine st_opt (dicP_at (W.sub _ _ hFg)) ?_
        have e1 := flags_take (g := g) hoi
        have e2 := parts_take (g := g) (os := os) hoi
        have e3 := vals_take (g := g) hoi
        have eh : (lookD g o.nm).isSome = hasK g o := rfl
        cases hh : hasK g o with
        | false =>
          refine iteN hh ?_
          rw [hh] at e1 e2 e3
          refine ⟨_, rfl, dx, t, ga2, p, v, ?_⟩
          rw [e1, e2, e3]
          simpa using W
        | true =>
          refine iteY hh ?_
          rw [hh] at e1 e2 e3
          walk_at "s"
          have lt : (os.take i).length ≤ 12 := by rw [List.length_take]; have := ok.len2; omega
          have l1 := flags_len ok g (os.take i) (fun x hx => List.mem_of_mem_take hx)
          have l2 := parts_len (g := g) (os := os) (l := os.take i)
          have l3 := vals_len (g := g) (os := os.take i)
          refine ⟨F, os, lo, hi, g, _, _, _, o, ⟨dx, t, ga2, p, v, W⟩, ok, ho, rfl, by omega, by omega, by rw [List.length_map]; omega, ?_⟩
          intro P' W'
          refine ⟨_, rfl, ?_⟩
          have q1 : ∀ (b : Bool) (x y : List Nat), (if b = true then x ++ y else x) = x ++ (if b = true then y else []) := by
            intro b x y; cases b <;> simp
          have q2 : ∀ (b : Bool) (x : List (List Nat)) (y : List Nat), (if b = true then x ++ [y] else x) = x ++ (if b = true then [y] else []) := by
            intro b x y; cases b <;> simp
          have q3 : ∀ (b : Bool) (x : List (List Nat)) (y : List Nat), (if b = true then x else x ++ [y]) = x ++ (if (!b) = true then [y] else []) := by
            intro b x y; cases b <;> simp
          rw [q1, q2, q3] at W'
          rw [e1, e2, e3, Bool.true_and, Bool.true_and]
          exact W'
      · rintro G2 P2 ⟨y, rfl, W⟩
        have W : WrAt _ _ _ _ _ _ _ _ _ := W
        rw [List.length_map] at W
        unfold namesL at W
        rw [List.length_map, List.take_length] at W
        exact fin_here (h F P2 W subF)
    have loop2 := fun (P2 : Pst) (g1 : P2 a = some (wrO K dx t ga [] p v)) (g2 : P2 p = some (.lst [])) (g3 : P2 v = some (.lst [])) (g4 : ∀ b, b ≠ a → b ≠ p → b ≠ v → P2 b = P1 b) => loop _ P2 (key P2 g1 g2 g3 g4).1 (key P2 g1 g2 g3 g4).2
    refine loop2 _ updP_same ?_ ?_ ?_
    · repeat (first | exact updP_same | refine updP_at (by first | assumption | exact Ne.symm ‹_›) ?_)
    · repeat (first | exact updP_same | refine updP_at (by first | assumption | exact Ne.symm ‹_›) ?_)
    · intro b q1 q2 q3
      repeat (first | exact rfl | refine updP_at (by assumption) ?_)
def s_compact (_ : PySem.W.Frag) : WSp := fun ws P Po => match ws with
  | [w, .r ga, .lst ws] => ∃ os lo hi g, ∃ ts : List (List Nat), w = gramW os lo hi ∧ GOk os lo hi ∧ P ga = some (.dic g) ∧ AOk os g ∧ ws = ts.map .str ∧ WdsOk lo hi ts ∧ Po (.str (compactL g os ts)) P
  | _ => False
theorem wds_len {lo hi : Int} {ts : List (List Nat)} (h : WdsOk lo hi ts) (h9 : hi ≤ 9) : ts.length ≤ 9 := by
  have := h.2.1
  omega
theorem flat_len (ps : List (List Nat)) (n : Nat) (h : ∀ x ∈ ps, x.length ≤ n) : ps.flatten.length ≤ ps.length * n := by
  induction ps with
  | nil => simp
  | cons p r ih =>
    have h1 := h p List.mem_cons_self
    have h2 := ih fun x hx => h x (List.mem_cons_of_mem _ hx)
    rw [List.flatten_cons, List.length_append, List.length_cons, Nat.succ_mul]
    omega
theorem e_joinS2 {P : Pst} {w : Wv} {s : List Nat} {ps : List (List Nat)} (h : seqP P w = some (ps.map .str)) (hl : ps.flatten.length ≤ 1000000) (h2 : ps.length * s.length ≤ 10000) : fJoin P s w = some (.str (TL.joinL s ps)) := by
  unfold fJoin
  rw [h, Option.bind_some, strsOf_map, Option.bind_some]
  have e : (ps.map List.length).sum + ps.length * s.length ≤ 16777216 := by
    rw [sum_len]
    omega
  rw [if_pos e, joinW_eq]
def ordW : Wv → Bool
  | .str x => ordB x
  | _ => false
theorem all_ord (ts : List (List Nat)) : (ts.map Wv.str).all ordW = ts.all ordB := by
  rw [List.all_map]
  rfl
theorem sc_compact : FnScope ["grammar", "assignments", "words", "parts", "word"] ["grammar", "assignments", "words"] (defScope x_compact) := ⟨rfl, rfl, rfl, by decide +kernel, rfl, by decide +kernel, by decide +kernel⟩
theorem cl_compact {P : Program} {w : World} {K : PySem.W.Frag} {mg : Str → Option Value} {base : Heap} (T : Txt K mg) (G_check_grammar : Cl P w K mg base 5 "check_grammar" (s_check_grammar K)) (G_check_arguments : Cl P w K mg base 3 "check_arguments" (s_check_arguments K)) (G_Writer_options : Mt P w K mg base 7 (He.ga K "Writer") "options" (s_Writer_options K)) (G_Writer___init__ : Mq P w K mg base 4 "Writer" (He.ga K "Writer") (s_Writer___init__ K)) (G_is_ordinary : Cl P w K mg base 2 "is_ordinary" (s_is_ordinary K)) (G_quote_token : Cl P w K mg base 2 "quote_token" (s_quote_token K)) : Cl P w K mg base 8 "compact" (s_compact K) := by
  obtain ⟨fd, F⟩ := T.d_compact
  refine cl_of F T.g_compact sc_compact (fun ws Ps Po h => ?len) (fun _ _ _ _ _ _ us hl => match us, hl with | [_, _, _], _ => rfl) (fun cdv A outer sh H E hr => ⟨_, _,
      (pss_cons (ps_expr (pe_cl G_check_grammar hr (by decide) (by rfl) (pa_cons (pv 0) pa_nil)))
      (pss_cons (ps_expr (pe_cl G_check_arguments hr (by decide) (by rfl) (pa_cons (pv 0) (pa_cons (pv 1) (pa_cons (pv 2) pa_nil)))))
      (pss_cons (ps_set (i := 3) sc_compact.nd rfl (by first | exact Or.inl rfl | exact Or.inr rfl) (pe_mtd0 G_Writer_options hr (by decide) (pe_mq G_Writer___init__ hr (by decide) (by rfl) (pa_cons (pv 0) (pa_cons (pv 1) pa_nil)))))
      (pss_cons (ps_if (pt_not (pt_val (pe_callB (cr_all rfl) (by rfl) T.f_all (by decide +kernel) (pa_cons (pe_lc (own := [("word", 4)]) rfl sc_compact.nd (pi_list (pv 2)) (blkOk_by (own := [("word", 4)]) (N := ["grammar", "assignments", "words", "parts", "word"]) (sc := defScope x_compact) (by decide +kernel)) (fun _ _ _ _ _ => (pg_name (i := 4) sc_compact.nd rfl (by first | exact Or.inl rfl | exact Or.inr rfl))) (fun _ _ _ _ _ => pts_nil) (fun _ _ _ _ _ => (pe_cl G_is_ordinary hr (by decide) (by rfl) (pa_cons (pv 4) pa_nil)))) pa_nil))))
      (pss_one (ps_expr (pe_bm PySem.F.plainAttrs_list PySem.F.slot_list_append PySem.F.type_list_append mt_append (pv 3) (pa_cons (pe_gs (by rfl) T.s_SEPARATOR) pa_nil))))
      pss_nil)
      (pss_one (ps_ret (pe_join (pe_gs (by rfl) T.s_SPACE) (pe_op op_cat (pv 3) (pe_lc (own := [("word", 4)]) rfl sc_compact.nd (pi_list (pv 2)) (blkOk_by (own := [("word", 4)]) (N := ["grammar", "assignments", "words", "parts", "word"]) (sc := defScope x_compact) (by decide +kernel)) (fun _ _ _ _ _ => (pg_name (i := 4) sc_compact.nd rfl (by first | exact Or.inl rfl | exact Or.inr rfl))) (fun _ _ _ _ _ => pts_nil) (fun _ _ _ _ _ => (pe_cl G_quote_token hr (by decide) (by rfl) (pa_cons (pv 4) pa_nil)))))))))))),
      (ds_seq (ds_drop (de_call (da_cons (de_var 0) da_nil)))
      (ds_seq (ds_drop (de_call (da_cons (de_var 0) (da_cons (de_var 1) (da_cons (de_var 2) da_nil)))))
      (ds_seq (ds_asg (de_meth (de_make (da_cons (de_var 0) (da_cons (de_var 1) da_nil))) da_nil) (dg_name 3))
      (ds_seq (ds_if (dt_not (dt_B (de_cb rd_all (da_cons (de_lc (di_list (de_var 2)) (dg_name 4) dt_yes (de_call (da_cons (de_var 4) da_nil)) (by decide)) da_nil))))
      (ds_drop (de_app (de_var 3) (de_str k8)))
      ds_next)
      (ds_ret (de_m1 rd_join (de_str k3) (de_op rd_cat (de_var 3) (de_lc (di_list (de_var 2)) (dg_name 4) dt_yes (de_call (da_cons (de_var 4) da_nil)) (by decide))))))))), fun ws Ps Po h => ?body⟩)
  case len =>
    unfold s_compact at h
    split at h
    · rfl
    · exact h.elim
  case body =>
    unfold s_compact at h
    split at h
    rotate_left
    · exact h.elim
    rename_i w ga ws
    obtain ⟨os, lo, hi, g, ts, rfl, ok, hga, A, rfl, hw, h⟩ := h
    have hwl := wds_len hw ok.hi9
    walk_at "s"
    refine ⟨os, lo, hi, rfl, ok, ?_⟩
    walk_at "s"
    refine ⟨os, lo, hi, g, ts, rfl, ok, hga, A, rfl, hw, ?_⟩
    walk_at "s"
    intro a dx ha
    have hgaa : ga ≠ a := fun e => by subst e; rw [hga] at ha; cases ha
    refine ⟨os, lo, hi, g, dx, rfl, ok, updP_at hgaa hga, updP_same, fun F P1 W subF => ⟨rfl, ?_⟩⟩
    have sub1 : SubP Ps P1 := by
      obtain ⟨_, _, _, _, _, W⟩ := W
      refine SubP.trans (fun b so e => ?_) (subF.trans W.sub)
      have q : b ≠ a := ne_ofP e ha
      rw [delP_ne q, updP_ne q]
      exact e
    obtain ⟨dx1, t, ga1, p, v, W⟩ := W
    have ha1 := W.pa
    unfold wrO at ha1
    walk_at "s"
    refine ⟨F, os, lo, hi, g, ⟨⟨dx1, t, ga1, p, v, W⟩, ok, A⟩, fun q P2 hq hqn sub2 => ?_⟩
    have sub := sub1.trans sub2
    have hqs : Ps q = none := SubP.free sub1 hqn
    walk_at "s"
    have hon : ∀ x ∈ optionsL g os, x.length ≤ 500 := fun x hx => options_mem ok A hx
    have hoc := options_cnt ok (g := g)
    have fin : ∀ (ps : List (List Nat)) (P3 : Pst) (y : Option Wv), P3 q = some (.lst (ps.map .str)) → SubP Ps P3 → ps.length ≤ 30 → (∀ x ∈ ps, x.length ≤ 500) → compactL g os ts = TL.joinL [32] (ps ++ ts.map quoteW) →
        dRet (dM1 fJoin (dC (.str [32])) (dOp fCat (dVar 3) (dLc (dIList (dVar 2)) (gdName 4) dYes (dCall (s_quote_token K) (dCons (dVar 4) dNil)) [4]))) (finD Po) [some (gramW os lo hi), some (.r ga), some (.lst (ts.map .str)), some (.r q), y] P3 := by
      intro ps P3 y c1 c2 c3 c4 c5
      walk_at "s"
      refine lc_map (fun w => match w with | .str x => .str (quoteW x) | w => w) trivial (by rw [List.length_map]; omega) (fun i w acc hw2 I => ?_) ?_
      · obtain ⟨x, _, hx, rfl⟩ := map_get hw2
        have := (hw.2.2 x hx).1
        walk_at "s"
        refine ⟨by omega, ?_⟩
        exact wx_yes hw2 I rfl rfl
      · have e0 : (ts.map Wv.str).map (fun w => match w with | .str x => .str (quoteW x) | w => w) = (ts.map quoteW).map Wv.str := by
          rw [List.map_map, List.map_map]
          rfl
        rw [e0]
        refine st_opt (e_cat (lstP_at c1) rfl (by rw [List.length_map, List.length_map, List.length_map]; omega)) ?_
        have hq4 : ∀ x ∈ ps ++ ts.map quoteW, x.length ≤ 500 := by
          intro x hx
          rcases List.mem_append.mp hx with e | e
          · exact c4 x e
          · obtain ⟨y, hy, rfl⟩ := List.mem_map.mp e
            have := (hw.2.2 y hy).1
            have := quote_len y
            omega
        have hfl := flat_len _ 500 hq4
        rw [← List.map_append]
        have hcl : (ps ++ ts.map quoteW).length ≤ 39 := by rw [List.length_append, List.length_map]; omega
        walk_at "s"
        refine st_opt (e_joinS2 rfl (by omega) (by rw [show ([32] : List Nat).length = 1 from rfl, Nat.mul_one]; omega)) ?_
        refine fin_sub c2 ?_
        rw [c5] at h
        exact h
    refine lc_map (fun w => .bl (ordW w)) trivial (by rw [List.length_map]; omega) (fun i w acc hw2 I => ?_) ?_
    · obtain ⟨x, _, hx, rfl⟩ := map_get hw2
      have := (hw.2.2 x hx).1
      walk_at "s"
      exact ⟨by omega, wx_yes hw2 I rfl rfl⟩
    · refine st_opt (e_all ordW) ?_
      rw [all_ord]
      have hcomp : compactL g os ts = TL.joinL [32] ((optionsL g os ++ (if ts.all ordB = true then [] else [[45, 45]])) ++ ts.map quoteW) := rfl
      cases hall : ts.all ordB with
      | true =>
        rw [hall] at hcomp
        refine fin (optionsL g os) _ _ hq sub (by omega) hon ?_
        rw [hcomp, if_pos rfl, List.append_nil]
      | false =>
        rw [hall] at hcomp
        walk_at "s"
        refine ⟨⟨q, _, rfl, hq⟩, ?_⟩
        walk_at "s"
        refine st_opt (lstM_at hq) ?_
        refine ⟨by show (List.map Wv.str _).length < 1000000; rw [List.length_map]; omega, ?_⟩
        refine fin (optionsL g os ++ [[45, 45]]) _ _ (by rw [updP_same, List.map_append]; rfl) (SubP.new hqs sub) (by rw [List.length_append]; simp; omega) ?_ ?_
        · intro x hx
          rcases List.mem_append.mp hx with e | e
          · exact hon x e
          · rw [List.mem_singleton.mp e]; simp
        · rw [hcomp, if_neg (by simp)]
end Fc
namespace Fc
open PySem PySem.Spec PyProof.Rows L2
local macro_rules | `(tactic| walk_at "s") => `(tactic| repeat (first
  | refine st_opt rfl ?_
  | refine st_opt (e_len (by first | assumption | omega)) ?_
  | refine st_opt (e_addS (by first | decide | omega | (simp; done) | (simp; omega))) ?_
  | refine st_opt (fldW_at (by first | assumption | exact updP_same) rfl) ?_
  | refine st_opt (insOf_at (by first | assumption | exact updP_same)) ?_
  | refine st_ble rfl ?_
  | refine st_blt rfl ?_
  | refine st_eqr ?_))
def s__law_taken (_ : PySem.W.Frag) : WSp := fun ws P Po => match ws with
  | [.r a, .int m] => ∃ ns, RowAt P a ns ∧ 0 < m ∧ m < 1000 ∧ ∀ v P', 0 ≤ v → v < m → RowP P P' a ns → Po (.int v) P'
  | _ => False
theorem sc__law_taken : FnScope ["_law_row", "_law_many", "_law_cell", "_law_found"] ["_law_row", "_law_many"] (defScope x__law_taken) := ⟨rfl, rfl, rfl, by decide +kernel, rfl, by decide +kernel, by decide +kernel⟩
theorem cl__law_taken {P : Program} {w : World} {K : PySem.W.Frag} {mg : Str → Option Value} {base : Heap} (T : Txt K mg)  : Cl P w K mg base 1 "_law_taken" (s__law_taken K) := by
  obtain ⟨fd, F⟩ := T.d__law_taken
  refine cl_of F T.g__law_taken sc__law_taken (fun ws Ps Po h => ?len) (fun _ _ _ _ _ _ us hl => match us, hl with | [_, _], _ => rfl) (fun cdv A outer sh H E hr => ⟨_, _,
      (pss_cons (ps_if (pt_cmpR op_gt (pe_ix ix_seq (pv 0) pe_int (fun _ _ => rfl)) pe_int (nomark _))
      (pss_cons (ps_set (i := 3) sc__law_taken.nd rfl (by first | exact Or.inl rfl | exact Or.inr rfl) (pe_op op_mod (pe_callTy call_intQ (by rfl) T.f_int (by decide +kernel) (pa_cons (pe_ix ix_seq (pv 0) pe_int (fun _ _ => rfl)) pa_nil)) (pv 1)))
      (pss_cons (ps_asg (pe_op op_fdiv (pe_ix ix_seq (pv 0) pe_int (fun _ _ => rfl)) (pv 1)) (pg_sub (pv 0) pe_int set_list))
      (pss_one (ps_ret (pv 3)))))
      pss_nil)
      (pss_cons (ps_asg (pe_op op_add (pe_ix ix_seq (pv 0) pe_int (fun _ _ => rfl)) pe_int) (pg_sub (pv 0) pe_int set_list))
      (pss_cons (ps_if (pt_cmpR op_gt (pe_ix ix_seq (pv 0) pe_int (fun _ _ => rfl)) (pe_callB call_lenQ (by rfl) T.f_len boot_len (pa_cons (pe_ix ix_seq (pv 0) pe_int (fun _ _ => rfl)) pa_nil)) (nomark _))
      (pss_cons (ps_asg (pe_op op_mod (pe_op op_add (pe_op op_mul (pe_ix ix_seq (pv 0) pe_int (fun _ _ => rfl)) pe_int) pe_int) pe_int) (pg_sub (pv 0) pe_int set_list))
      (pss_one (ps_ret (pe_op op_mod (pe_op op_fdiv (pe_ix ix_seq (pv 0) pe_int (fun _ _ => rfl)) pe_int) (pv 1)))))
      pss_nil)
      (pss_cons (ps_set (i := 2) sc__law_taken.nd rfl (by first | exact Or.inl rfl | exact Or.inr rfl) (pe_ix ix_seq (pe_ix ix_seq (pv 0) pe_int (fun _ _ => rfl)) (pe_op op_sub (pe_ix ix_seq (pv 0) pe_int (fun _ _ => rfl)) pe_int) (fun _ _ => rfl)))
      (pss_cons (ps_asg (pe_op op_mod (pe_op op_add (pe_op op_add (pe_op op_mul (pe_ix ix_seq (pv 0) pe_int (fun _ _ => rfl)) pe_int) (pv 2)) pe_int) pe_int) (pg_sub (pv 0) pe_int set_list))
      (pss_cons (ps_if (pt_cmpR op_ge (pv 2) (pe_op op_pow pe_int pe_int) (nomark _))
      (pss_one (ps_asg (pe_op op_fdiv (pv 2) (pv 1)) (pg_sub (pv 0) pe_int set_list)))
      pss_nil)
      (pss_one (ps_ret (pe_op op_mod (pe_callTy call_intQ (by rfl) T.f_int (by decide +kernel) (pa_cons (pv 2) pa_nil)) (pv 1)))))))))),
      (ds_seq (ds_if (dt_test (de_op rd_gt (de_op rd_ix (de_var 0) (de_int 3)) (de_int 0)))
      (ds_seq (ds_asg (de_op rd_mod (de_cb rd_int (da_cons (de_op rd_ix (de_var 0) (de_int 3)) da_nil)) (de_var 1)) (dg_name 3))
      (ds_seq (ds_asg (de_op rd_fdiv (de_op rd_ix (de_var 0) (de_int 3)) (de_var 1)) (dg_sub (de_var 0) (de_int 3)))
      (ds_ret (de_var 3))))
      ds_next)
      (ds_seq (ds_asg (de_op rd_add (de_op rd_ix (de_var 0) (de_int 1)) (de_int 1)) (dg_sub (de_var 0) (de_int 1)))
      (ds_seq (ds_if (dt_test (de_op rd_gt (de_op rd_ix (de_var 0) (de_int 1)) (de_cb rd_len (da_cons (de_op rd_ix (de_var 0) (de_int 0)) da_nil))))
      (ds_seq (ds_asg (de_op rd_mod (de_op rd_add (de_op rd_mul (de_op rd_ix (de_var 0) (de_int 2)) (de_int 48271)) (de_int 11)) (de_int 2147483647)) (dg_sub (de_var 0) (de_int 2)))
      (ds_ret (de_op rd_mod (de_op rd_fdiv (de_op rd_ix (de_var 0) (de_int 2)) (de_int 7)) (de_var 1))))
      ds_next)
      (ds_seq (ds_asg (de_op rd_ix (de_op rd_ix (de_var 0) (de_int 0)) (de_op rd_sub (de_op rd_ix (de_var 0) (de_int 1)) (de_int 1))) (dg_name 2))
      (ds_seq (ds_asg (de_op rd_mod (de_op rd_add (de_op rd_add (de_op rd_mul (de_op rd_ix (de_var 0) (de_int 2)) (de_int 48271)) (de_var 2)) (de_int 11)) (de_int 2147483647)) (dg_sub (de_var 0) (de_int 2)))
      (ds_seq (ds_if (dt_test (de_op rd_ge (de_var 2) (de_op rd_pow (de_int 10) (de_int 18))))
      (ds_asg (de_op rd_fdiv (de_var 2) (de_var 1)) (dg_sub (de_var 0) (de_int 3)))
      ds_next)
      (ds_ret (de_op rd_mod (de_cb rd_int (da_cons (de_var 2) da_nil)) (de_var 1))))))))), fun ws Ps Po h => ?body⟩)
  case len =>
    unfold s__law_taken at h
    split at h
    · rfl
    · exact h.elim
  case body =>
    unfold s__law_taken at h
    split at h
    rotate_left
    · exact h.elim
    rename_i a m
    obtain ⟨ns, ⟨p, s, q, ha, hp, hs0, hs1⟩, hm0, hm1, h⟩ := h
    unfold rowO at ha
    have lm : ∀ P2 w, P2 a = some (.lst w) → lstM P2 (.r a) = some (a, w) := fun P2 w e => lstM_at e
    have fin : ∀ (P2 : Pst) (v p' s' q' : Int), P2 = updP Ps a (rowO ns p' s' q') → 0 ≤ v → v < m → 0 ≤ p' → 0 ≤ s' → s' < 2147483647 → finP Po (.int v) P2 := by
      rintro P2 v p' s' q' rfl h1 h2 h3 h4 h5
      exact fin_here (h v _ h1 h2 ⟨⟨_, rfl⟩, p', s', q', updP_same, h3, h4, h5⟩)
    walk_at "s"
    refine st_opt (e_ixL (seqP_at ha) rfl) ?_
    walk_at "s"
    by_cases hq : 0 < q
    · refine iteY (decide_eq_true hq) ?_
      walk_at "s"
      refine st_opt (e_ixL (seqP_at ha) rfl) ?_
      walk_at "s"
      refine st_opt (e_mod hm0) ?_
      walk_at "s"
      refine st_opt (e_ixL (seqP_at ha) rfl) ?_
      walk_at "s"
      refine st_opt (e_div hm0 (by omega)) ?_
      walk_at "s"
      refine st_opt (lm _ _ ha) ?_
      walk_at "s"
      exact fin _ _ p s (q / m) rfl (Int.emod_nonneg _ (by omega)) (Int.emod_lt_of_pos _ hm0) hp hs0 hs1
    · refine iteN (decide_eq_false hq) ?_
      walk_at "s"
      refine st_opt (e_ixL (seqP_at ha) rfl) ?_
      walk_at "s"
      refine st_opt (lm _ _ ha) ?_
      walk_at "s"
      have hA : updP Ps a (.lst [.scr ns, .int (p + 1), .int s, .int q]) a = some (.lst [.scr ns, .int (p + 1), .int s, .int q]) := updP_same
      refine st_opt (e_ixL (seqP_at hA) rfl) ?_
      walk_at "s"
      refine st_opt (e_ixL (seqP_at hA) rfl) ?_
      walk_at "s"
      have hB : ∀ s', updP (updP Ps a (.lst [.scr ns, .int (p + 1), .int s, .int q])) a (.lst [.scr ns, .int (p + 1), .int s', .int q]) a = some (.lst [.scr ns, .int (p + 1), .int s', .int q]) := fun _ => updP_same
      have hC : CMul s 48271 := .inr ⟨by decide, by decide⟩
      by_cases hpl : ((ns.map Wv.int).length : Int) < p + 1
      · refine iteY (decide_eq_true hpl) ?_
        walk_at "s"
        refine st_opt (e_ixL (seqP_at hA) rfl) ?_
        walk_at "s"
        refine st_opt (e_mul hC) ?_
        walk_at "s"
        try refine st_opt (e_mod (by decide)) ?_
        walk_at "s"
        refine st_opt (lm _ _ hA) ?_
        walk_at "s"
        refine st_opt (e_ixL (seqP_at (hB _)) rfl) ?_
        walk_at "s"
        try refine st_opt (e_div (by decide) (by decide)) ?_
        walk_at "s"
        refine st_opt (e_mod hm0) ?_
        refine fin _ _ (p + 1) ((s * 48271 + 11) % 2147483647) q ?_ (Int.emod_nonneg _ (by omega)) (Int.emod_lt_of_pos _ hm0) (by omega) (Int.emod_nonneg _ (by decide)) (Int.emod_lt_of_pos _ (by decide))
        exact updP_updP
      · refine iteN (decide_eq_false hpl) ?_
        walk_at "s"
        refine st_opt (e_ixL (seqP_at hA) rfl) ?_
        walk_at "s"
        refine st_opt (e_ixL (seqP_at hA) rfl) ?_
        walk_at "s"
        have hidx : p.toNat < (ns.map Wv.int).length := by omega
        rw [List.length_map] at hidx
        have hcell : atI (ns.map Wv.int) (p + 1 - 1) = some (.int ns[p.toNat]) := by
          rw [show p + 1 - 1 = ((p.toNat : Nat) : Int) by omega, atI_natL, List.getElem?_map, List.getElem?_eq_getElem hidx]
          rfl
        refine st_opt (e_ixL rfl hcell) ?_
        generalize ns[p.toNat] = c
        walk_at "s"
        refine st_opt (e_ixL (seqP_at hA) rfl) ?_
        walk_at "s"
        refine st_opt (e_mul hC) ?_
        walk_at "s"
        try refine st_opt (e_mod (by decide)) ?_
        walk_at "s"
        refine st_opt (lm _ _ hA) ?_
        walk_at "s"
        by_cases hc : (1000000000000000000 : Int) ≤ c
        · refine iteY (decide_eq_true hc) ?_
          walk_at "s"
          refine st_opt (e_div hm0 (by omega)) ?_
          walk_at "s"
          refine st_opt (lm _ _ (hB _)) ?_
          walk_at "s"
          refine st_opt (e_mod hm0) ?_
          refine fin _ _ (p + 1) ((s * 48271 + c + 11) % 2147483647) (c / m) ?_ (Int.emod_nonneg _ (by omega)) (Int.emod_lt_of_pos _ hm0) (by omega) (Int.emod_nonneg _ (by decide)) (Int.emod_lt_of_pos _ (by decide))
          show updP (updP (updP Ps a _) a _) a _ = _
          rw [updP_updP, updP_updP]
          rfl
        · refine iteN (decide_eq_false hc) ?_
          walk_at "s"
          refine st_opt (e_mod hm0) ?_
          refine fin _ _ (p + 1) ((s * 48271 + c + 11) % 2147483647) q ?_ (Int.emod_nonneg _ (by omega)) (Int.emod_lt_of_pos _ hm0) (by omega) (Int.emod_nonneg _ (by decide)) (Int.emod_lt_of_pos _ (by decide))
          exact updP_updP
def s__law_signs (_ : PySem.W.Frag) : WSp := fun ws P Po => match ws with
  | [] => Po (.str cAB) P
  | _ => False
theorem sc__law_signs : FnScope [] [] (defScope x__law_signs) := ⟨rfl, rfl, rfl, by decide +kernel, rfl, by decide +kernel, by decide +kernel⟩
theorem cl__law_signs {P : Program} {w : World} {K : PySem.W.Frag} {mg : Str → Option Value} {base : Heap} (T : Txt K mg)  : Cl P w K mg base 1 "_law_signs" (s__law_signs K) := by
  obtain ⟨fd, F⟩ := T.d__law_signs
  refine cl_of F T.g__law_signs sc__law_signs (fun ws Ps Po h => ?len) (fun _ _ _ _ _ _ us hl => match us, hl with | [], _ => rfl) (fun cdv A outer sh H E hr => ⟨_, _,
      (pss_one (ps_ret pe_str)),
      (ds_ret (de_str k2)), fun ws Ps Po h => ?body⟩)
  case len =>
    unfold s__law_signs at h
    split at h
    · rfl
    · exact h.elim
  case body =>
    unfold s__law_signs at h
    split at h
    rotate_left
    · exact h.elim
    walk_at "s"
    exact fin_here h
def LwI (Ps : Pst) (a : Addr) (ns : List Int) (i : Nat) (acc : List Wv) (P : Pst) : Prop := RowP Ps P a ns ∧ ∃ l : List Nat, acc = l.map (fun c => .str [c]) ∧ l.length = i ∧ i ≤ 30 ∧ ∀ c ∈ l, c ∈ cAB
def s__law_word (_ : PySem.W.Frag) : WSp := fun ws P Po => match ws with
  | [.r a, .int m] => ∃ ns, ∃ n : Nat, m = (n : Int) ∧ RowAt P a ns ∧ n ≤ 20 ∧ ∀ l P', WdL n l → RowP P P' a ns → Po (.str l) P'
  | _ => False
theorem sc__law_word : FnScope ["_law_row", "_law_most", "_law_some", "_law_k"] ["_law_row", "_law_most"] (defScope x__law_word) := ⟨rfl, rfl, rfl, by decide +kernel, rfl, by decide +kernel, by decide +kernel⟩
theorem cl__law_word {P : Program} {w : World} {K : PySem.W.Frag} {mg : Str → Option Value} {base : Heap} (T : Txt K mg) (G__law_signs : Cl P w K mg base 1 "_law_signs" (s__law_signs K)) (G__law_taken : Cl P w K mg base 1 "_law_taken" (s__law_taken K)) : Cl P w K mg base 2 "_law_word" (s__law_word K) := by
  obtain ⟨fd, F⟩ := T.d__law_word
  refine cl_of F T.g__law_word sc__law_word (fun ws Ps Po h => ?len) (fun _ _ _ _ _ _ us hl => match us, hl with | [_, _], _ => rfl) (fun cdv A outer sh H E hr => ⟨_, _,
      (pss_cons (ps_set (i := 2) sc__law_word.nd rfl (by first | exact Or.inl rfl | exact Or.inr rfl) (pe_ix ix_seq (pe_lst (pa_cons pe_str (pa_cons pe_str (pa_cons pe_str (pa_cons pe_str (pa_cons (pe_cl0 G__law_signs hr (by decide) (by rfl)) pa_nil)))))) (pe_cl G__law_taken hr (by decide) (by rfl) (pa_cons (pv 0) (pa_cons pe_int pa_nil))) (fun _ _ => rfl)))
      (pss_one (ps_ret (pe_join pe_str (pe_lc (own := [("_law_k", 3)]) rfl sc__law_word.nd (pi_range1 (by rfl) T.f_range (pa_cons (pe_cl G__law_taken hr (by decide) (by rfl) (pa_cons (pv 0) (pa_cons (pe_op op_add (pv 1) pe_int) pa_nil))) pa_nil)) (blkOk_by (own := [("_law_k", 3)]) (N := ["_law_row", "_law_most", "_law_some", "_law_k"]) (sc := defScope x__law_word) (by decide +kernel)) (fun _ _ _ _ _ => (pg_name (i := 3) sc__law_word.nd rfl (by first | exact Or.inl rfl | exact Or.inr rfl))) (fun _ _ _ _ _ => pts_nil) (fun _ _ _ _ _ => (pe_ix ix_seq (pv 2) (pe_cl G__law_taken hr (by decide) (by rfl) (pa_cons (pv 0) (pa_cons (pe_callB call_lenQ (by rfl) T.f_len boot_len (pa_cons (pv 2) pa_nil)) pa_nil))) (fun _ _ => rfl)))))))),
      (ds_seq (ds_asg (de_op rd_ix (de_lst (da_cons (de_str k19) (da_cons (de_str k20) (da_cons (de_str k21) (da_cons (de_str k22) (da_cons (de_call da_nil) da_nil)))))) (de_call (da_cons (de_var 0) (da_cons (de_int 5) da_nil)))) (dg_name 2))
      (ds_ret (de_m1 rd_join (de_str k14) (de_lc (di_rng1 (da_cons (de_call (da_cons (de_var 0) (da_cons (de_op rd_add (de_var 1) (de_int 1)) da_nil))) da_nil)) (dg_name 3) dt_yes (de_op rd_ix (de_var 2) (de_call (da_cons (de_var 0) (da_cons (de_cb rd_len (da_cons (de_var 2) da_nil)) da_nil)))) (by decide))))), fun ws Ps Po h => ?body⟩)
  case len =>
    unfold s__law_word at h
    split at h
    · rfl
    · exact h.elim
  case body =>
    unfold s__law_word at h
    split at h
    rotate_left
    · exact h.elim
    obtain ⟨ns, n, rfl, hr, hn, h⟩ := h
    rename_i a
    walk_at "s"
    refine ⟨ns, hr, by decide, by decide, fun v P1 hv0 hv1 r1 => ?_⟩
    have hsome : ∃ L : List Nat, L ≠ [] ∧ L.length ≤ 100 ∧ (∀ c ∈ L, c ∈ cAB) ∧ atI [Wv.str [97, 98], .str [32, 39, 34, 92], .str [97, 32, 39, 34, 92, 98], .str [45, 61, 97], .str cAB] v = some (.str L) := by
      have : v = 0 ∨ v = 1 ∨ v = 2 ∨ v = 3 ∨ v = 4 := by omega
      rcases this with rfl | rfl | rfl | rfl | rfl
      · exact ⟨_, by simp, by simp, by decide, rfl⟩
      · exact ⟨_, by simp, by simp, by decide, rfl⟩
      · exact ⟨_, by simp, by simp, by decide, rfl⟩
      · exact ⟨_, by simp, by simp, by decide, rfl⟩
      · exact ⟨_, by decide, by decide, fun c h => h, rfl⟩
    obtain ⟨L, hL0, hL1, hL2, hat⟩ := hsome
    refine st_opt (e_ixL rfl hat) ?_
    walk_at "s"
    refine ⟨ns, r1.row, by omega, by omega, fun k P2 hk0 hk1 r2 => ?_⟩
    refine ⟨by omega, by omega, ?_⟩
    have r12 := r1.trans r2
    refine lc_I (LwI Ps a ns) ⟨r12, [], rfl, rfl, by omega, by simp⟩ ?_ ?_ ?_
    · rintro i acc P3 ⟨_, l, rfl, hl, h30, _⟩
      refine ⟨trivial, ?_⟩
      rw [List.length_map]
      omega
    · rintro i w acc P3 hw ⟨r3, l, rfl, hl, h30, hc⟩
      obtain ⟨hi, rfl⟩ := rngW_inv hw
      walk_at "s"
      have hLp := List.length_pos_iff.mpr hL0
      refine ⟨ns, r3.row, by omega, by omega, fun j P4 hj0 hj1 r4 => ?_⟩
      have hidx : j.toNat < L.length := by omega
      refine st_opt (e_ixS (by omega) (c := L[j.toNat]) ?_) ?_
      · have e := (atI_natL L j.toNat).trans (List.getElem?_eq_getElem hidx)
        rw [Int.toNat_of_nonneg hj0] at e
        exact e
      · refine ⟨r3.trans r4, l ++ [L[j.toNat]], by rw [List.map_append]; rfl, by rw [List.length_append, hl]; rfl, by omega, ?_⟩
        intro c hcm
        rcases List.mem_append.mp hcm with e | e
        · exact hc c e
        · rw [List.mem_singleton.mp e]
          exact hL2 _ (List.getElem_mem hidx)
    · rintro acc P3 ⟨r3, l, rfl, hl, h30, hc⟩
      rw [rngW_len] at hl
      have e : l.map (fun c => Wv.str [c]) = (l.map fun c => [c]).map Wv.str := by rw [List.map_map]; rfl
      have e2 : (l.map fun c => [c]).flatten = l := by
        clear hl hc e
        induction l with
        | nil => rfl
        | cons c r ih => rw [List.map_cons, List.flatten_cons, ih]; rfl
      rw [e]
      refine st_opt (e_join0 rfl (by rw [e2]; omega)) ?_
      rw [e2]
      exact fin_here (h l P3 ⟨by omega, hc⟩ r3)
end Fc
namespace Fc
open PySem PySem.Spec PyProof.Rows L2
local macro_rules | `(tactic| walk_at "s") => `(tactic| repeat (first
  | refine st_opt rfl ?_
  | refine st_opt (e_len (by first | assumption | omega)) ?_
  | refine st_opt (e_addS (by first | decide | omega | (simp; done) | (simp; omega))) ?_
  | refine st_opt (fldW_at (by first | assumption | exact updP_same) rfl) ?_
  | refine st_opt (insOf_at (by first | assumption | exact updP_same)) ?_
  | refine st_ble rfl ?_
  | refine st_blt rfl ?_
  | refine st_eqr ?_))
def s__law_kind (_ : PySem.W.Frag) : WSp := fun ws P Po => match ws with
  | [.r a] => ∃ ns, RowAt P a ns ∧ ∀ k P', KdOk k → KdL k → RowP P P' a ns → Po k.w P'
  | _ => False
theorem sc__law_kind : FnScope ["_law_row", "_law_way", "_law_some", "_law_start", "_law_low"] ["_law_row"] (defScope x__law_kind) := ⟨rfl, rfl, rfl, by decide +kernel, rfl, by decide +kernel, by decide +kernel⟩
theorem cl__law_kind {P : Program} {w : World} {K : PySem.W.Frag} {mg : Str → Option Value} {base : Heap} (T : Txt K mg) (G__law_taken : Cl P w K mg base 1 "_law_taken" (s__law_taken K)) : Cl P w K mg base 2 "_law_kind" (s__law_kind K) := by
  obtain ⟨fd, F⟩ := T.d__law_kind
  refine cl_of F T.g__law_kind sc__law_kind (fun ws Ps Po h => ?len) (fun _ _ _ _ _ _ us hl => match us, hl with | [_], _ => rfl) (fun cdv A outer sh H E hr => ⟨_, _,
      (pss_cons (ps_set (i := 1) sc__law_kind.nd rfl (by first | exact Or.inl rfl | exact Or.inr rfl) (pe_cl G__law_taken hr (by decide) (by rfl) (pa_cons (pv 0) (pa_cons pe_int pa_nil))))
      (pss_cons (ps_if (pt_cmpR op_lt (pv 1) pe_int (nomark _))
      (pss_one (ps_ret pe_non))
      pss_nil)
      (pss_cons (ps_if (pt_cmpR op_eq (pv 1) pe_int (nomark _))
      (pss_cons (ps_set (i := 4) sc__law_kind.nd rfl (by first | exact Or.inl rfl | exact Or.inr rfl) (pe_op op_sub (pe_cl G__law_taken hr (by decide) (by rfl) (pa_cons (pv 0) (pa_cons pe_int pa_nil))) pe_int))
      (pss_one (ps_ret (pe_tup (pa_cons pe_str (pa_cons (pv 4) (pa_cons (pe_op op_add (pv 4) (pe_cl G__law_taken hr (by decide) (by rfl) (pa_cons (pv 0) (pa_cons pe_int pa_nil)))) pa_nil)))))))
      pss_nil)
      (pss_cons (ps_if (pt_cmpR op_eq (pv 1) pe_int (nomark _))
      (pss_one (ps_ret (pe_tup (pa_cons pe_str pa_nil))))
      pss_nil)
      (pss_cons (ps_set (i := 2) sc__law_kind.nd rfl (by first | exact Or.inl rfl | exact Or.inr rfl) (pe_lst (pa_cons pe_str (pa_cons pe_str (pa_cons pe_str (pa_cons pe_str (pa_cons pe_str (pa_cons pe_str (pa_cons pe_str pa_nil)))))))))
      (pss_cons (ps_set (i := 3) sc__law_kind.nd rfl (by first | exact Or.inl rfl | exact Or.inr rfl) (pe_cl G__law_taken hr (by decide) (by rfl) (pa_cons (pv 0) (pa_cons pe_int pa_nil))))
      (pss_one (ps_ret (pe_tup (pa_cons pe_str (pa_cons (pe_callTy call_tupQ (by rfl) T.f_tuple (by decide +kernel) (pa_cons (pe_slice sl_list (pv 2) (po_some (pv 3)) (po_some (pe_op op_add (pe_op op_add (pv 3) pe_int) (pe_cl G__law_taken hr (by decide) (by rfl) (pa_cons (pv 0) (pa_cons pe_int pa_nil)))))) pa_nil)) pa_nil))))))))))),
      (ds_seq (ds_asg (de_call (da_cons (de_var 0) (da_cons (de_int 5) da_nil))) (dg_name 1))
      (ds_seq (ds_if (dt_test (de_op rd_lt (de_var 1) (de_int 2)))
      (ds_ret de_non)
      ds_next)
      (ds_seq (ds_if (dt_test (de_op rd_eq (de_var 1) (de_int 2)))
      (ds_seq (ds_asg (de_op rd_sub (de_call (da_cons (de_var 0) (da_cons (de_int 30) da_nil))) (de_int 15)) (dg_name 4))
      (ds_ret (de_tup (da_cons (de_str k10) (da_cons (de_var 4) (da_cons (de_op rd_add (de_var 4) (de_call (da_cons (de_var 0) (da_cons (de_int 40) da_nil)))) da_nil))))))
      ds_next)
      (ds_seq (ds_if (dt_test (de_op rd_eq (de_var 1) (de_int 4)))
      (ds_ret (de_tup (da_cons (de_str k12) da_nil)))
      ds_next)
      (ds_seq (ds_asg (de_lst (da_cons (de_str k23) (da_cons (de_str k24) (da_cons (de_str k25) (da_cons (de_str k26) (da_cons (de_str k27) (da_cons (de_str k28) (da_cons (de_str k29) da_nil)))))))) (dg_name 2))
      (ds_seq (ds_asg (de_call (da_cons (de_var 0) (da_cons (de_int 6) da_nil))) (dg_name 3))
      (ds_ret (de_tup (da_cons (de_str k11) (da_cons (de_cb rd_tup (da_cons (de_sl rd_slL (de_var 2) (do_some (de_var 3)) (do_some (de_op rd_add (de_op rd_add (de_var 3) (de_int 1)) (de_call (da_cons (de_var 0) (da_cons (de_int 4) da_nil)))))) da_nil)) da_nil)))))))))), fun ws Ps Po h => ?body⟩)
  case len =>
    unfold s__law_kind at h
    split at h
    · rfl
    · exact h.elim
  case body =>
    unfold s__law_kind at h
    split at h
    rotate_left
    · exact h.elim
    rename_i a
    obtain ⟨ns, hr, h⟩ := h
    walk_at "s"
    refine ⟨ns, hr, by decide, by decide, fun v P1 hv0 hv1 r1 => ?_⟩
    walk_at "s"
    by_cases h2 : v < 2
    · refine iteY (decide_eq_true h2) ?_
      walk_at "s"
      exact fin_here (h .non P1 trivial trivial r1)
    · refine iteN (decide_eq_false h2) ?_
      walk_at "s"
      by_cases h3 : v = 2
      · refine iteY (decide_eq_true h3) ?_
        walk_at "s"
        refine ⟨ns, r1.row, by decide, by decide, fun l P2 hl0 hl1 r2 => ?_⟩
        walk_at "s"
        refine ⟨ns, r2.row, by decide, by decide, fun d P3 hd0 hd1 r3 => ?_⟩
        walk_at "s"
        exact fin_here (h (.int (l - 15) (l - 15 + d)) P3 ⟨by omega, by omega, by omega⟩ ⟨by omega, by omega, by omega⟩ ((r1.trans r2).trans r3))
      · refine iteN (decide_eq_false h3) ?_
        walk_at "s"
        by_cases h4 : v = 4
        · refine iteY (decide_eq_true h4) ?_
          walk_at "s"
          exact fin_here (h .word P1 trivial trivial r1)
        · refine iteN (decide_eq_false h4) ?_
          walk_at "s"
          refine ⟨ns, r1.row, by decide, by decide, fun l P2 hl0 hl1 r2 => ?_⟩
          walk_at "s"
          refine ⟨ns, r2.row, by decide, by decide, fun d P3 hd0 hd1 r3 => ?_⟩
          walk_at "s"
          have e : cutW (W7.map Wv.str) (some l) (some (l + 1 + d)) = (((W7.drop l.toNat).take (1 + d.toNat))).map Wv.str := by
            have e1 := cutW_mid (W7.map Wv.str) l.toNat (l + 1 + d).toNat
            rw [Int.toNat_of_nonneg hl0, Int.toNat_of_nonneg (by omega)] at e1
            rw [e1, ← List.map_drop, ← List.map_take, show (l + 1 + d).toNat - l.toNat = 1 + d.toNat by omega]
          have sub : ((W7.drop l.toNat).take (1 + d.toNat)).Sublist W7 := (List.take_sublist _ _).trans (List.drop_sublist _ _)
          have hlen : ((W7.drop l.toNat).take (1 + d.toNat)).length = min (1 + d.toNat) (7 - l.toNat) := by
            rw [List.length_take, List.length_drop]
            rfl
          refine fin_here ?_
          have hh := h (.ch ((W7.drop l.toNat).take (1 + d.toNat))) P3 ⟨by omega, by omega, sub.nodup W7_nd, fun x hx => ?_⟩ (fun x hx => ?_) ((r1.trans r2).trans r3)
          · show Po (.tup [.str tCh, .tup (cutW (W7.map Wv.str) (some l) (some (l + 1 + d)))]) P3
            rw [e]
            exact hh
          · obtain ⟨q1, q2, q3⟩ := W7_ok x (sub.mem hx)
            exact ⟨q1, by omega, q3⟩
          · exact (W7_ok x (sub.mem hx)).2.1
def s__law_drawn_value (_ : PySem.W.Frag) : WSp := fun ws P Po => match ws with
  | [.r a, w] => ∃ ns k, w = Kd.w k ∧ RowAt P a ns ∧ KdOk k ∧ KdL k ∧ ∀ v P', VL k v → RowP P P' a ns → Po v P'
  | _ => False
theorem sc__law_drawn_value : FnScope ["_law_row", "_law_kind_here"] ["_law_row", "_law_kind_here"] (defScope x__law_drawn_value) := ⟨rfl, rfl, rfl, by decide +kernel, rfl, by decide +kernel, by decide +kernel⟩
theorem cl__law_drawn_value {P : Program} {w : World} {K : PySem.W.Frag} {mg : Str → Option Value} {base : Heap} (T : Txt K mg) (G__law_taken : Cl P w K mg base 1 "_law_taken" (s__law_taken K)) (G__law_word : Cl P w K mg base 2 "_law_word" (s__law_word K)) : Cl P w K mg base 3 "_law_drawn_value" (s__law_drawn_value K) := by
  obtain ⟨fd, F⟩ := T.d__law_drawn_value
  refine cl_of F T.g__law_drawn_value sc__law_drawn_value (fun ws Ps Po h => ?len) (fun _ _ _ _ _ _ us hl => match us, hl with | [_, _], _ => rfl) (fun cdv A outer sh H E hr => ⟨_, _,
      (pss_cons (ps_if (pt_cmpR op_isN1 (pv 1) pe_non (nomark _))
      (pss_one (ps_ret pe_bl))
      pss_nil)
      (pss_cons (ps_if (pt_cmpR op_eq (pe_ix ix_seq (pv 1) pe_int (fun _ _ => rfl)) pe_str (nomark _))
      (pss_one (ps_ret (pe_op op_add (pe_ix ix_seq (pv 1) pe_int (fun _ _ => rfl)) (pe_cl G__law_taken hr (by decide) (by rfl) (pa_cons (pv 0) (pa_cons (pe_op op_add (pe_op op_sub (pe_ix ix_seq (pv 1) pe_int (fun _ _ => rfl)) (pe_ix ix_seq (pv 1) pe_int (fun _ _ => rfl))) pe_int) pa_nil))))))
      pss_nil)
      (pss_one (ps_ret (pe_ifExp (pt_cmpR op_eq (pe_ix ix_seq (pv 1) pe_int (fun _ _ => rfl)) pe_str (nomark _)) (pe_ix ix_seq (pe_ix ix_seq (pv 1) pe_int (fun _ _ => rfl)) (pe_cl G__law_taken hr (by decide) (by rfl) (pa_cons (pv 0) (pa_cons (pe_callB call_lenQ (by rfl) T.f_len boot_len (pa_cons (pe_ix ix_seq (pv 1) pe_int (fun _ _ => rfl)) pa_nil)) pa_nil))) (fun _ _ => rfl)) (pe_cl G__law_word hr (by decide) (by rfl) (pa_cons (pv 0) (pa_cons pe_int pa_nil)))))))),
      (ds_seq (ds_if (dt_test (de_op rd_isN (de_var 1) de_non))
      (ds_ret (de_bl true))
      ds_next)
      (ds_seq (ds_if (dt_test (de_op rd_eq (de_op rd_ix (de_var 1) (de_int 0)) (de_str k10)))
      (ds_ret (de_op rd_add (de_op rd_ix (de_var 1) (de_int 1)) (de_call (da_cons (de_var 0) (da_cons (de_op rd_add (de_op rd_sub (de_op rd_ix (de_var 1) (de_int 2)) (de_op rd_ix (de_var 1) (de_int 1))) (de_int 1)) da_nil)))))
      ds_next)
      (ds_ret (de_if (dt_test (de_op rd_eq (de_op rd_ix (de_var 1) (de_int 0)) (de_str k11))) (de_op rd_ix (de_op rd_ix (de_var 1) (de_int 1)) (de_call (da_cons (de_var 0) (da_cons (de_cb rd_len (da_cons (de_op rd_ix (de_var 1) (de_int 1)) da_nil)) da_nil)))) (de_call (da_cons (de_var 0) (da_cons (de_int 4) da_nil))))))), fun ws Ps Po h => ?body⟩)
  case len =>
    unfold s__law_drawn_value at h
    split at h
    · rfl
    · exact h.elim
  case body =>
    unfold s__law_drawn_value at h
    split at h
    rotate_left
    · exact h.elim
    rename_i a w
    obtain ⟨ns, k, rfl, hr, hk, hkl, h⟩ := h
    cases k with
    | non =>
      walk_at "s"
      exact fin_here (h _ Ps rfl (RowP.refl hr))
    | int lo hi =>
      obtain ⟨q1, q2, q3⟩ := hkl
      walk_at "s"
      refine ⟨ns, hr, by omega, by omega, fun d P1 hd0 hd1 r1 => ?_⟩
      walk_at "s"
      exact fin_here (h _ P1 ⟨lo + d, rfl, by omega, by omega⟩ r1)
    | word =>
      walk_at "s"
      exact ⟨ns, 4, rfl, hr, by decide, fun l P1 hl r1 => fin_here (h _ P1 ⟨l, rfl, hl⟩ r1)⟩
    | ch ws =>
      obtain ⟨k1, k2, k3, k4⟩ := hk
      walk_at "s"
      refine ⟨ns, hr, by rw [List.length_map]; omega, by rw [List.length_map]; omega, fun d P1 hd0 hd1 r1 => ?_⟩
      rw [List.length_map] at hd1
      have hidx : d.toNat < ws.length := by omega
      have hat : atI (ws.map Wv.str) d = some (.str ws[d.toNat]) := by
        have e := (atI_natL (ws.map Wv.str) d.toNat)
        rw [Int.toNat_of_nonneg hd0] at e
        rw [e, List.getElem?_map, List.getElem?_eq_getElem hidx]
        rfl
      refine st_opt (e_ixL rfl hat) ?_
      exact fin_here (h _ P1 ⟨_, rfl, List.getElem_mem hidx⟩ r1)
end Fc
namespace Fc
open PySem PySem.Spec PyProof.Rows L2
local macro_rules | `(tactic| walk_at "s") => `(tactic| repeat (first
  | refine st_opt rfl ?_
  | refine st_opt (e_len (by first | assumption | omega)) ?_
  | refine st_opt (e_addS (by first | decide | omega | (simp; done) | (simp; omega))) ?_
  | refine st_opt (fldW_at (by first | assumption | exact updP_same) rfl) ?_
  | refine st_opt (insOf_at (by first | assumption | exact updP_same)) ?_
  | refine st_ble rfl ?_
  | refine st_blt rfl ?_
  | refine st_eqr ?_))
def s__law_grammar (_ : PySem.W.Frag) : WSp := fun ws P Po => match ws with
  | [.r a, .int m] => ∃ ns, m = 6 ∧ RowAt P a ns ∧ ∀ os lo hi cl P', LG os lo hi → RowP P P' a ns → Po (.tup [optsW os, .tup [.int lo, .int hi], cl]) P'
  | _ => False
def GrI (Ps : Pst) (a : Addr) (ns : List Int) (ch : List (List Nat)) (cnt : Int) (w2 w3 w6 : Wv) (i : Nat) (G : Env) (P : Pst) : Prop := ∃ (q : Addr) (os : List Op) (y8 y9 y10 y11 y12 y13 y14 y15 : Option Wv), G = [some (.r a), some (.int 6), some w2, some w3, some (.int cnt), some (.lst (ch.map .str)), some w6, some (.r q), y8, y9, y10, y11, y12, y13, y14, y15] ∧ SubP (delP Ps a) P ∧ RowAt P a ns ∧ q ≠ a ∧ Ps q = none ∧ P q = some (.lst (os.map Op.w)) ∧
  os.map (·.nm) = ch.take i ∧ (∀ o ∈ os, OpOk o ∧ KdL o.kd ∧ o.nm.length ≤ 5) ∧ ((os.map (·.lt)).filter fun l => decide (l ≠ [])).Nodup
def ClI (Ps : Pst) (a : Addr) (ns : List Int) (ch : List (List Nat)) (cnt lo : Int) (os : List Op) (w2 w3 w6 : Wv) (i : Nat) (G : Env) (P : Pst) : Prop := ∃ (q q2 : Addr) (cl : List Wv) (y8 y11 y12 y13 y14 y15 : Option Wv), G = [some (.r a), some (.int 6), some w2, some w3, some (.int cnt), some (.lst (ch.map .str)), some w6, some (.r q), y8, some (.int lo), some (.r q2), y11, y12, y13, y14, y15] ∧ SubP (delP Ps a) P ∧ RowAt P a ns ∧ q ≠ a ∧ q2 ≠ a ∧ q2 ≠ q ∧ Ps q = none ∧ Ps q2 = none ∧ P q = some (.lst (os.map Op.w)) ∧ P q2 = some (.lst cl) ∧ cl.length ≤ i ∧ i ≤ 10
theorem sc__law_grammar : FnScope ["_law_row", "_law_most", "_law_names", "_law_start", "_law_count", "_law_chosen", "_law_letters", "_law_options", "_law_name", "_law_low", "_law_clauses", "_law_k", "_law_letter", "_law_taken_letters", "_law_word_here", "_law_option_here"] ["_law_row", "_law_most"] (defScope x__law_grammar) := ⟨rfl, rfl, rfl, by decide +kernel, rfl, by decide +kernel, by decide +kernel⟩
theorem cl__law_grammar {P : Program} {w : World} {K : PySem.W.Frag} {mg : Str → Option Value} {base : Heap} (T : Txt K mg) (G__law_taken : Cl P w K mg base 1 "_law_taken" (s__law_taken K)) (G__law_kind : Cl P w K mg base 2 "_law_kind" (s__law_kind K)) : Cl P w K mg base 3 "_law_grammar" (s__law_grammar K) := by
  obtain ⟨fd, F⟩ := T.d__law_grammar
  refine cl_of F T.g__law_grammar sc__law_grammar (fun ws Ps Po h => ?len) (fun _ _ _ _ _ _ us hl => match us, hl with | [_, _], _ => rfl) (fun cdv A outer sh H E hr => ⟨_, _,
      (pss_cons (ps_set (i := 2) sc__law_grammar.nd rfl (by first | exact Or.inl rfl | exact Or.inr rfl) (pe_lst (pa_cons pe_str (pa_cons pe_str (pa_cons pe_str (pa_cons pe_str (pa_cons pe_str (pa_cons pe_str (pa_cons pe_str (pa_cons pe_str (pa_cons pe_str (pa_cons pe_str (pa_cons pe_str (pa_cons pe_str pa_nil))))))))))))))
      (pss_cons (ps_par (i := 3) (j := 4) rfl sc__law_grammar.nd rfl rfl (by decide) rfl rfl (pa_cons (pe_cl G__law_taken hr (by decide) (by rfl) (pa_cons (pv 0) (pa_cons pe_int pa_nil))) (pa_cons (pe_op op_add pe_int (pe_cl G__law_taken hr (by decide) (by rfl) (pa_cons (pv 0) (pa_cons (pv 1) pa_nil)))) pa_nil)) (by rfl))
      (pss_cons (ps_set (i := 5) sc__law_grammar.nd rfl (by first | exact Or.inl rfl | exact Or.inr rfl) (pe_slice sl_list (pe_op op_cat (pv 2) (pv 2)) (po_some (pv 3)) (po_some (pe_op op_add (pv 3) (pv 4)))))
      (pss_cons (ps_set (i := 6) sc__law_grammar.nd rfl (by first | exact Or.inl rfl | exact Or.inr rfl) (pe_callTy call_listS (by rfl) T.f_list (by decide +kernel) (pa_cons pe_str pa_nil)))
      (pss_cons (ps_set (i := 7) sc__law_grammar.nd rfl (by first | exact Or.inl rfl | exact Or.inr rfl) (pe_lst pa_nil))
      (pss_cons (ps_for PassesOwn.never rfl (pi_list (pv 5)) (pg_name (i := 8) sc__law_grammar.nd rfl (by first | exact Or.inl rfl | exact Or.inr rfl))
      (pss_cons (ps_set (i := 12) sc__law_grammar.nd rfl (by first | exact Or.inl rfl | exact Or.inr rfl) (pe_ix ix_seq (pv 6) (pe_cl G__law_taken hr (by decide) (by rfl) (pa_cons (pv 0) (pa_cons (pe_callB call_lenQ (by rfl) T.f_len boot_len (pa_cons (pv 6) pa_nil)) pa_nil))) (fun _ _ => rfl)))
      (pss_cons (ps_setLc (i := 13) (own := [("_law_option_here", 15)]) rfl sc__law_grammar.nd rfl rfl (sw_true rfl rfl rfl (by decide +kernel)) (pi_list (pv 7)) (blkOk_by (own := [("_law_option_here", 15)]) (N := ["_law_row", "_law_most", "_law_names", "_law_start", "_law_count", "_law_chosen", "_law_letters", "_law_options", "_law_name", "_law_low", "_law_clauses", "_law_k", "_law_letter", "_law_taken_letters", "_law_word_here", "_law_option_here"]) (sc := defScope x__law_grammar) (by decide +kernel)) (fun _ _ _ _ _ => (pg_name (i := 15) sc__law_grammar.nd rfl (by first | exact Or.inl rfl | exact Or.inr rfl))) (fun _ _ _ _ _ => pts_nil) (fun _ _ _ _ _ => (pe_ix ix_seq (pv 15) pe_int (fun _ _ => rfl))))
      (pss_one (ps_expr (pe_bm PySem.F.plainAttrs_list PySem.F.slot_list_append PySem.F.type_list_append mt_append (pv 7) (pa_cons (pe_tup (pa_cons (pv 8) (pa_cons (pe_ifExp (PW.pt (pw_or (pt_cmpR op_in_seq (pv 12) (pv 13) (by first | exact nomark _ | rfl)) (pw_or1 (pt_cmpR op_eq (pe_cl G__law_taken hr (by decide) (by rfl) (pa_cons (pv 0) (pa_cons pe_int pa_nil))) pe_int (nomark _))))) pe_str (pv 12)) (pa_cons (pe_cl G__law_kind hr (by decide) (by rfl) (pa_cons (pv 0) pa_nil)) pa_nil)))) pa_nil)))))))
      (pss_cons (ps_set (i := 9) sc__law_grammar.nd rfl (by first | exact Or.inl rfl | exact Or.inr rfl) (pe_cl G__law_taken hr (by decide) (by rfl) (pa_cons (pv 0) (pa_cons pe_int pa_nil))))
      (pss_cons (ps_set (i := 10) sc__law_grammar.nd rfl (by first | exact Or.inl rfl | exact Or.inr rfl) (pe_lst pa_nil))
      (pss_cons (ps_for PassesOwn.never rfl (pi_range1 (by rfl) T.f_range (pa_cons (pe_cl G__law_taken hr (by decide) (by rfl) (pa_cons (pv 0) (pa_cons pe_int pa_nil))) pa_nil)) (pg_name (i := 11) sc__law_grammar.nd rfl (by first | exact Or.inl rfl | exact Or.inr rfl))
      (pss_cons (ps_set (i := 14) sc__law_grammar.nd rfl (by first | exact Or.inl rfl | exact Or.inr rfl) (pe_ix ix_seq (pe_lst (pa_cons pe_str (pa_cons pe_str (pa_cons pe_str (pa_cons pe_str (pa_cons pe_str pa_nil)))))) (pe_cl G__law_taken hr (by decide) (by rfl) (pa_cons (pv 0) (pa_cons pe_int pa_nil))) (fun _ _ => rfl)))
      (pss_one (ps_expr (pe_bm PySem.F.plainAttrs_list PySem.F.slot_list_append PySem.F.type_list_append mt_append (pv 10) (pa_cons (pe_tup (pa_cons (pv 14) (pa_cons (pe_ix ix_seq (pv 5) (pe_cl G__law_taken hr (by decide) (by rfl) (pa_cons (pv 0) (pa_cons (pv 4) pa_nil))) (fun _ _ => rfl)) (pa_cons (pe_ix ix_seq (pv 5) (pe_cl G__law_taken hr (by decide) (by rfl) (pa_cons (pv 0) (pa_cons (pv 4) pa_nil))) (fun _ _ => rfl)) pa_nil)))) pa_nil))))))
      (pss_one (ps_ret (pe_tup (pa_cons (pe_callTy call_tupQ (by rfl) T.f_tuple (by decide +kernel) (pa_cons (pv 7) pa_nil)) (pa_cons (pe_tup (pa_cons (pv 9) (pa_cons (pe_op op_add (pv 9) (pe_cl G__law_taken hr (by decide) (by rfl) (pa_cons (pv 0) (pa_cons pe_int pa_nil)))) pa_nil))) (pa_cons (pe_callTy call_tupQ (by rfl) T.f_tuple (by decide +kernel) (pa_cons (pv 10) pa_nil)) pa_nil))))))))))))))),
      (ds_seq (ds_asg (de_lst (da_cons (de_str k30) (da_cons (de_str k31) (da_cons (de_str k32) (da_cons (de_str k33) (da_cons (de_str k34) (da_cons (de_str k35) (da_cons (de_str k36) (da_cons (de_str k37) (da_cons (de_str k38) (da_cons (de_str k39) (da_cons (de_str k40) (da_cons (de_str k41) da_nil))))))))))))) (dg_name 2))
      (ds_seq (ds_par (i := 3) (j := 4) (da_cons (de_call (da_cons (de_var 0) (da_cons (de_int 12) da_nil))) (da_cons (de_op rd_add (de_int 1) (de_call (da_cons (de_var 0) (da_cons (de_var 1) da_nil)))) da_nil)))
      (ds_seq (ds_asg (de_sl rd_slL (de_op rd_cat (de_var 2) (de_var 2)) (do_some (de_var 3)) (do_some (de_op rd_add (de_var 3) (de_var 4)))) (dg_name 5))
      (ds_seq (ds_asg (de_cb rd_listS (da_cons (de_str k42) da_nil)) (dg_name 6))
      (ds_seq (ds_asg (de_lstN da_nil) (dg_name 7))
      (ds_seq (ds_for (di_list (de_var 5)) (dg_name 8)
      (ds_seq (ds_asg (de_op rd_ix (de_var 6) (de_call (da_cons (de_var 0) (da_cons (de_cb rd_len (da_cons (de_var 6) da_nil)) da_nil)))) (dg_name 12))
      (ds_seq (ds_asg (de_lc (di_list (de_var 7)) (dg_name 15) dt_yes (de_op rd_ix (de_var 15) (de_int 1)) (by decide)) (dg_name 13))
      (ds_drop (de_app (de_var 7) (de_tup (da_cons (de_var 8) (da_cons (de_if (dt_or (dt_test (de_op (rd_in (n := false)) (de_var 12) (de_var 13))) (dt_test (de_op rd_eq (de_call (da_cons (de_var 0) (da_cons (de_int 4) da_nil))) (de_int 0)))) (de_str k14) (de_var 12)) (da_cons (de_call (da_cons (de_var 0) da_nil)) da_nil)))))))))
      (ds_seq (ds_asg (de_call (da_cons (de_var 0) (da_cons (de_int 3) da_nil))) (dg_name 9))
      (ds_seq (ds_asg (de_lstN da_nil) (dg_name 10))
      (ds_seq (ds_for (di_rng1 (da_cons (de_call (da_cons (de_var 0) (da_cons (de_int 5) da_nil))) da_nil)) (dg_name 11)
      (ds_seq (ds_asg (de_op rd_ix (de_lst (da_cons (de_str k43) (da_cons (de_str k44) (da_cons (de_str k45) (da_cons (de_str k43) (da_cons (de_str k44) da_nil)))))) (de_call (da_cons (de_var 0) (da_cons (de_int 5) da_nil)))) (dg_name 14))
      (ds_drop (de_app (de_var 10) (de_tup (da_cons (de_var 14) (da_cons (de_op rd_ix (de_var 5) (de_call (da_cons (de_var 0) (da_cons (de_var 4) da_nil)))) (da_cons (de_op rd_ix (de_var 5) (de_call (da_cons (de_var 0) (da_cons (de_var 4) da_nil)))) da_nil))))))))
      (ds_ret (de_tup (da_cons (de_cb rd_tup (da_cons (de_pub (de_var 7)) da_nil)) (da_cons (de_tup (da_cons (de_var 9) (da_cons (de_op rd_add (de_var 9) (de_call (da_cons (de_var 0) (da_cons (de_int 4) da_nil)))) da_nil))) (da_cons (de_cb rd_tup (da_cons (de_pub (de_var 10)) da_nil)) da_nil)))))))))))))), fun ws Ps Po h => ?body⟩)
  case len =>
    unfold s__law_grammar at h
    split at h
    · rfl
    · exact h.elim
  case body =>
    unfold s__law_grammar at h
    split at h
    rotate_left
    · exact h.elim
    rename_i a m
    obtain ⟨ns, rfl, hr, h⟩ := h
    walk_at "s"
    refine ⟨ns, hr, by decide, by decide, fun st P1 hs0 hs1 r1 => ?_⟩
    walk_at "s"
    refine ⟨ns, r1.row, by decide, by decide, fun c P2 hc0 hc1 r2 => ?_⟩
    walk_at "s"
    intro q hq
    have hqn : Ps q = none := r1.none (r2.none hq)
    have r12 := r1.trans r2
    have hqa : q ≠ a := fun e => by
      obtain ⟨p, s, t, h1, _⟩ := r12.row
      rw [e, h1] at hq
      cases hq
    walk_at "s"
    have hce : cutW ((N12 ++ N12).map Wv.str) (some st) (some (st + (1 + c))) = (((N12 ++ N12).drop st.toNat).take (1 + c.toNat)).map Wv.str := by
      have e1 := cutW_mid ((N12 ++ N12).map Wv.str) st.toNat (st + (1 + c)).toNat
      rw [Int.toNat_of_nonneg hs0, Int.toNat_of_nonneg (by omega)] at e1
      rw [e1, ← List.map_drop, ← List.map_take, show (st + (1 + c)).toNat - st.toNat = 1 + c.toNat by omega]
    dsimp only
    rw [show cutW ([Wv.str [97, 108, 108], Wv.str [97], Wv.str [98, 101, 116, 97], Wv.str [98, 101, 116], Wv.str [99, 45, 100], Wv.str [99, 111, 108, 111, 114], Wv.str [107, 101, 121], Wv.str [107, 101, 121, 115], Wv.str [108, 101, 118, 101, 108], Wv.str [109, 111, 100, 101], Wv.str [108], Wv.str [122, 101, 100]] ++ [Wv.str [97, 108, 108], Wv.str [97], Wv.str [98, 101, 116, 97], Wv.str [98, 101, 116], Wv.str [99, 45, 100], Wv.str [99, 111, 108, 111, 114], Wv.str [107, 101, 121], Wv.str [107, 101, 121, 115], Wv.str [108, 101, 118, 101, 108], Wv.str [109, 111, 100, 101], Wv.str [108], Wv.str [122, 101, 100]]) (some st) (some (st + (1 + c))) = (((N12 ++ N12).drop st.toNat).take (1 + c.toNat)).map Wv.str from hce]
    have hcn := N12_nd st.toNat (by omega) (1 + c.toNat) (by omega)
    have hcm : ∀ x ∈ ((N12 ++ N12).drop st.toNat).take (1 + c.toNat), x ∈ N12 ++ N12 := fun x hx => List.mem_of_mem_drop (List.mem_of_mem_take hx)
    have hcl : (((N12 ++ N12).drop st.toNat).take (1 + c.toNat)).length = 1 + c.toNat := by
      rw [List.length_take, List.length_drop]
      have : (N12 ++ N12).length = 24 := rfl
      omega
    generalize ((N12 ++ N12).drop st.toNat).take (1 + c.toNat) = ch at hcn hcm hcl ⊢
    clear hce
    refine for_I (GrI Ps a ns ch (1 + c) (.lst [Wv.str [97, 108, 108], Wv.str [97], Wv.str [98, 101, 116, 97], Wv.str [98, 101, 116], Wv.str [99, 45, 100], Wv.str [99, 111, 108, 111, 114], Wv.str [107, 101, 121], Wv.str [107, 101, 121, 115], Wv.str [108, 101, 118, 101, 108], Wv.str [109, 111, 100, 101], Wv.str [108], Wv.str [122, 101, 100]]) (.int st) (.lst (sgnW [97, 98, 99, 107, 107, 108, 109, 122]))) ?_ (fun _ _ _ _ => trivial) ?_ ?_
    · exact ⟨q, [], none, none, none, none, none, none, none, none, rfl, SubP.new (delP_none hqn) (RowP.del SubP.del r12), r12.row.upd (Ne.symm hqa), hqa, hqn, updP_same, rfl, by simp, by simp⟩
    · rintro i w G2 P2 hw ⟨q, os, y8, y9, y10, y11, y12, y13, y14, y15, rfl, sub, hrow, hqa, hqn, hP, enm, hos, hnd⟩
      obtain ⟨n, hn, hmem, rfl⟩ := map_get hw
      obtain ⟨hi, en⟩ := List.getElem?_eq_some_iff.mp hn
      subst en
      have hnm := hcm _ hmem
      have hol : os.length ≤ 12 := by
        have := congrArg List.length enm
        rw [List.length_map, List.length_take] at this
        omega
      walk_at "s"
      refine ⟨ns, hrow, by decide, by decide, fun v P3 hv0 hv1 r3 => ?_⟩
      have hv8 : v < 8 := hv1
      have hlet : ∃ x ∈ cLT, atI (sgnW [97, 98, 99, 107, 107, 108, 109, 122]) v = some (.str [x]) := by
        have : v = 0 ∨ v = 1 ∨ v = 2 ∨ v = 3 ∨ v = 4 ∨ v = 5 ∨ v = 6 ∨ v = 7 := by omega
        rcases this with rfl | rfl | rfl | rfl | rfl | rfl | rfl | rfl <;> exact ⟨_, by decide, rfl⟩
      obtain ⟨x, hx, hat⟩ := hlet
      refine st_opt (e_ixL rfl hat) ?_
      have hP3 : P3 q = some (.lst (os.map Op.w)) := (r3.at hqa).trans hP
      have sub3 := RowP.del sub r3
      walk_at "s"
      refine st_opt (lstP_at hP3) ?_
      refine lc_map (fun w => match w with | .tup (_ :: x :: _) => x | _ => w) hP3 (by rw [List.length_map]; omega) (fun i w acc hw I => ?_) ?_
      · obtain ⟨o, _, _, rfl⟩ := map_get hw
        walk_at "s"
        exact wx_yes hw I rfl rfl
      · have e0 : (os.map Op.w).map (fun w => match w with | .tup (_ :: x :: _) => x | _ => w) = (os.map (·.lt)).map Wv.str := by
          rw [List.map_map, List.map_map]
          rfl
        rw [e0]
        walk_at "s"
        refine ⟨⟨q, _, rfl, hP3⟩, ?_⟩
        walk_at "s"
        refine st_opt (e_in (inW_strs rfl)) ?_
        by_cases hin : [x] ∈ os.map (·.lt)
        · refine iteY (by simpa using hin) ?_
          walk_at "s"
          refine ⟨ns, r3.row, fun k P6 hk hkl r6 => ?_⟩
          walk_at "s"
          have hP6 : P6 q = some (.lst (os.map Op.w)) := (r6.at hqa).trans hP3
          refine st_opt (lstM_at hP6) ?_
          refine ⟨by show (os.map Op.w).length < 1000000; rw [List.length_map]; omega, ?_⟩
          have sub6 := RowP.del sub3 r6
          refine ⟨q, os ++ [⟨ch[i], [], k⟩], _, _, _, _, _, _, _, _, rfl, SubP.new (delP_none hqn) sub6, r6.row.upd (Ne.symm hqa), hqa, hqn, by rw [updP_same, List.map_append]; rfl, by rw [List.map_append, enm, List.take_succ_eq_append_getElem hi]; rfl, ?_, ?_⟩
          · intro o ho
            rcases List.mem_append.mp ho with z | z
            · exact hos o z
            · rw [List.mem_singleton.mp z]
              exact ⟨⟨(N12_name hnm).1, .inl rfl, hk⟩, hkl, (N12_name hnm).2⟩
          · rw [List.map_append, List.filter_append]
            have e0 : ([({ nm := ch[i], lt := [], kd := k } : Op)].map (·.lt)).filter (fun l => decide (l ≠ [])) = [] := by simp
            rw [e0, List.append_nil]
            exact hnd
        · refine iteN (by simpa using hin) ?_
          walk_at "s"
          refine ⟨ns, r3.row, by decide, by decide, fun u P4 hu0 hu1 r4 => ?_⟩
          have hP4 : P4 q = some (.lst (os.map Op.w)) := (r4.at hqa).trans hP3
          have sub4 := RowP.del sub3 r4
          walk_at "s"
          by_cases hu : u = 0
          · refine iteY (decide_eq_true hu) ?_
            walk_at "s"
            refine ⟨ns, r4.row, fun k P6 hk hkl r6 => ?_⟩
            walk_at "s"
            have hP6 : P6 q = some (.lst (os.map Op.w)) := (r6.at hqa).trans hP4
            refine st_opt (lstM_at hP6) ?_
            refine ⟨by show (os.map Op.w).length < 1000000; rw [List.length_map]; omega, ?_⟩
            have sub6 := RowP.del sub4 r6
            refine ⟨q, os ++ [⟨ch[i], [], k⟩], _, _, _, _, _, _, _, _, rfl, SubP.new (delP_none hqn) sub6, r6.row.upd (Ne.symm hqa), hqa, hqn, by rw [updP_same, List.map_append]; rfl, by rw [List.map_append, enm, List.take_succ_eq_append_getElem hi]; rfl, ?_, ?_⟩
            · intro o ho
              rcases List.mem_append.mp ho with z | z
              · exact hos o z
              · rw [List.mem_singleton.mp z]
                exact ⟨⟨(N12_name hnm).1, .inl rfl, hk⟩, hkl, (N12_name hnm).2⟩
            · rw [List.map_append, List.filter_append]
              have e0 : ([({ nm := ch[i], lt := [], kd := k } : Op)].map (·.lt)).filter (fun l => decide (l ≠ [])) = [] := by simp
              rw [e0, List.append_nil]
              exact hnd
          · refine iteN (decide_eq_false hu) ?_
            walk_at "s"
            refine ⟨ns, r4.row, fun k P6 hk hkl r6 => ?_⟩
            walk_at "s"
            have hP6 : P6 q = some (.lst (os.map Op.w)) := (r6.at hqa).trans hP4
            refine st_opt (lstM_at hP6) ?_
            refine ⟨by show (os.map Op.w).length < 1000000; rw [List.length_map]; omega, ?_⟩
            have sub6 := RowP.del sub4 r6
            refine ⟨q, os ++ [⟨ch[i], [x], k⟩], _, _, _, _, _, _, _, _, rfl, SubP.new (delP_none hqn) sub6, r6.row.upd (Ne.symm hqa), hqa, hqn, by rw [updP_same, List.map_append]; rfl, by rw [List.map_append, enm, List.take_succ_eq_append_getElem hi]; rfl, ?_, ?_⟩
            · intro o ho
              rcases List.mem_append.mp ho with z | z
              · exact hos o z
              · rw [List.mem_singleton.mp z]
                exact ⟨⟨(N12_name hnm).1, .inr ⟨x, rfl, hx⟩, hk⟩, hkl, (N12_name hnm).2⟩
            · rw [List.map_append, List.filter_append]
              have e0 : ([({ nm := ch[i], lt := [x], kd := k } : Op)].map (·.lt)).filter (fun l => decide (l ≠ [])) = [[x]] := by simp
              rw [e0]
              refine List.nodup_append.mpr ⟨hnd, by simp, fun u hu z hz e3 => hin ?_⟩
              rw [List.mem_singleton.mp hz] at e3
              rw [← e3]
              exact (List.mem_filter.mp hu).1
    · rintro G2 P2 ⟨q, os, y8, y9, y10, y11, y12, y13, y14, y15, rfl, sub, hrow, hqa, hqn, hP, enm, hos, hnd⟩
      rw [List.length_map, List.take_length] at enm
      have hosl : os.length = 1 + c.toNat := by
        have := congrArg List.length enm
        rw [List.length_map, hcl] at this
        exact this
      walk_at "s"
      refine ⟨ns, hrow, by decide, by decide, fun lo P3 hl0 hl1 r3 => ?_⟩
      have hP3 : P3 q = some (.lst (os.map Op.w)) := (r3.at hqa).trans hP
      have sub3 := RowP.del sub r3
      walk_at "s"
      intro q2 hq2
      have hq2a : q2 ≠ a := fun e => by
        obtain ⟨p, s, t, h1, _⟩ := r3.row
        rw [e, h1] at hq2
        cases hq2
      have hq2q : q2 ≠ q := fun e => by rw [e, hP3] at hq2; cases hq2
      have hq2n : Ps q2 = none := by
        cases e : Ps q2 with
        | none => rfl
        | some o =>
          have := sub3 q2 o (by rw [delP_ne hq2a]; exact e)
          rw [hq2] at this
          cases this
      walk_at "s"
      refine ⟨ns, r3.row.upd (Ne.symm hq2a), by decide, by decide, fun k P4 hk0 hk1 r4 => ?_⟩
      have hP4 : P4 q = some (.lst (os.map Op.w)) := (r4.at hqa).trans (updP_at (Ne.symm hq2q) hP3)
      have hP4' : P4 q2 = some (.lst []) := (r4.at hq2a).trans updP_same
      have sub4 : SubP (delP Ps a) P4 := RowP.del (SubP.new (delP_none hq2n) sub3) r4
      refine ⟨by omega, by omega, ?_⟩
      refine for_I (ClI Ps a ns ch (1 + c) lo os (.lst [Wv.str [97, 108, 108], Wv.str [97], Wv.str [98, 101, 116, 97], Wv.str [98, 101, 116], Wv.str [99, 45, 100], Wv.str [99, 111, 108, 111, 114], Wv.str [107, 101, 121], Wv.str [107, 101, 121, 115], Wv.str [108, 101, 118, 101, 108], Wv.str [109, 111, 100, 101], Wv.str [108], Wv.str [122, 101, 100]]) (.int st) (.lst (sgnW [97, 98, 99, 107, 107, 108, 109, 122]))) ?_ (fun _ _ _ _ => trivial) ?_ ?_
      · exact ⟨q, q2, [], _, _, _, _, _, _, rfl, sub4, r4.row, hqa, hq2a, hq2q, hqn, hq2n, hP4, hP4', Nat.le_refl _, by omega⟩
      · rintro i w G2 P2 hw ⟨q, q2, cl, y8, y11, y12, y13, y14, y15, rfl, sub, hrow, hqa, hq2a, hq2q, hqn, hq2n, hP, hP2, hcl2, hi10⟩
        obtain ⟨hi, rfl⟩ := rngW_inv hw
        walk_at "s"
        refine ⟨ns, hrow, by decide, by decide, fun v P5 hv0 hv1 r5 => ?_⟩
        have hat : ∃ L : List Nat, atI [Wv.str [110, 101, 101, 100, 115], .str [101, 120, 99, 108, 117, 100, 101, 115], .str [101, 105, 116, 104, 101, 114], .str [110, 101, 101, 100, 115], .str [101, 120, 99, 108, 117, 100, 101, 115]] v = some (.str L) := by
          have : v = 0 ∨ v = 1 ∨ v = 2 ∨ v = 3 ∨ v = 4 := by omega
          rcases this with rfl | rfl | rfl | rfl | rfl <;> exact ⟨_, rfl⟩
        obtain ⟨L, hat⟩ := hat
        refine st_opt (e_ixL rfl hat) ?_
        walk_at "s"
        have hP5 : P5 q2 = some (.lst cl) := (r5.at hq2a).trans hP2
        refine ⟨⟨q2, _, rfl, hP5⟩, ?_⟩
        have hch : ∀ u : Int, 0 ≤ u → u < 1 + c → ∃ n : List Nat, atI (ch.map Wv.str) u = some (.str n) := by
          intro u hu0 hu1
          have hidx : u.toNat < ch.length := by omega
          have e := atI_natL (ch.map Wv.str) u.toNat
          rw [Int.toNat_of_nonneg hu0] at e
          exact ⟨ch[u.toNat], by rw [e, List.getElem?_map, List.getElem?_eq_getElem hidx]; rfl⟩
        walk_at "s"
        refine ⟨ns, r5.row, by omega, by omega, fun u P6 hu0 hu1 r6 => ?_⟩
        obtain ⟨n1, hn1⟩ := hch u hu0 hu1
        refine st_opt (e_ixL rfl hn1) ?_
        walk_at "s"
        refine ⟨ns, r6.row, by omega, by omega, fun u2 P7 hu20 hu21 r7 => ?_⟩
        obtain ⟨n2, hn2⟩ := hch u2 hu20 hu21
        refine st_opt (e_ixL rfl hn2) ?_
        walk_at "s"
        have r57 := (r5.trans r6).trans r7
        have hP7 : P7 q2 = some (.lst cl) := (r57.at hq2a).trans hP2
        refine st_opt (lstM_at hP7) ?_
        refine ⟨by show cl.length < 1000000; omega, ?_⟩
        have sub7 := RowP.del sub r57
        exact ⟨q, q2, _, _, _, _, _, _, _, rfl, SubP.new (delP_none hq2n) sub7, r57.row.upd (Ne.symm hq2a), hqa, hq2a, hq2q, hqn, hq2n, updP_at (Ne.symm hq2q) ((r57.at hqa).trans hP), updP_same, by rw [List.length_append]; simp; omega, by omega⟩
      · rintro G2 P2 ⟨q, q2, cl, y8, y11, y12, y13, y14, y15, rfl, sub, hrow, hqa, hq2a, hq2q, hqn, hq2n, hP, hP2, hcl2, hi10⟩
        walk_at "s"
        refine st_pub hP ?_
        walk_at "s"
        have hrow2 : RowAt (delP P2 q) a ns := by
          obtain ⟨p, s, t, h1, h2⟩ := hrow
          exact ⟨p, s, t, by rw [delP_ne (Ne.symm hqa)]; exact h1, h2⟩
        refine ⟨ns, hrow2, by decide, by decide, fun d P3 hd0 hd1 r3 => ?_⟩
        walk_at "s"
        have hP3 : P3 q2 = some (.lst cl) := (r3.at hq2a).trans (by rw [delP_ne hq2q]; exact hP2)
        refine st_pub hP3 ?_
        walk_at "s"
        have sub2 : SubP (delP Ps a) (delP P2 q) := SubP.delR sub (delP_none hqn)
        have sub3 := RowP.del sub2 r3
        have sub4 : SubP (delP Ps a) (delP P3 q2) := SubP.delR sub3 (delP_none hq2n)
        have hrow4 : RowAt (delP P3 q2) a ns := by
          obtain ⟨p, s, t, h1, h2⟩ := r3.row
          exact ⟨p, s, t, by rw [delP_ne (Ne.symm hq2a)]; exact h1, h2⟩
        obtain ⟨P', rP, subP⟩ := RowP.fin sub4 hrow4
        refine fin_sub subP (h os lo (lo + d) (.tup cl) P' ⟨⟨by omega, by omega, fun o ho => (hos o ho).1, by rw [enm]; exact hcn, hnd, hl0, by omega, by omega⟩, by omega, fun o ho => (hos o ho).2.2, fun o ho => (hos o ho).2.1, by omega, by omega⟩ rP)
end Fc
namespace Fc
open PySem PySem.Spec PyProof.Rows L2
local macro_rules | `(tactic| walk_at "s") => `(tactic| repeat (first
  | refine st_opt rfl ?_
  | refine st_opt (e_len (by first | assumption | omega)) ?_
  | refine st_opt (e_addS (by first | decide | omega | (simp; done) | (simp; omega))) ?_
  | refine st_opt (fldW_at (by first | assumption | exact updP_same) rfl) ?_
  | refine st_opt (insOf_at (by first | assumption | exact updP_same)) ?_
  | refine st_ble rfl ?_
  | refine st_blt rfl ?_
  | refine st_eqr ?_))
def s__law_tokens (_ : PySem.W.Frag) : WSp := fun ws P Po => match ws with
  | [.r a, w, .int m] => ∃ ns os lo hi, w = gramW os lo hi ∧ LG os lo hi ∧ m = 7 ∧ RowAt P a ns ∧ ∀ ts P', TsOk 7 ts → RowP P P' a ns → Po (.lst (ts.map .str)) P'
  | _ => False
def TkI (Ps : Pst) (a : Addr) (ns : List Int) (w : Wv) (i : Nat) (G : Env) (P : Pst) : Prop := ∃ (q : Addr) (ts : List (List Nat)) (y4 y5 y6 y7 y8 y9 y10 y11 : Option Wv), G = [some (.r a), some w, some (.int 7), some (.r q), y4, y5, y6, y7, y8, y9, y10, y11] ∧ SubP (delP Ps a) P ∧ RowAt P a ns ∧ q ≠ a ∧ Ps q = none ∧ P q = some (.lst (ts.map .str)) ∧ TsOk i ts ∧ i ≤ 7
theorem row_ne {P : Pst} {a b : Addr} {ns : List Int} (h : RowAt P a ns) (hb : P b = none) : b ≠ a := by
  obtain ⟨p, s, q, h1, _⟩ := h
  intro e
  subst e
  rw [h1] at hb
  cases hb
theorem del_none {Ps P2 : Pst} {a q : Addr} (s : SubP (delP Ps a) P2) (hq : P2 q = none) (h : q ≠ a) : Ps q = none := by
  cases e : Ps q with
  | none => rfl
  | some o =>
    have := s q o (by rw [delP_ne h]; exact e)
    rw [hq] at this
    cases this
theorem bun_ok {l x : List Nat} {c : Nat} (hl : l = [c]) (hc : c ∈ cLT) (hx : x.length ≤ 4) (h : ∀ c ∈ x, c ∈ cAB) : TkOk ([45] ++ l ++ x) := by
  subst hl
  refine ⟨by simp; omega, fun d hd => ?_⟩
  rcases List.mem_append.mp hd with e | e
  · rcases List.mem_append.mp e with e | e
    · rw [List.mem_singleton.mp e]; decide
    · rw [List.mem_singleton.mp e]; exact LT_AB c hc
  · exact h d e
theorem bun_cost {l x : List Nat} {c : Nat} (hl : l = [c]) (hc : c ∈ cLT) (hx : x.length ≤ 4) : tcost ([45] ++ l ++ x) ≤ 2 + 2 * x.length := by
  subst hl
  have h1 : cost ([45] ++ [c]) = 2 := cost_plain (by
    intro d hd
    rcases List.mem_append.mp hd with e | e
    · rw [List.mem_singleton.mp e]; decide
    · rw [List.mem_singleton.mp e]; exact List.mem_append_left _ hc)
  have h2 := cost_le x
  exact tcost_le (by rw [cost_app, h1]; omega) (by omega)
theorem fixed9 (u : Int) (h0 : 0 ≤ u) (h1 : u < 9) : ∃ l : List Nat, atI [Wv.str [120], .str [45, 45], .str [45, 53], .str [45], .str [45, 97, 98], .str [45, 45, 97, 61, 49], .str [], .str [45, 45, 107, 101, 121], .str [121, 32, 122]] u = some (.str l) ∧ l.length ≤ 5 ∧ ∀ c ∈ l, c ∈ cAB := by
  have : u = 0 ∨ u = 1 ∨ u = 2 ∨ u = 3 ∨ u = 4 ∨ u = 5 ∨ u = 6 ∨ u = 7 ∨ u = 8 := by omega
  rcases this with rfl | rfl | rfl | rfl | rfl | rfl | rfl | rfl | rfl <;> exact ⟨_, rfl, by decide, by decide⟩
theorem sc__law_tokens : FnScope ["_law_row", "_law_grammar_here", "_law_most", "_law_tokens_here", "_law_k", "_law_name", "_law_letter", "_law_kind_here", "_law_value_here", "_law_text", "_law_way", "_law_head"] ["_law_row", "_law_grammar_here", "_law_most"] (defScope x__law_tokens) := ⟨rfl, rfl, rfl, by decide +kernel, rfl, by decide +kernel, by decide +kernel⟩
theorem cl__law_tokens {P : Program} {w : World} {K : PySem.W.Frag} {mg : Str → Option Value} {base : Heap} (T : Txt K mg) (G__law_taken : Cl P w K mg base 1 "_law_taken" (s__law_taken K)) (G__law_drawn_value : Cl P w K mg base 3 "_law_drawn_value" (s__law_drawn_value K)) (G__law_word : Cl P w K mg base 2 "_law_word" (s__law_word K)) : Cl P w K mg base 4 "_law_tokens" (s__law_tokens K) := by
  obtain ⟨fd, F⟩ := T.d__law_tokens
  refine cl_of F T.g__law_tokens sc__law_tokens (fun ws Ps Po h => ?len) (fun _ _ _ _ _ _ us hl => match us, hl with | [_, _, _], _ => rfl) (fun cdv A outer sh H E hr => ⟨_, _,
      (pss_cons (ps_set (i := 3) sc__law_tokens.nd rfl (by first | exact Or.inl rfl | exact Or.inr rfl) (pe_lst pa_nil))
      (pss_cons (ps_for PassesOwn.never rfl (pi_range1 (by rfl) T.f_range (pa_cons (pe_cl G__law_taken hr (by decide) (by rfl) (pa_cons (pv 0) (pa_cons (pe_op op_add (pv 2) pe_int) pa_nil))) pa_nil)) (pg_name (i := 4) sc__law_tokens.nd rfl (by first | exact Or.inl rfl | exact Or.inr rfl))
      (pss_cons (ps_asg (pe_ix ix_seq (pe_ix ix_seq (pv 1) pe_int (fun _ _ => rfl)) (pe_cl G__law_taken hr (by decide) (by rfl) (pa_cons (pv 0) (pa_cons (pe_callB call_lenQ (by rfl) T.f_len boot_len (pa_cons (pe_ix ix_seq (pv 1) pe_int (fun _ _ => rfl)) pa_nil)) pa_nil))) (fun _ _ => rfl)) (pg_tup (n := 3) rfl (pgs_cons (pg_name (i := 5) sc__law_tokens.nd rfl (by first | exact Or.inl rfl | exact Or.inr rfl)) (pgs_cons (pg_name (i := 6) sc__law_tokens.nd rfl (by first | exact Or.inl rfl | exact Or.inr rfl)) (pgs_cons (pg_name (i := 7) sc__law_tokens.nd rfl (by first | exact Or.inl rfl | exact Or.inr rfl)) pgs_nil)))))
      (pss_cons (ps_set (i := 8) sc__law_tokens.nd rfl (by first | exact Or.inl rfl | exact Or.inr rfl) (pe_cl G__law_drawn_value hr (by decide) (by rfl) (pa_cons (pv 0) (pa_cons (pv 7) pa_nil))))
      (pss_cons (ps_set (i := 9) sc__law_tokens.nd rfl (by first | exact Or.inl rfl | exact Or.inr rfl) (pe_ifExp (pt_cmpR op_isN1 (pv 7) pe_non (nomark _)) pe_str (pe_callTy call_strQ (by rfl) T.f_str (by decide +kernel) (pa_cons (pv 8) pa_nil))))
      (pss_cons (ps_set (i := 10) sc__law_tokens.nd rfl (by first | exact Or.inl rfl | exact Or.inr rfl) (pe_cl G__law_taken hr (by decide) (by rfl) (pa_cons (pv 0) (pa_cons pe_int pa_nil))))
      (pss_one (ps_if (pt_cmpR op_lt (pv 10) pe_int (nomark _))
      (pss_cons (ps_set (i := 11) sc__law_tokens.nd rfl (by first | exact Or.inl rfl | exact Or.inr rfl) (pe_op op_addStr pe_str (pe_slice sl_str (pv 5) po_none (po_some (pe_op op_add pe_int (pe_cl G__law_taken hr (by decide) (by rfl) (pa_cons (pv 0) (pa_cons (pe_callB call_lenQ (by rfl) T.f_len boot_len (pa_cons (pv 5) pa_nil)) pa_nil))))))))
      (pss_one (ps_if (pt_cmpR op_isN1 (pv 7) pe_non (nomark _))
      (pss_one (ps_expr (pe_bm PySem.F.plainAttrs_list PySem.F.slot_list_append PySem.F.type_list_append mt_append (pv 3) (pa_cons (pe_op op_addStr (pv 11) (pe_op op_mulStr pe_str (pe_callTy call_intQ (by rfl) T.f_int (by decide +kernel) (pa_cons (pe_cmpR op_eq (pe_cl G__law_taken hr (by decide) (by rfl) (pa_cons (pv 0) (pa_cons pe_int pa_nil))) pe_int (nomark _)) pa_nil)))) pa_nil))))
      (pss_one (ps_set (i := 3) sc__law_tokens.nd rfl (by first | exact Or.inl rfl | exact Or.inr rfl) (pe_op op_cat (pv 3) (pe_ix ix_seq (pe_lst (pa_cons (pe_lst (pa_cons (pe_op op_addStr (pe_op op_addStr (pv 11) pe_str) (pv 9)) pa_nil)) (pa_cons (pe_lst (pa_cons (pv 11) (pa_cons (pv 9) pa_nil))) pa_nil))) (pe_op op_mod (pe_callTy call_intQ (by rfl) T.f_int (by decide +kernel) (pa_cons (pv 10) pa_nil)) pe_int) (fun _ _ => rfl))))))))
      (pss_one (ps_if (PW.pt (pw_and (pt_cmpR op_lt (pv 10) pe_int (nomark _)) (pw_and1 (pt_cmpR op_ne (pv 6) pe_str (nomark _)))))
      (pss_one (ps_if (pt_cmpR op_lt (pv 10) pe_int (nomark _))
      (pss_one (ps_expr (pe_bm PySem.F.plainAttrs_list PySem.F.slot_list_append PySem.F.type_list_append mt_append (pv 3) (pa_cons (pe_op op_addStr (pe_op op_addStr pe_str (pv 6)) (pv 9)) pa_nil))))
      (pss_cons (ps_expr (pe_bm PySem.F.plainAttrs_list PySem.F.slot_list_append PySem.F.type_list_append mt_append (pv 3) (pa_cons (pe_op op_addStr pe_str (pv 6)) pa_nil)))
      (pss_one (ps_set (i := 3) sc__law_tokens.nd rfl (by first | exact Or.inl rfl | exact Or.inr rfl) (pe_op op_cat (pv 3) (pe_op op_rep (pe_lst (pa_cons (pv 9) pa_nil)) (pe_callTy call_intQ (by rfl) T.f_int (by decide +kernel) (pa_cons (pe_cmpR op_notN1 (pv 7) pe_non (nomark _)) pa_nil)))))))))
      (pss_one (ps_if (pt_cmpR op_eq (pv 10) pe_int (nomark _))
      (pss_one (ps_expr (pe_bm PySem.F.plainAttrs_list PySem.F.slot_list_append PySem.F.type_list_append mt_append (pv 3) (pa_cons (pe_cl G__law_word hr (by decide) (by rfl) (pa_cons (pv 0) (pa_cons pe_int pa_nil))) pa_nil))))
      (pss_one (ps_expr (pe_bm PySem.F.plainAttrs_list PySem.F.slot_list_append PySem.F.type_list_append mt_append (pv 3) (pa_cons (pe_ix ix_seq (pe_lst (pa_cons pe_str (pa_cons pe_str (pa_cons pe_str (pa_cons pe_str (pa_cons pe_str (pa_cons pe_str (pa_cons pe_str (pa_cons pe_str (pa_cons pe_str pa_nil)))))))))) (pe_cl G__law_taken hr (by decide) (by rfl) (pa_cons (pv 0) (pa_cons pe_int pa_nil))) (fun _ _ => rfl)) pa_nil)))))))))))))))
      (pss_one (ps_ret (pv 3))))),
      (ds_seq (ds_asg (de_lstN da_nil) (dg_name 3))
      (ds_seq (ds_for (di_rng1 (da_cons (de_call (da_cons (de_var 0) (da_cons (de_op rd_add (de_var 2) (de_int 1)) da_nil))) da_nil)) (dg_name 4)
      (ds_seq (ds_asg (de_op rd_ix (de_op rd_ix (de_var 1) (de_int 0)) (de_call (da_cons (de_var 0) (da_cons (de_cb rd_len (da_cons (de_op rd_ix (de_var 1) (de_int 0)) da_nil)) da_nil)))) (dg_tup (dgs_cons (dg_name 5) (dgs_cons (dg_name 6) (dgs_cons (dg_name 7) dgs_nil)))))
      (ds_seq (ds_asg (de_call (da_cons (de_var 0) (da_cons (de_var 7) da_nil))) (dg_name 8))
      (ds_seq (ds_asg (de_if (dt_test (de_op rd_isN (de_var 7) de_non)) (de_str k14) (de_cb rd_str (da_cons (de_var 8) da_nil))) (dg_name 9))
      (ds_seq (ds_asg (de_call (da_cons (de_var 0) (da_cons (de_int 9) da_nil))) (dg_name 10))
      (ds_if (dt_test (de_op rd_lt (de_var 10) (de_int 3)))
      (ds_seq (ds_asg (de_op rd_addStr (de_str k8) (de_sl rd_slS (de_var 5) do_none (do_some (de_op rd_add (de_int 1) (de_call (da_cons (de_var 0) (da_cons (de_cb rd_len (da_cons (de_var 5) da_nil)) da_nil))))))) (dg_name 11))
      (ds_if (dt_test (de_op rd_isN (de_var 7) de_non))
      (ds_drop (de_app (de_var 3) (de_op rd_addStr (de_var 11) (de_op rd_mulStr (de_str k9) (de_cb rd_int (da_cons (de_op rd_eq (de_call (da_cons (de_var 0) (da_cons (de_int 6) da_nil))) (de_int 0)) da_nil))))))
      (ds_asg (de_opN rd_catN (de_var 3) (de_op rd_ix (de_lst (da_cons (de_lst (da_cons (de_op rd_addStr (de_op rd_addStr (de_var 11) (de_str k9)) (de_var 9)) da_nil)) (da_cons (de_lst (da_cons (de_var 11) (da_cons (de_var 9) da_nil))) da_nil))) (de_op rd_mod (de_cb rd_int (da_cons (de_var 10) da_nil)) (de_int 2)))) (dg_name 3))))
      (ds_if (dt_and (dt_test (de_op rd_lt (de_var 10) (de_int 6))) (dt_test (de_op rd_ne (de_var 6) (de_str k14))))
      (ds_if (dt_test (de_op rd_lt (de_var 10) (de_int 5)))
      (ds_drop (de_app (de_var 3) (de_op rd_addStr (de_op rd_addStr (de_str k1) (de_var 6)) (de_var 9))))
      (ds_seq (ds_drop (de_app (de_var 3) (de_op rd_addStr (de_str k1) (de_var 6))))
      (ds_asg (de_opN rd_catN (de_var 3) (de_op rd_rep (de_lst (da_cons (de_var 9) da_nil)) (de_cb rd_int (da_cons (de_op rd_notN (de_var 7) de_non) da_nil)))) (dg_name 3))))
      (ds_if (dt_test (de_op rd_eq (de_var 10) (de_int 6)))
      (ds_drop (de_app (de_var 3) (de_call (da_cons (de_var 0) (da_cons (de_int 4) da_nil)))))
      (ds_drop (de_app (de_var 3) (de_op rd_ix (de_lst (da_cons (de_str k51) (da_cons (de_str k8) (da_cons (de_str k52) (da_cons (de_str k1) (da_cons (de_str k53) (da_cons (de_str k54) (da_cons (de_str k14) (da_cons (de_str k55) (da_cons (de_str k56) da_nil)))))))))) (de_call (da_cons (de_var 0) (da_cons (de_int 9) da_nil))))))))))))))
      (ds_ret (de_pub (de_var 3))))), fun ws Ps Po h => ?body⟩)
  case len =>
    unfold s__law_tokens at h
    split at h
    · rfl
    · exact h.elim
  case body =>
    unfold s__law_tokens at h
    split at h
    rotate_left
    · exact h.elim
    rename_i a w m
    obtain ⟨ns, os, lo, hi, rfl, L, rfl, hr, h⟩ := h
    have hl1 := L.ok.len1
    have hl2 := L.len
    walk_at "s"
    intro q hq
    have hqa := row_ne hr hq
    walk_at "s"
    refine ⟨ns, hr.upd (Ne.symm hqa), by decide, by decide, fun k P1 hk0 hk1 r1 => ?_⟩
    refine ⟨by omega, by omega, ?_⟩
    refine for_I (TkI Ps a ns (gramW os lo hi)) ?_ (fun _ _ _ _ => trivial) ?_ ?_
    · exact ⟨q, [], none, none, none, none, none, none, none, none, rfl, RowP.del (SubP.new (delP_none hq) SubP.del) r1, r1.row, hqa, hq, (r1.at hqa).trans updP_same, ⟨by simp, by simp, by simp⟩, by omega⟩
    · rintro i w G2 P2 hw ⟨q, ts, y4, y5, y6, y7, y8, y9, y10, y11, rfl, sub, hrow, hqa, hqn, hP, hts, hi7⟩
      obtain ⟨hik, rfl⟩ := rngW_inv hw
      have hi7' : i + 1 ≤ 7 := by omega
      walk_at "s"
      refine ⟨ns, hrow, by rw [List.length_map]; omega, by rw [List.length_map]; omega, fun j P3 hj0 hj1 r3 => ?_⟩
      rw [List.length_map] at hj1
      have hidx : j.toNat < os.length := by omega
      have hat : atI (os.map Op.w) j = some os[j.toNat].w := by
        have e := atI_natL (os.map Op.w) j.toNat
        rw [Int.toNat_of_nonneg hj0] at e
        rw [e, List.getElem?_map, List.getElem?_eq_getElem hidx]
        rfl
      refine st_opt (e_ixL rfl hat) ?_
      have ho : os[j.toNat] ∈ os := List.getElem_mem hidx
      generalize os[j.toNat] = o at ho
      have hnm := (L.ok.ops o ho).nm
      have hnl := L.nm o ho
      have hlt := (L.ok.ops o ho).lt
      have hltl := letOk_len hlt
      walk_at "s"
      refine ⟨ns, o.kd, rfl, r3.row, (L.ok.ops o ho).kd, L.kd o ho, fun v P4 hv r4 => ?_⟩
      have htl := hts.1
      have fin : ∀ (q2 : Addr) (new : List (List Nat)) (P7 : Pst) (z4 z5 z6 z7 z8 z9 z10 z11 : Option Wv), q2 ≠ a → Ps q2 = none → P7 q2 = some (.lst ((ts ++ new).map .str)) → SubP (delP Ps a) P7 → RowAt P7 a ns → new.length ≤ 2 → (∀ t ∈ new, TkOk t) → (new.map tcost).sum ≤ 16 →
          TkI Ps a ns (gramW os lo hi) (i + 1) [some (.r a), some (gramW os lo hi), some (.int 7), some (.r q2), z4, z5, z6, z7, z8, z9, z10, z11] P7 :=
        fun q2 new P7 z4 z5 z6 z7 z8 z9 z10 z11 g1 g2 g3 g4 g5 g6 g7 g8 => ⟨q2, ts ++ new, z4, z5, z6, z7, z8, z9, z10, z11, rfl, g4, g5, g1, g2, g3, hts.add g6 g7 g8, hi7'⟩
      walk_at "s"
      by_cases hk : o.kd = .non
      · have hxl : ([] : List Nat).length ≤ 4 := by simp
        have hxc : ∀ c ∈ ([] : List Nat), c ∈ cAB := by simp
        refine iteY (by rw [hk]; rfl) ?_
        walk_at "s"
        refine ⟨ns, r4.row, by decide, by decide, fun wy P5 hw0 hw1 r5 => ?_⟩
        have r35 := (r3.trans r4).trans r5
        walk_at "s"
        by_cases c1 : wy < 3
        · refine iteY (decide_eq_true c1) ?_
          walk_at "s"
          have hnl1 := hnm.1
          refine ⟨ns, r35.row, by omega, by omega, fun d P6 hd0 hd1 r6 => ?_⟩
          walk_at "s"
          refine st_opt (e_slS (by omega)) ?_
          rw [show (1 : Int) + d = ((1 + d.toNat : Nat) : Int) by omega, cutW_to]
          have hpl : (o.nm.take (1 + d.toNat)).length ≤ 5 := by rw [List.length_take]; omega
          have hpc : ∀ c ∈ o.nm.take (1 + d.toNat), c ∈ cLT ++ [45] := fun c hc => hnm.2.2.2.2 c (List.mem_of_mem_take hc)
          have hhc : ∀ c ∈ [45, 45] ++ o.nm.take (1 + d.toNat), c ∈ cLT ++ [45] := by
            intro c hc
            rcases List.mem_append.mp hc with e | e
            · have : c = 45 := by simpa using e
              rw [this]; decide
            · exact hpc c e
          have hcost := cost_plain hhc
          have hhl : ([45, 45] ++ o.nm.take (1 + d.toNat)).length ≤ 7 := by rw [List.length_append]; simp at hpl ⊢; omega
          have r36 := r35.trans r6
          walk_at "s"
          refine iteY (by rw [hk]; rfl) ?_
          walk_at "s"
          refine ⟨⟨q, _, rfl, (r36.at hqa).trans hP⟩, ?_⟩
          walk_at "s"
          refine ⟨ns, r36.row, by decide, by decide, fun u P7 hu0 hu1 r7 => ?_⟩
          have r37 := r36.trans r7
          walk_at "s"
          have hmul : ∃ y : List Nat, fMulS P7 (.str [61]) (.int (if decide (u = 0) = true then 1 else 0)) = some (.str y) ∧ y.length ≤ 1 ∧ (∀ c ∈ y, c ∈ cAB) := by
            by_cases hu : u = 0
            · rw [if_pos (decide_eq_true hu)]
              exact ⟨[61], rfl, by simp, by decide⟩
            · rw [if_neg (by simp [hu])]
              exact ⟨[], rfl, by simp, by simp⟩
          obtain ⟨y, hm, hyl, hyc⟩ := hmul
          refine st_opt hm ?_
          walk_at "s"
          refine st_opt (lstM_at ((r37.at hqa).trans hP)) ?_
          refine ⟨by show (ts.map Wv.str).length < 1000000; rw [List.length_map]; omega, ?_⟩
          refine fin q [([45, 45] ++ o.nm.take (1 + d.toNat)) ++ y] _ _ _ _ _ _ _ _ _ hqa hqn (by rw [updP_same, List.map_append]; try rfl) (SubP.new (delP_none hqn) (RowP.del sub r37)) (r37.row.upd (Ne.symm hqa)) (by simp) ?_ ?_
          · intro t ht
            rw [List.mem_singleton.mp ht]
            refine ⟨by rw [List.length_append]; omega, fun c hc => ?_⟩
            rcases List.mem_append.mp hc with e | e
            · exact LTH_AB c (hhc c e)
            · exact hyc c e
          · simp only [List.map_cons, List.map_nil, List.sum_cons, List.sum_nil]
            have h1 := cost_le y
            have := tcost_le (t := ([45, 45] ++ o.nm.take (1 + d.toNat)) ++ y) (n := 10) (by rw [cost_app]; omega) (by decide)
            omega
        · refine iteN (decide_eq_false c1) ?_
          have rest : ∀ (G : Env), G.length = 0 → True := fun _ _ => trivial
          walk_at "s"
          by_cases c2 : wy < 6
          · refine iteY (decide_eq_true c2) ?_
            walk_at "s"
            by_cases hl0 : o.lt = []
            · refine iteN (by simp [hl0]) ?_
              walk_at "s"
              by_cases c6 : wy = 6
              · refine iteY (decide_eq_true c6) ?_
                walk_at "s"
                refine ⟨⟨q, _, rfl, (r35.at hqa).trans hP⟩, ?_⟩
                walk_at "s"
                refine ⟨ns, 4, rfl, r35.row, by decide, fun l P6 hl r6 => ?_⟩
                have r36 := r35.trans r6
                refine st_opt (lstM_at ((r36.at hqa).trans hP)) ?_
                refine ⟨by show (ts.map Wv.str).length < 1000000; rw [List.length_map]; omega, ?_⟩
                refine fin q [l] _ _ _ _ _ _ _ _ _ hqa hqn (by rw [updP_same, List.map_append]; try rfl) (SubP.new (delP_none hqn) (RowP.del sub r36)) (r36.row.upd (Ne.symm hqa)) (by simp) ?_ ?_
                · intro t ht
                  rw [List.mem_singleton.mp ht]
                  exact ⟨by have := hl.1; omega, hl.2⟩
                · simp only [List.map_cons, List.map_nil, List.sum_cons, List.sum_nil]
                  have := tcost_le (t := l) (n := 8) (Nat.le_trans (cost_le l) (by have := hl.1; omega)) (by decide)
                  omega
              · refine iteN (decide_eq_false c6) ?_
                walk_at "s"
                refine ⟨⟨q, _, rfl, (r35.at hqa).trans hP⟩, ?_⟩
                walk_at "s"
                refine ⟨ns, r35.row, by decide, by decide, fun u P6 hu0 hu1 r6 => ?_⟩
                obtain ⟨l, hat9, hl1, hl2⟩ := fixed9 u hu0 hu1
                refine st_opt (e_ixL rfl hat9) ?_
                have r36 := r35.trans r6
                refine st_opt (lstM_at ((r36.at hqa).trans hP)) ?_
                refine ⟨by show (ts.map Wv.str).length < 1000000; rw [List.length_map]; omega, ?_⟩
                refine fin q [l] _ _ _ _ _ _ _ _ _ hqa hqn (by rw [updP_same, List.map_append]; try rfl) (SubP.new (delP_none hqn) (RowP.del sub r36)) (r36.row.upd (Ne.symm hqa)) (by simp) ?_ ?_
                · intro t ht
                  rw [List.mem_singleton.mp ht]
                  exact ⟨by omega, hl2⟩
                · simp only [List.map_cons, List.map_nil, List.sum_cons, List.sum_nil]
                  have := tcost_le (t := l) (n := 10) (Nat.le_trans (cost_le l) (by omega)) (by decide)
                  omega
            · refine iteY (by simp [hl0]) ?_
              obtain ⟨lc, hlc, hlcm⟩ := hlt.resolve_left hl0
              walk_at "s"
              by_cases c3 : wy < 5
              · refine iteY (decide_eq_true c3) ?_
                walk_at "s"
                refine ⟨⟨q, _, rfl, (r35.at hqa).trans hP⟩, ?_⟩
                walk_at "s"
                refine st_opt (lstM_at ((r35.at hqa).trans hP)) ?_
                refine ⟨by show (ts.map Wv.str).length < 1000000; rw [List.length_map]; omega, ?_⟩
                refine fin q ([[45] ++ o.lt ++ []]) _ _ _ _ _ _ _ _ _ hqa hqn (by rw [updP_same, List.map_append]; try rfl) (SubP.new (delP_none hqn) (RowP.del sub r35)) (r35.row.upd (Ne.symm hqa)) (by simp) ?_ ?_
                · intro t ht
                  rw [List.mem_singleton.mp ht]
                  exact bun_ok hlc hlcm hxl hxc
                · simp only [List.map_cons, List.map_nil, List.sum_cons, List.sum_nil]
                  have := bun_cost (x := []) hlc hlcm hxl
                  omega
              · refine iteN (decide_eq_false c3) ?_
                walk_at "s"
                refine ⟨⟨q, _, rfl, (r35.at hqa).trans hP⟩, ?_⟩
                walk_at "s"
                refine st_opt (lstM_at ((r35.at hqa).trans hP)) ?_
                refine ⟨by show (ts.map Wv.str).length < 1000000; rw [List.length_map]; omega, ?_⟩
                have sub5 : SubP (delP Ps a) (updP P5 q (SO.lst (ts.map .str ++ [.str ([45] ++ o.lt)]))) := SubP.new (delP_none hqn) (RowP.del sub r35)
                have hP5 : updP P5 q (SO.lst (ts.map .str ++ [.str ([45] ++ o.lt)])) q = some (.lst (ts.map .str ++ [.str ([45] ++ o.lt)])) := updP_same
                walk_at "s"
                rw [hk]
                walk_at "s"
                refine st_opt (e_catN (b := []) (lstP_at hP5) rfl (by simp; omega)) ?_
                intro q2 hq2
                have hrow5 : RowAt (updP P5 q (SO.lst (ts.map .str ++ [.str ([45] ++ o.lt)]))) a ns := r35.row.upd (Ne.symm hqa)
                have hq2a := row_ne hrow5 hq2
                refine fin q2 [[45] ++ o.lt] _ _ _ _ _ _ _ _ _ hq2a (del_none sub5 hq2 hq2a) (by rw [updP_same, List.append_nil, List.map_append]; try rfl) (SubP.new (delP_none (del_none sub5 hq2 hq2a)) sub5) (hrow5.upd (Ne.symm hq2a)) (by simp) ?_ ?_
                · intro t ht
                  rw [List.mem_singleton.mp ht]
                  exact (by have := bun_ok (x := []) hlc hlcm (by simp) (by simp); rw [List.append_nil] at this; exact this)
                · simp only [List.map_cons, List.map_nil, List.sum_cons, List.sum_nil]
                  have h0 := bun_cost (x := []) hlc hlcm (by simp)
                  simp only [List.append_nil, List.length_nil, Nat.mul_zero, Nat.add_zero] at h0
                  skip
                  omega
          · refine iteN (decide_eq_false c2) ?_
            walk_at "s"
            by_cases c6 : wy = 6
            · refine iteY (decide_eq_true c6) ?_
              walk_at "s"
              refine ⟨⟨q, _, rfl, (r35.at hqa).trans hP⟩, ?_⟩
              walk_at "s"
              refine ⟨ns, 4, rfl, r35.row, by decide, fun l P6 hl r6 => ?_⟩
              have r36 := r35.trans r6
              refine st_opt (lstM_at ((r36.at hqa).trans hP)) ?_
              refine ⟨by show (ts.map Wv.str).length < 1000000; rw [List.length_map]; omega, ?_⟩
              refine fin q [l] _ _ _ _ _ _ _ _ _ hqa hqn (by rw [updP_same, List.map_append]; try rfl) (SubP.new (delP_none hqn) (RowP.del sub r36)) (r36.row.upd (Ne.symm hqa)) (by simp) ?_ ?_
              · intro t ht
                rw [List.mem_singleton.mp ht]
                exact ⟨by have := hl.1; omega, hl.2⟩
              · simp only [List.map_cons, List.map_nil, List.sum_cons, List.sum_nil]
                have := tcost_le (t := l) (n := 8) (Nat.le_trans (cost_le l) (by have := hl.1; omega)) (by decide)
                omega
            · refine iteN (decide_eq_false c6) ?_
              walk_at "s"
              refine ⟨⟨q, _, rfl, (r35.at hqa).trans hP⟩, ?_⟩
              walk_at "s"
              refine ⟨ns, r35.row, by decide, by decide, fun u P6 hu0 hu1 r6 => ?_⟩
              obtain ⟨l, hat9, hl1, hl2⟩ := fixed9 u hu0 hu1
              refine st_opt (e_ixL rfl hat9) ?_
              have r36 := r35.trans r6
              refine st_opt (lstM_at ((r36.at hqa).trans hP)) ?_
              refine ⟨by show (ts.map Wv.str).length < 1000000; rw [List.length_map]; omega, ?_⟩
              refine fin q [l] _ _ _ _ _ _ _ _ _ hqa hqn (by rw [updP_same, List.map_append]; try rfl) (SubP.new (delP_none hqn) (RowP.del sub r36)) (r36.row.upd (Ne.symm hqa)) (by simp) ?_ ?_
              · intro t ht
                rw [List.mem_singleton.mp ht]
                exact ⟨by omega, hl2⟩
              · simp only [List.map_cons, List.map_nil, List.sum_cons, List.sum_nil]
                have := tcost_le (t := l) (n := 10) (Nat.le_trans (cost_le l) (by omega)) (by decide)
                omega
      · obtain ⟨x, hx0, hxl, hxc⟩ := vl_text L ho hk hv
        refine iteN (isNon_kd hk) ?_
        walk_at "s"
        refine st_opt (hx0 _) ?_
        walk_at "s"
        refine ⟨ns, r4.row, by decide, by decide, fun wy P5 hw0 hw1 r5 => ?_⟩
        have r35 := (r3.trans r4).trans r5
        walk_at "s"
        by_cases c1 : wy < 3
        · refine iteY (decide_eq_true c1) ?_
          walk_at "s"
          have hnl1 := hnm.1
          refine ⟨ns, r35.row, by omega, by omega, fun d P6 hd0 hd1 r6 => ?_⟩
          walk_at "s"
          refine st_opt (e_slS (by omega)) ?_
          rw [show (1 : Int) + d = ((1 + d.toNat : Nat) : Int) by omega, cutW_to]
          have hpl : (o.nm.take (1 + d.toNat)).length ≤ 5 := by rw [List.length_take]; omega
          have hpc : ∀ c ∈ o.nm.take (1 + d.toNat), c ∈ cLT ++ [45] := fun c hc => hnm.2.2.2.2 c (List.mem_of_mem_take hc)
          have hhc : ∀ c ∈ [45, 45] ++ o.nm.take (1 + d.toNat), c ∈ cLT ++ [45] := by
            intro c hc
            rcases List.mem_append.mp hc with e | e
            · have : c = 45 := by simpa using e
              rw [this]; decide
            · exact hpc c e
          have hcost := cost_plain hhc
          have hhl : ([45, 45] ++ o.nm.take (1 + d.toNat)).length ≤ 7 := by rw [List.length_append]; simp at hpl ⊢; omega
          have r36 := r35.trans r6
          walk_at "s"
          refine iteN (isNon_kd hk) ?_
          walk_at "s"
          have hhne : [45, 45] ++ o.nm.take (1 + d.toNat) ≠ [] := by simp
          generalize [45, 45] ++ o.nm.take (1 + d.toNat) = hd at hhc hcost hhl hhne ⊢
          have hHPs : P6 q = some (.lst (ts.map .str)) := (r36.at hqa).trans hP
          have hpick : ∃ new : List (List Nat), new.length ≤ 2 ∧ (∀ t ∈ new, TkOk t) ∧ (new.map tcost).sum ≤ 16 ∧ atI [Wv.lst [.str (hd ++ [61] ++ x)], .lst [.str hd, .str x]] (wy % 2) = some (.lst (new.map .str)) := by
            have hcx := cost_le x
            have hok1 : TkOk hd := ⟨by omega, fun c hc => LTH_AB c (hhc c hc)⟩
            have : wy % 2 = 0 ∨ wy % 2 = 1 := by omega
            rcases this with e | e
            · refine ⟨[hd ++ [61] ++ x], by simp, ?_, ?_, by rw [e]; rfl⟩
              · intro t ht
                rw [List.mem_singleton.mp ht]
                refine ⟨by rw [List.length_append, List.length_append]; simp; omega, fun c hc => ?_⟩
                rcases List.mem_append.mp hc with e | e
                · rcases List.mem_append.mp e with e | e
                  · exact LTH_AB c (hhc c e)
                  · rw [List.mem_singleton.mp e]; decide
                · exact hxc c e
              · simp only [List.map_cons, List.map_nil, List.sum_cons, List.sum_nil]
                have h61 : cost [61] = 1 := by decide
                have := tcost_le (t := hd ++ [61] ++ x) (n := 16) (by rw [cost_app, cost_app]; omega) (by decide)
                omega
            · refine ⟨[hd, x], by simp, ?_, ?_, by rw [e]; rfl⟩
              · intro t ht
                rcases List.mem_cons.mp ht with z | z
                · rw [z]; exact hok1
                · rw [List.mem_singleton.mp z]; exact ⟨by omega, hxc⟩
              · simp only [List.map_cons, List.map_nil, List.sum_cons, List.sum_nil]
                have h1 := tcost_le (t := hd) (n := 7) (by omega) (by decide)
                have h2 := tcost_le (t := x) (n := 8) (by omega) (by decide)
                omega
          obtain ⟨new, hn1, hn2, hn3, hat⟩ := hpick
          refine st_opt (e_ixL rfl hat) ?_
          refine st_opt (e_catN (lstP_at hHPs) rfl (by rw [List.length_map, List.length_map]; omega)) ?_
          intro q2 hq2
          have sub6 := RowP.del sub r36
          have hq2a := row_ne r36.row hq2
          refine fin q2 new _ _ _ _ _ _ _ _ _ hq2a (del_none sub6 hq2 hq2a) (by rw [updP_same, List.map_append]) (SubP.new (delP_none (del_none sub6 hq2 hq2a)) sub6) (r36.row.upd (Ne.symm hq2a)) hn1 hn2 hn3
        · refine iteN (decide_eq_false c1) ?_
          have rest : ∀ (G : Env), G.length = 0 → True := fun _ _ => trivial
          walk_at "s"
          by_cases c2 : wy < 6
          · refine iteY (decide_eq_true c2) ?_
            walk_at "s"
            by_cases hl0 : o.lt = []
            · refine iteN (by simp [hl0]) ?_
              walk_at "s"
              by_cases c6 : wy = 6
              · refine iteY (decide_eq_true c6) ?_
                walk_at "s"
                refine ⟨⟨q, _, rfl, (r35.at hqa).trans hP⟩, ?_⟩
                walk_at "s"
                refine ⟨ns, 4, rfl, r35.row, by decide, fun l P6 hl r6 => ?_⟩
                have r36 := r35.trans r6
                refine st_opt (lstM_at ((r36.at hqa).trans hP)) ?_
                refine ⟨by show (ts.map Wv.str).length < 1000000; rw [List.length_map]; omega, ?_⟩
                refine fin q [l] _ _ _ _ _ _ _ _ _ hqa hqn (by rw [updP_same, List.map_append]; try rfl) (SubP.new (delP_none hqn) (RowP.del sub r36)) (r36.row.upd (Ne.symm hqa)) (by simp) ?_ ?_
                · intro t ht
                  rw [List.mem_singleton.mp ht]
                  exact ⟨by have := hl.1; omega, hl.2⟩
                · simp only [List.map_cons, List.map_nil, List.sum_cons, List.sum_nil]
                  have := tcost_le (t := l) (n := 8) (Nat.le_trans (cost_le l) (by have := hl.1; omega)) (by decide)
                  omega
              · refine iteN (decide_eq_false c6) ?_
                walk_at "s"
                refine ⟨⟨q, _, rfl, (r35.at hqa).trans hP⟩, ?_⟩
                walk_at "s"
                refine ⟨ns, r35.row, by decide, by decide, fun u P6 hu0 hu1 r6 => ?_⟩
                obtain ⟨l, hat9, hl1, hl2⟩ := fixed9 u hu0 hu1
                refine st_opt (e_ixL rfl hat9) ?_
                have r36 := r35.trans r6
                refine st_opt (lstM_at ((r36.at hqa).trans hP)) ?_
                refine ⟨by show (ts.map Wv.str).length < 1000000; rw [List.length_map]; omega, ?_⟩
                refine fin q [l] _ _ _ _ _ _ _ _ _ hqa hqn (by rw [updP_same, List.map_append]; try rfl) (SubP.new (delP_none hqn) (RowP.del sub r36)) (r36.row.upd (Ne.symm hqa)) (by simp) ?_ ?_
                · intro t ht
                  rw [List.mem_singleton.mp ht]
                  exact ⟨by omega, hl2⟩
                · simp only [List.map_cons, List.map_nil, List.sum_cons, List.sum_nil]
                  have := tcost_le (t := l) (n := 10) (Nat.le_trans (cost_le l) (by omega)) (by decide)
                  omega
            · refine iteY (by simp [hl0]) ?_
              obtain ⟨lc, hlc, hlcm⟩ := hlt.resolve_left hl0
              walk_at "s"
              by_cases c3 : wy < 5
              · refine iteY (decide_eq_true c3) ?_
                walk_at "s"
                refine ⟨⟨q, _, rfl, (r35.at hqa).trans hP⟩, ?_⟩
                walk_at "s"
                refine st_opt (lstM_at ((r35.at hqa).trans hP)) ?_
                refine ⟨by show (ts.map Wv.str).length < 1000000; rw [List.length_map]; omega, ?_⟩
                refine fin q ([[45] ++ o.lt ++ x]) _ _ _ _ _ _ _ _ _ hqa hqn (by rw [updP_same, List.map_append]; try rfl) (SubP.new (delP_none hqn) (RowP.del sub r35)) (r35.row.upd (Ne.symm hqa)) (by simp) ?_ ?_
                · intro t ht
                  rw [List.mem_singleton.mp ht]
                  exact bun_ok hlc hlcm hxl hxc
                · simp only [List.map_cons, List.map_nil, List.sum_cons, List.sum_nil]
                  have := bun_cost (x := x) hlc hlcm hxl
                  omega
              · refine iteN (decide_eq_false c3) ?_
                walk_at "s"
                refine ⟨⟨q, _, rfl, (r35.at hqa).trans hP⟩, ?_⟩
                walk_at "s"
                refine st_opt (lstM_at ((r35.at hqa).trans hP)) ?_
                refine ⟨by show (ts.map Wv.str).length < 1000000; rw [List.length_map]; omega, ?_⟩
                have sub5 : SubP (delP Ps a) (updP P5 q (SO.lst (ts.map .str ++ [.str ([45] ++ o.lt)]))) := SubP.new (delP_none hqn) (RowP.del sub r35)
                have hP5 : updP P5 q (SO.lst (ts.map .str ++ [.str ([45] ++ o.lt)])) q = some (.lst (ts.map .str ++ [.str ([45] ++ o.lt)])) := updP_same
                walk_at "s"
                rw [isNon_kd hk]
                walk_at "s"
                refine st_opt (e_catN (b := [.str x]) (lstP_at hP5) rfl (by simp; omega)) ?_
                intro q2 hq2
                have hrow5 : RowAt (updP P5 q (SO.lst (ts.map .str ++ [.str ([45] ++ o.lt)]))) a ns := r35.row.upd (Ne.symm hqa)
                have hq2a := row_ne hrow5 hq2
                refine fin q2 [[45] ++ o.lt, x] _ _ _ _ _ _ _ _ _ hq2a (del_none sub5 hq2 hq2a) (by rw [updP_same, List.append_assoc, List.map_append]; try rfl) (SubP.new (delP_none (del_none sub5 hq2 hq2a)) sub5) (hrow5.upd (Ne.symm hq2a)) (by simp) ?_ ?_
                · intro t ht
                  rcases List.mem_cons.mp ht with z | z
                  · rw [z]
                    exact (by have := bun_ok (x := []) hlc hlcm (by simp) (by simp); rw [List.append_nil] at this; exact this)
                  · rw [List.mem_singleton.mp z]
                    exact ⟨by omega, hxc⟩
                · simp only [List.map_cons, List.map_nil, List.sum_cons, List.sum_nil]
                  have h0 := bun_cost (x := []) hlc hlcm (by simp)
                  simp only [List.append_nil, List.length_nil, Nat.mul_zero, Nat.add_zero] at h0
                  have h2 := tcost_le (t := x) (n := 8) (Nat.le_trans (cost_le x) (by omega)) (by decide)
                  omega
          · refine iteN (decide_eq_false c2) ?_
            walk_at "s"
            by_cases c6 : wy = 6
            · refine iteY (decide_eq_true c6) ?_
              walk_at "s"
              refine ⟨⟨q, _, rfl, (r35.at hqa).trans hP⟩, ?_⟩
              walk_at "s"
              refine ⟨ns, 4, rfl, r35.row, by decide, fun l P6 hl r6 => ?_⟩
              have r36 := r35.trans r6
              refine st_opt (lstM_at ((r36.at hqa).trans hP)) ?_
              refine ⟨by show (ts.map Wv.str).length < 1000000; rw [List.length_map]; omega, ?_⟩
              refine fin q [l] _ _ _ _ _ _ _ _ _ hqa hqn (by rw [updP_same, List.map_append]; try rfl) (SubP.new (delP_none hqn) (RowP.del sub r36)) (r36.row.upd (Ne.symm hqa)) (by simp) ?_ ?_
              · intro t ht
                rw [List.mem_singleton.mp ht]
                exact ⟨by have := hl.1; omega, hl.2⟩
              · simp only [List.map_cons, List.map_nil, List.sum_cons, List.sum_nil]
                have := tcost_le (t := l) (n := 8) (Nat.le_trans (cost_le l) (by have := hl.1; omega)) (by decide)
                omega
            · refine iteN (decide_eq_false c6) ?_
              walk_at "s"
              refine ⟨⟨q, _, rfl, (r35.at hqa).trans hP⟩, ?_⟩
              walk_at "s"
              refine ⟨ns, r35.row, by decide, by decide, fun u P6 hu0 hu1 r6 => ?_⟩
              obtain ⟨l, hat9, hl1, hl2⟩ := fixed9 u hu0 hu1
              refine st_opt (e_ixL rfl hat9) ?_
              have r36 := r35.trans r6
              refine st_opt (lstM_at ((r36.at hqa).trans hP)) ?_
              refine ⟨by show (ts.map Wv.str).length < 1000000; rw [List.length_map]; omega, ?_⟩
              refine fin q [l] _ _ _ _ _ _ _ _ _ hqa hqn (by rw [updP_same, List.map_append]; try rfl) (SubP.new (delP_none hqn) (RowP.del sub r36)) (r36.row.upd (Ne.symm hqa)) (by simp) ?_ ?_
              · intro t ht
                rw [List.mem_singleton.mp ht]
                exact ⟨by omega, hl2⟩
              · simp only [List.map_cons, List.map_nil, List.sum_cons, List.sum_nil]
                have := tcost_le (t := l) (n := 10) (Nat.le_trans (cost_le l) (by omega)) (by decide)
                omega
    · rintro G2 P2 ⟨q, ts, y4, y5, y6, y7, y8, y9, y10, y11, rfl, sub, hrow, hqa, hqn, hP, hts, hi7⟩
      walk_at "s"
      refine st_pub hP ?_
      have sub2 : SubP (delP Ps a) (delP P2 q) := SubP.delR sub (delP_none hqn)
      have hrow2 : RowAt (delP P2 q) a ns := by
        obtain ⟨p, s, t, h1, h2⟩ := hrow
        exact ⟨p, s, t, by rw [delP_ne (Ne.symm hqa)]; exact h1, h2⟩
      obtain ⟨P', rP, subP⟩ := RowP.fin sub2 hrow2
      rw [rngW_len] at hts
      exact fin_sub subP (h ts P' ⟨by have := hts.1; omega, hts.2.1, by have := hts.2.2; omega⟩ rP)
end Fc
namespace Fc
open PySem PySem.Spec PyProof.Rows L2
local macro_rules | `(tactic| walk_at "s") => `(tactic| repeat (first
  | refine st_opt rfl ?_
  | refine st_opt (e_len (by first | assumption | omega)) ?_
  | refine st_opt (e_addS (by first | decide | omega | (simp; done) | (simp; omega))) ?_
  | refine st_opt (fldW_at (by first | assumption | exact updP_same) rfl) ?_
  | refine st_opt (insOf_at (by first | assumption | exact updP_same)) ?_
  | refine st_ble rfl ?_
  | refine st_blt rfl ?_
  | refine st_eqr ?_))
def s__law_digits (_ : PySem.W.Frag) : WSp := fun ws P Po => match ws with
  | [.str x] => x.length ≤ 300 ∧ (∀ c ∈ x, c ∈ cAB) ∧ Po (.lst ((lawDigits x).map .int)) P
  | _ => False
theorem numD_some {d : List Nat} (h1 : d ≠ []) (h2 : d.length ≤ 4) (h3 : badD d = []) : PySem.intText? (S d) = some (numD d) := by
  have hd : ∀ c ∈ d, c ∈ cDG := by
    intro c hc
    have := List.filter_eq_nil_iff.mp h3 c hc
    simpa using this
  have hr : ∀ c ∈ cDG, 48 ≤ c ∧ c ≤ 57 := by decide
  have h := SX.int_S (a := d) (List.all_eq_true.mpr fun c hc => by
    have := hr c (hd c hc)
    simp only [Bool.and_eq_true, decide_eq_true_eq]
    exact this) h1 (by omega)
  have h' : PySem.intText? (S d) = _ := h
  unfold numD
  rw [h']
  rfl
theorem inW_ints {P : Pst} {i : Int} {y : Wv} {ls : List Int} (h : seqP P y = some (ls.map .int)) : inW P (.int i) y = some (decide (i ∈ ls)) := by
  unfold inW
  simp only [h, Option.bind_some, intsOf_map, Option.map_some]
def onC (b : Nat → Bool) : Wv → Bool
  | .str [c] => b c
  | _ => false
theorem filter_sgn (d : List Nat) (b : Nat → Bool) : ((sgnW d).filter (onC b)).map (fun w => w) = ((d.filter b).map fun c => [c]).map Wv.str := by
  rw [List.map_id']
  unfold sgnW
  induction d with
  | nil => rfl
  | cons c r ih =>
    rw [List.map_cons, List.filter_cons, List.filter_cons]
    have e : onC b (.str [c]) = b c := rfl
    rw [e]
    cases b c with
    | true => rw [if_pos rfl, if_pos rfl, ih]; rfl
    | false => rw [if_neg Bool.false_ne_true, if_neg Bool.false_ne_true, ih]
theorem sc__law_digits : FnScope ["_law_text", "_law_digits_here", "_law_sign"] ["_law_text"] (defScope x__law_digits) := ⟨rfl, rfl, rfl, by decide +kernel, rfl, by decide +kernel, by decide +kernel⟩
theorem cl__law_digits {P : Program} {w : World} {K : PySem.W.Frag} {mg : Str → Option Value} {base : Heap} (T : Txt K mg)  : Cl P w K mg base 1 "_law_digits" (s__law_digits K) := by
  obtain ⟨fd, F⟩ := T.d__law_digits
  refine cl_of F T.g__law_digits sc__law_digits (fun ws Ps Po h => ?len) (fun _ _ _ _ _ _ us hl => match us, hl with | [_], _ => rfl) (fun cdv A outer sh H E hr => ⟨_, _,
      (pss_cons (ps_set (i := 1) sc__law_digits.nd rfl (by first | exact Or.inl rfl | exact Or.inr rfl) (pe_ifExp (pt_cmpR op_eq (pe_slice sl_str (pv 0) po_none (po_some pe_int)) pe_str (nomark _)) (pe_slice sl_str (pv 0) (po_some pe_int) po_none) (pv 0)))
      (pss_cons (ps_if (PW.pt (pw_or (pt_cmpR op_notIn_seq (pe_callB call_lenQ (by rfl) T.f_len boot_len (pa_cons (pv 1) pa_nil)) (pe_tup (pa_cons pe_int (pa_cons pe_int (pa_cons pe_int (pa_cons pe_int pa_nil))))) (by first | exact nomark _ | rfl)) (pw_or1 (pt_cmpR (op_neD hr.units) (pe_lc (own := [("_law_sign", 2)]) rfl sc__law_digits.nd (pi_str (pv 1)) (blkOk_by (own := [("_law_sign", 2)]) (N := ["_law_text", "_law_digits_here", "_law_sign"]) (sc := defScope x__law_digits) (by decide +kernel)) (fun _ _ _ _ _ => (pg_name (i := 2) sc__law_digits.nd rfl (by first | exact Or.inl rfl | exact Or.inr rfl))) (fun _ _ _ _ _ => (pts_one (pt_cmpR op_notInS (pv 2) pe_str rfl))) (fun _ _ _ _ _ => (pv 2))) (pe_lst pa_nil) (nomark _)))))
      (pss_one (ps_ret (pe_lst pa_nil)))
      pss_nil)
      (pss_cons (ps_if (PW.pt (pw_and (pt_cmpR op_eq (pe_ix ix_seq (pv 1) pe_int (fun _ _ => rfl)) pe_str (nomark _)) (pw_and1 (pt_cmpR op_ne (pv 0) pe_str (nomark _)))))
      (pss_one (ps_ret (pe_lst pa_nil)))
      pss_nil)
      (pss_one (ps_ret (pe_ifExp (pt_cmpR op_eq (pe_ix ix_seq (pv 0) pe_int (fun _ _ => rfl)) pe_str (nomark _)) (pe_lst (pa_cons (pe_op op_sub pe_int (pe_callTy call_intQ (by rfl) T.f_int (by decide +kernel) (pa_cons (pv 1) pa_nil))) pa_nil)) (pe_lst (pa_cons (pe_callTy call_intQ (by rfl) T.f_int (by decide +kernel) (pa_cons (pv 1) pa_nil)) pa_nil)))))))),
      (ds_seq (ds_asg (de_if (dt_test (de_op rd_eq (de_sl rd_slS (de_var 0) do_none (do_some (de_int 1))) (de_str k1))) (de_sl rd_slS (de_var 0) (do_some (de_int 1)) do_none) (de_var 0)) (dg_name 1))
      (ds_seq (ds_if (dt_or (dt_test (de_op (rd_in (n := true)) (de_cb rd_len (da_cons (de_var 1) da_nil)) (de_tup (da_cons (de_int 1) (da_cons (de_int 2) (da_cons (de_int 3) (da_cons (de_int 4) da_nil))))))) (dt_test (de_op rd_neD (de_lc (di_str (de_var 1)) (dg_name 2) (dt_test (de_op rd_notInS (de_var 2) (de_str k7))) (de_var 2) (by decide)) (de_lst da_nil))))
      (ds_ret (de_lst da_nil))
      ds_next)
      (ds_seq (ds_if (dt_and (dt_test (de_op rd_eq (de_op rd_ix (de_var 1) (de_int 0)) (de_str k18))) (dt_test (de_op rd_ne (de_var 0) (de_str k18))))
      (ds_ret (de_lst da_nil))
      ds_next)
      (ds_ret (de_if (dt_test (de_op rd_eq (de_op rd_ix (de_var 0) (de_int 0)) (de_str k1))) (de_lst (da_cons (de_op rd_sub (de_int 0) (de_cb rd_int (da_cons (de_var 1) da_nil))) da_nil)) (de_lst (da_cons (de_cb rd_int (da_cons (de_var 1) da_nil)) da_nil))))))), fun ws Ps Po h => ?body⟩)
  case len =>
    unfold s__law_digits at h
    split at h
    · rfl
    · exact h.elim
  case body =>
    unfold s__law_digits at h
    split at h
    rotate_left
    · exact h.elim
    rename_i x
    obtain ⟨hx, hab, h⟩ := h
    walk_at "s"
    refine st_opt (e_slS (by omega)) ?_
    rw [show cutW x none (some 1) = x.take 1 from cutW_to x 1]
    walk_at "s"
    by_cases ht : x.take 1 = [45]
    · refine iteY (by simp [ht]) ?_
      walk_at "s"
      refine st_opt (e_slS (by omega)) ?_
      rw [show cutW x (some 1) none = x.drop 1 from cutW_from x 1]
      have hdg : digB x = x.drop 1 := if_pos ht
      obtain ⟨d, hd⟩ : ∃ d, d = x.drop 1 := ⟨_, rfl⟩
      rw [← hd] at hdg ⊢
      have hdl : d.length ≤ 300 := by rw [hd, List.length_drop]; omega
      have hdab : ∀ c ∈ d, c ∈ cAB := fun c hc => hab c (by rw [hd] at hc; exact List.mem_of_mem_drop hc)
      walk_at "s"
      by_cases hlen : 1 ≤ d.length ∧ d.length ≤ 4
      · refine iteN (by simp; omega) ?_
        walk_at "s"
        refine lc_fm (onC fun c => !decide (c ∈ cDG)) (fun w => w) trivial (by rw [show (sgnW d).length = d.length from List.length_map _]; omega) (fun i w acc hw I => ?_) ?_
        · obtain ⟨c, _, hc, rfl⟩ := sgnW_get hw
          walk_at "s"
          by_cases hcd : c ∈ cDG
          · refine iteN (by simp [hcd]) ?_
            exact wx_no hw I (by show (!decide (c ∈ cDG)) = false; simp [hcd])
          · refine iteY (by simp [hcd]) ?_
            walk_at "s"
            exact wx_yes hw I (by show (!decide (c ∈ cDG)) = true; simp [hcd]) rfl
        · rw [filter_sgn]
          walk_at "s"
          refine st_opt (e_eqL (n := true) (b := []) (datP_strs _) datP_nilL ?_ (by simp)) ?_
          · intro l hl
            obtain ⟨c, hc, rfl⟩ := List.mem_map.mp hl
            refine okT_AB fun e he => ?_
            rw [List.mem_singleton.mp he]
            exact hdab c (List.mem_filter.mp hc).1
          · by_cases hb : badD d = []
            · refine iteN (by unfold badD at hb; simp only [if_pos]; rw [hb]; rfl) ?_
              have hdne : d ≠ [] := by intro e; subst e; simp at hlen
              obtain ⟨c0, hc0⟩ : ∃ c, d[0]? = some c := ⟨d[0], List.getElem?_eq_getElem (by omega)⟩
              have hnum := numD_some hdne hlen.2 hb
              have hxne : x ≠ [] := by intro e; rw [hd, e] at hdne; exact hdne rfl
              obtain ⟨x0, hx0⟩ : ∃ c, x[0]? = some c := by cases x with
                | nil => exact absurd rfl hxne
                | cons y r => exact ⟨y, rfl⟩
              have hx045 : x.take 1 = [45] ↔ x0 = 45 := by
                cases x with
                | nil => exact absurd rfl hxne
                | cons y r => simp at hx0; subst hx0; simp
              walk_at "s"
              refine st_opt (e_ixS (by omega) (c := c0) ((atI_natL d 0).trans hc0)) ?_
              walk_at "s"
              have fin : (¬ (d[0]? = some 48 ∧ x ≠ [48])) → ∀ G2, dIf (dTest (dOp fEq (dOp ixW (dVar 0) (dC (.int 0))) (dC (.str [45])))) (dLst (dCons (dOp fSub (dC (.int 0)) (dCB fInt (dCons (dVar 1) dNil))) dNil)) (dLst (dCons (dCB fInt (dCons (dVar 1) dNil)) dNil)) (some (.str x) :: some (.str d) :: G2) Ps fun w P1 => (finD Po).rt w P1 := by
                intro hz G2
                walk_at "s"
                refine st_opt (e_ixS (by omega) (c := x0) ((atI_natL x 0).trans hx0)) ?_
                walk_at "s"
                unfold lawDigits at h
                rw [hdg, if_neg (by intro z; rcases z with z | z; exact z hlen; exact z hb), if_neg hz] at h
                by_cases h45 : x0 = 45
                · refine iteY (by simp [h45]) ?_
                  walk_at "s"
                  refine st_opt (e_intS (by omega) hnum) ?_
                  walk_at "s"
                  rw [if_pos (hx045.mpr h45)] at h
                  exact fin_here h
                · refine iteN (by simp [h45]) ?_
                  walk_at "s"
                  refine st_opt (e_intS (by omega) hnum) ?_
                  walk_at "s"
                  rw [if_neg (fun z => h45 (hx045.mp z))] at h
                  exact fin_here h
              by_cases h48 : c0 = 48
              · refine iteY (by simp [h48]) ?_
                walk_at "s"
                by_cases hx48 : x = [48]
                · refine iteN (by simp [hx48]) ?_
                  exact fin (fun z => z.2 hx48) _
                · refine iteY (by simp [hx48]) ?_
                  walk_at "s"
                  unfold lawDigits at h
                  rw [hdg, if_neg (by intro z; rcases z with z | z; exact z hlen; exact z hb), if_pos ⟨by rw [hc0, h48], hx48⟩] at h
                  exact fin_here h
              · refine iteN (by simp [h48]) ?_
                exact fin (fun z => h48 (by rw [hc0] at z; exact Option.some.inj z.1)) _
            · refine iteY (by unfold badD at hb; simpa using hb) ?_
              walk_at "s"
              unfold lawDigits at h
              rw [hdg, if_pos (.inr hb)] at h
              exact fin_here h
      · refine iteY (by simp; omega) ?_
        walk_at "s"
        unfold lawDigits at h
        rw [hdg, if_pos (.inl hlen)] at h
        exact fin_here h
    · refine iteN (by simp [ht]) ?_
      have hdg : digB x = x := if_neg ht
      walk_at "s"
      have hdl : x.length ≤ 300 := by exact hx
      have hdab : ∀ c ∈ x, c ∈ cAB := hab
      walk_at "s"
      by_cases hlen : 1 ≤ x.length ∧ x.length ≤ 4
      · refine iteN (by simp; omega) ?_
        walk_at "s"
        refine lc_fm (onC fun c => !decide (c ∈ cDG)) (fun w => w) trivial (by rw [show (sgnW x).length = x.length from List.length_map _]; omega) (fun i w acc hw I => ?_) ?_
        · obtain ⟨c, _, hc, rfl⟩ := sgnW_get hw
          walk_at "s"
          by_cases hcd : c ∈ cDG
          · refine iteN (by simp [hcd]) ?_
            exact wx_no hw I (by show (!decide (c ∈ cDG)) = false; simp [hcd])
          · refine iteY (by simp [hcd]) ?_
            walk_at "s"
            exact wx_yes hw I (by show (!decide (c ∈ cDG)) = true; simp [hcd]) rfl
        · rw [filter_sgn]
          walk_at "s"
          refine st_opt (e_eqL (n := true) (b := []) (datP_strs _) datP_nilL ?_ (by simp)) ?_
          · intro l hl
            obtain ⟨c, hc, rfl⟩ := List.mem_map.mp hl
            refine okT_AB fun e he => ?_
            rw [List.mem_singleton.mp he]
            exact hdab c (List.mem_filter.mp hc).1
          · by_cases hb : badD x = []
            · refine iteN (by unfold badD at hb; simp only [if_pos]; rw [hb]; rfl) ?_
              have hdne : x ≠ [] := by intro e; subst e; simp at hlen
              obtain ⟨c0, hc0⟩ : ∃ c, x[0]? = some c := ⟨x[0], List.getElem?_eq_getElem (by omega)⟩
              have hnum := numD_some hdne hlen.2 hb
              have hxne : x ≠ [] := hdne
              obtain ⟨x0, hx0⟩ : ∃ c, x[0]? = some c := by cases x with
                | nil => exact absurd rfl hxne
                | cons y r => exact ⟨y, rfl⟩
              have hx045 : x.take 1 = [45] ↔ x0 = 45 := by
                cases x with
                | nil => exact absurd rfl hxne
                | cons y r => simp at hx0; subst hx0; simp
              walk_at "s"
              refine st_opt (e_ixS (by omega) (c := c0) ((atI_natL x 0).trans hc0)) ?_
              walk_at "s"
              have fin : (¬ (x[0]? = some 48 ∧ x ≠ [48])) → ∀ G2, dIf (dTest (dOp fEq (dOp ixW (dVar 0) (dC (.int 0))) (dC (.str [45])))) (dLst (dCons (dOp fSub (dC (.int 0)) (dCB fInt (dCons (dVar 1) dNil))) dNil)) (dLst (dCons (dCB fInt (dCons (dVar 1) dNil)) dNil)) (some (.str x) :: some (.str x) :: G2) Ps fun w P1 => (finD Po).rt w P1 := by
                intro hz G2
                walk_at "s"
                refine st_opt (e_ixS (by omega) (c := x0) ((atI_natL x 0).trans hx0)) ?_
                walk_at "s"
                unfold lawDigits at h
                rw [hdg, if_neg (by intro z; rcases z with z | z; exact z hlen; exact z hb), if_neg hz] at h
                by_cases h45 : x0 = 45
                · refine iteY (by simp [h45]) ?_
                  walk_at "s"
                  refine st_opt (e_intS (by omega) hnum) ?_
                  walk_at "s"
                  rw [if_pos (hx045.mpr h45)] at h
                  exact fin_here h
                · refine iteN (by simp [h45]) ?_
                  walk_at "s"
                  refine st_opt (e_intS (by omega) hnum) ?_
                  walk_at "s"
                  rw [if_neg (fun z => h45 (hx045.mp z))] at h
                  exact fin_here h
              by_cases h48 : c0 = 48
              · refine iteY (by simp [h48]) ?_
                walk_at "s"
                by_cases hx48 : x = [48]
                · refine iteN (by simp [hx48]) ?_
                  exact fin (fun z => z.2 hx48) _
                · refine iteY (by simp [hx48]) ?_
                  walk_at "s"
                  unfold lawDigits at h
                  rw [hdg, if_neg (by intro z; rcases z with z | z; exact z hlen; exact z hb), if_pos ⟨by rw [hc0, h48], hx48⟩] at h
                  exact fin_here h
              · refine iteN (by simp [h48]) ?_
                exact fin (fun z => h48 (by rw [hc0] at z; exact Option.some.inj z.1)) _
            · refine iteY (by unfold badD at hb; simpa using hb) ?_
              walk_at "s"
              unfold lawDigits at h
              rw [hdg, if_pos (.inr hb)] at h
              exact fin_here h
      · refine iteY (by simp; omega) ?_
        walk_at "s"
        unfold lawDigits at h
        rw [hdg, if_pos (.inl hlen)] at h
        exact fin_here h
end Fc
namespace Fc
open PySem PySem.Spec PyProof.Rows L2
local macro_rules | `(tactic| walk_at "s") => `(tactic| repeat (first
  | refine st_opt rfl ?_
  | refine st_opt (e_len (by first | assumption | omega)) ?_
  | refine st_opt (e_addS (by first | decide | omega | (simp; done) | (simp; omega))) ?_
  | refine st_opt (fldW_at (by first | assumption | exact updP_same) rfl) ?_
  | refine st_opt (insOf_at (by first | assumption | exact updP_same)) ?_
  | refine st_ble rfl ?_
  | refine st_blt rfl ?_
  | refine st_eqr ?_))
def TxOk (x : List Nat) : Prop := x.length ≤ 300 ∧ ∀ c ∈ x, c ∈ cAB
def s__law_value (_ : PySem.W.Frag) : WSp := fun ws P Po => match ws with
  | [w, .str x] => ∃ k, w = Kd.w k ∧ k ≠ .non ∧ KdOk k ∧ TxOk x ∧ Po (.lst (lawValue k x)) P
  | _ => False
def onI (b : Int → Bool) : Wv → Bool
  | .int i => b i
  | _ => false
theorem filter_ints (ls : List Int) (b : Int → Bool) : ((ls.map Wv.int).filter (onI b)).map (fun w => w) = (ls.filter b).map Wv.int := by
  rw [List.map_id']
  induction ls with
  | nil => rfl
  | cons c r ih =>
    rw [List.map_cons, List.filter_cons, List.filter_cons]
    have e : onI b (.int c) = b c := rfl
    rw [e]
    cases b c with
    | true => rw [if_pos rfl, if_pos rfl, ih]; rfl
    | false => rw [if_neg Bool.false_ne_true, if_neg Bool.false_ne_true, ih]
theorem lawDigits_len (x : List Nat) : (lawDigits x).length ≤ 1 := by
  unfold lawDigits
  split
  · simp
  · split
    · simp
    · split <;> simp
theorem sc__law_value : FnScope ["_law_kind_here", "_law_text", "_law_some", "_law_word_here", "_law_number"] ["_law_kind_here", "_law_text"] (defScope x__law_value) := ⟨rfl, rfl, rfl, by decide +kernel, rfl, by decide +kernel, by decide +kernel⟩
theorem cl__law_value {P : Program} {w : World} {K : PySem.W.Frag} {mg : Str → Option Value} {base : Heap} (T : Txt K mg) (G__law_digits : Cl P w K mg base 1 "_law_digits" (s__law_digits K)) : Cl P w K mg base 2 "_law_value" (s__law_value K) := by
  obtain ⟨fd, F⟩ := T.d__law_value
  refine cl_of F T.g__law_value sc__law_value (fun ws Ps Po h => ?len) (fun _ _ _ _ _ _ us hl => match us, hl with | [_, _], _ => rfl) (fun cdv A outer sh H E hr => ⟨_, _,
      (pss_cons (ps_if (pt_cmpR op_eq (pe_ix ix_seq (pv 0) pe_int (fun _ _ => rfl)) pe_str (nomark _))
      (pss_one (ps_ret (pe_lst (pa_cons (pv 1) pa_nil))))
      pss_nil)
      (pss_cons (ps_if (pt_cmpR op_eq (pe_ix ix_seq (pv 0) pe_int (fun _ _ => rfl)) pe_str (nomark _))
      (pss_one (ps_ret (pe_lc (own := [("_law_number", 4)]) rfl sc__law_value.nd (pi_list (pe_cl G__law_digits hr (by decide) (by rfl) (pa_cons (pv 1) pa_nil))) (blkOk_by (own := [("_law_number", 4)]) (N := ["_law_kind_here", "_law_text", "_law_some", "_law_word_here", "_law_number"]) (sc := defScope x__law_value) (by decide +kernel)) (fun _ _ _ _ _ => (pg_name (i := 4) sc__law_value.nd rfl (by first | exact Or.inl rfl | exact Or.inr rfl))) (fun _ _ _ _ _ => (pts_one (pt_chain op_le op_le (pe_ix ix_seq (pv 0) pe_int (fun _ _ => rfl)) (pv 4) (pe_ix ix_seq (pv 0) pe_int (fun _ _ => rfl))))) (fun _ _ _ _ _ => (pv 4)))))
      pss_nil)
      (pss_cons (ps_if (pt_cmpR op_in_seq (pv 1) (pe_ix ix_seq (pv 0) pe_int (fun _ _ => rfl)) (by first | exact nomark _ | rfl))
      (pss_one (ps_ret (pe_lst (pa_cons (pv 1) pa_nil))))
      pss_nil)
      (pss_cons (ps_setLc (i := 2) (own := [("_law_word_here", 3)]) rfl sc__law_value.nd rfl rfl (sw_true rfl rfl rfl (by decide +kernel)) (pi_tup (pe_ix ix_seq (pv 0) pe_int (fun _ _ => rfl))) (blkOk_by (own := [("_law_word_here", 3)]) (N := ["_law_kind_here", "_law_text", "_law_some", "_law_word_here", "_law_number"]) (sc := defScope x__law_value) (by decide +kernel)) (fun _ _ _ _ _ => (pg_name (i := 3) sc__law_value.nd rfl (by first | exact Or.inl rfl | exact Or.inr rfl))) (fun _ _ _ _ _ => (pts_one (PW.pt (pw_and (pt_cmpR op_ne (pv 1) pe_str (nomark _)) (pw_and1 (pt_val (pe_m1 PySem.F.slot_str_startswith PySem.F.type_str_startswith mt_startQ (pv 3) (pv 1)))))))) (fun _ _ _ _ _ => (pv 3)))
      (pss_one (ps_ret (pe_ifExp (pt_cmpR op_eq (pe_callB call_lenQ (by rfl) T.f_len boot_len (pa_cons (pv 2) pa_nil)) pe_int (nomark _)) (pv 2) (pe_lst pa_nil)))))))),
      (ds_seq (ds_if (dt_test (de_op rd_eq (de_op rd_ix (de_var 0) (de_int 0)) (de_str k12)))
      (ds_ret (de_lst (da_cons (de_var 1) da_nil)))
      ds_next)
      (ds_seq (ds_if (dt_test (de_op rd_eq (de_op rd_ix (de_var 0) (de_int 0)) (de_str k10)))
      (ds_ret (de_lc (di_list (de_call (da_cons (de_var 1) da_nil))) (dg_name 4) (dt_test (de_chain rd_le rd_le (de_op rd_ix (de_var 0) (de_int 1)) (de_var 4) (de_op rd_ix (de_var 0) (de_int 2)))) (de_var 4) (by decide)))
      ds_next)
      (ds_seq (ds_if (dt_test (de_op (rd_in (n := false)) (de_var 1) (de_op rd_ix (de_var 0) (de_int 1))))
      (ds_ret (de_lst (da_cons (de_var 1) da_nil)))
      ds_next)
      (ds_seq (ds_asg (de_lc (di_tup (de_op rd_ix (de_var 0) (de_int 1))) (dg_name 3) (dt_and (dt_test (de_op rd_ne (de_var 1) (de_str k14))) (dt_B (de_m1 rd_start (de_var 3) (de_var 1)))) (de_var 3) (by decide)) (dg_name 2))
      (ds_ret (de_if (dt_test (de_op rd_eq (de_cb rd_len (da_cons (de_var 2) da_nil)) (de_int 1))) (de_var 2) (de_lst da_nil))))))), fun ws Ps Po h => ?body⟩)
  case len =>
    unfold s__law_value at h
    split at h
    · rfl
    · exact h.elim
  case body =>
    unfold s__law_value at h
    split at h
    rotate_left
    · exact h.elim
    rename_i w x
    obtain ⟨k, rfl, hn, hk, hx, h⟩ := h
    have hxl := hx.1
    cases k with
    | non => exact absurd rfl hn
    | word =>
      walk_at "s"
      exact fin_here h
    | int lo hi =>
      walk_at "s"
      refine ⟨hx.1, hx.2, ?_⟩
      walk_at "s"
      refine lc_fm (onI fun n => decide (lo ≤ n) && decide (n ≤ hi)) (fun w => w) trivial (by rw [List.length_map]; have := lawDigits_len x; omega) (fun i w acc hw I => ?_) ?_
      · obtain ⟨n, _, _, rfl⟩ := map_get hw
        walk_at "s"
        by_cases h1 : lo ≤ n
        · refine iteY (decide_eq_true h1) ?_
          walk_at "s"
          by_cases h2 : n ≤ hi
          · refine iteY (decide_eq_true h2) ?_
            walk_at "s"
            exact wx_yes hw I (by simp [onI, h1, h2]) rfl
          · refine iteN (decide_eq_false h2) ?_
            exact wx_no hw I (by simp [onI, h2])
        · refine iteN (decide_eq_false h1) ?_
          walk_at "s"
          exact wx_no hw I (by simp [onI, h1])
      · rw [filter_ints]
        exact fin_here h
    | ch ws =>
      obtain ⟨k1, k2, k3, k4⟩ := hk
      walk_at "s"
      refine st_opt (e_in (inW_strs rfl)) ?_
      by_cases hm : x ∈ ws
      · refine iteY (by simp [hm]) ?_
        walk_at "s"
        refine fin_here ?_
        have h : Po (.lst (if (matchL ws x).length = 1 then (matchL ws x).map .str else [])) Ps := h
        rw [matchL_self hm] at h
        exact h
      · refine iteN (by simp [hm]) ?_
        walk_at "s"
        refine lc_fm (onS fun y => decide (x ≠ []) && decide (y.take x.length = x)) (fun w => w) trivial (by rw [List.length_map]; omega) (fun i w acc hw I => ?_) ?_
        · obtain ⟨y, _, hy, rfl⟩ := map_get hw
          walk_at "s"
          by_cases hxe : x = []
          · refine iteN (by simp [hxe]) ?_
            refine iteN rfl ?_
            exact wx_no hw I (by simp [onS, hxe])
          · refine iteY (by simp [hxe]) ?_
            walk_at "s"
            by_cases ht : y.take x.length = x
            · refine iteY (by rw [start_eq]; exact decide_eq_true ht) ?_
              walk_at "s"
              exact wx_yes hw I (by simp [onS, hxe, ht]) rfl
            · refine iteN (by rw [start_eq]; exact decide_eq_false ht) ?_
              exact wx_no hw I (by simp [onS, ht])
        · rw [filter_mapS2]
          have h : Po (.lst (if (matchL ws x).length = 1 then (matchL ws x).map .str else [])) Ps := h
          have e : ws.filter (fun w => decide (x ≠ []) && decide (w.take x.length = x)) = matchL ws x := by unfold matchL; rw [if_neg hm]
          rw [e]
          have hml : (matchL ws x).length ≤ 8 := by rw [← e]; exact Nat.le_trans (List.length_filter_le _ _) k2
          walk_at "s"
          by_cases h1 : (matchL ws x).length = 1
          · refine iteY (by rw [List.length_map]; simp [h1]) ?_
            rw [if_pos h1] at h
            walk_at "s"
            exact fin_here h
          · refine iteN (by rw [List.length_map]; simp; omega) ?_
            rw [if_neg h1] at h
            walk_at "s"
            exact fin_here h
def s__law_long (_ : PySem.W.Frag) : WSp := fun ws P Po => match ws with
  | [w, .str x] => ∃ os lo hi, w = gramW os lo hi ∧ os.length ≤ 12 ∧ TxOk x ∧ Po (.lst ((lawLong os x).map .str)) P
  | _ => False
theorem sc__law_long : FnScope ["_law_grammar_here", "_law_text", "_law_names", "_law_option_here", "_law_name"] ["_law_grammar_here", "_law_text"] (defScope x__law_long) := ⟨rfl, rfl, rfl, by decide +kernel, rfl, by decide +kernel, by decide +kernel⟩
theorem cl__law_long {P : Program} {w : World} {K : PySem.W.Frag} {mg : Str → Option Value} {base : Heap} (T : Txt K mg)  : Cl P w K mg base 1 "_law_long" (s__law_long K) := by
  obtain ⟨fd, F⟩ := T.d__law_long
  refine cl_of F T.g__law_long sc__law_long (fun ws Ps Po h => ?len) (fun _ _ _ _ _ _ us hl => match us, hl with | [_, _], _ => rfl) (fun cdv A outer sh H E hr => ⟨_, _,
      (pss_cons (ps_setLc (i := 2) (own := [("_law_option_here", 3)]) rfl sc__law_long.nd rfl rfl (sw_true rfl rfl rfl (by decide +kernel)) (pi_tup (pe_ix ix_seq (pv 0) pe_int (fun _ _ => rfl))) (blkOk_by (own := [("_law_option_here", 3)]) (N := ["_law_grammar_here", "_law_text", "_law_names", "_law_option_here", "_law_name"]) (sc := defScope x__law_long) (by decide +kernel)) (fun _ _ _ _ _ => (pg_name (i := 3) sc__law_long.nd rfl (by first | exact Or.inl rfl | exact Or.inr rfl))) (fun _ _ _ _ _ => pts_nil) (fun _ _ _ _ _ => (pe_ix ix_seq (pv 3) pe_int (fun _ _ => rfl))))
      (pss_cons (ps_if (PW.pt (pw_or (pt_cmpR op_in_seq (pv 1) (pv 2) (by first | exact nomark _ | rfl)) (pw_or1 (pt_cmpR op_eq (pv 1) pe_str (nomark _)))))
      (pss_one (ps_ret (pe_lc (own := [("_law_name", 4)]) rfl sc__law_long.nd (pi_list (pv 2)) (blkOk_by (own := [("_law_name", 4)]) (N := ["_law_grammar_here", "_law_text", "_law_names", "_law_option_here", "_law_name"]) (sc := defScope x__law_long) (by decide +kernel)) (fun _ _ _ _ _ => (pg_name (i := 4) sc__law_long.nd rfl (by first | exact Or.inl rfl | exact Or.inr rfl))) (fun _ _ _ _ _ => (pts_one (pt_cmpR op_eq (pv 4) (pv 1) (nomark _)))) (fun _ _ _ _ _ => (pv 4)))))
      pss_nil)
      (pss_one (ps_ret (pe_lc (own := [("_law_name", 4)]) rfl sc__law_long.nd (pi_list (pv 2)) (blkOk_by (own := [("_law_name", 4)]) (N := ["_law_grammar_here", "_law_text", "_law_names", "_law_option_here", "_law_name"]) (sc := defScope x__law_long) (by decide +kernel)) (fun _ _ _ _ _ => (pg_name (i := 4) sc__law_long.nd rfl (by first | exact Or.inl rfl | exact Or.inr rfl))) (fun _ _ _ _ _ => (pts_one (pt_val (pe_m1 PySem.F.slot_str_startswith PySem.F.type_str_startswith mt_startQ (pv 4) (pv 1))))) (fun _ _ _ _ _ => (pv 4))))))),
      (ds_seq (ds_asg (de_lc (di_tup (de_op rd_ix (de_var 0) (de_int 0))) (dg_name 3) dt_yes (de_op rd_ix (de_var 3) (de_int 0)) (by decide)) (dg_name 2))
      (ds_seq (ds_if (dt_or (dt_test (de_op (rd_in (n := false)) (de_var 1) (de_var 2))) (dt_test (de_op rd_eq (de_var 1) (de_str k14))))
      (ds_ret (de_lc (di_list (de_var 2)) (dg_name 4) (dt_test (de_op rd_eq (de_var 4) (de_var 1))) (de_var 4) (by decide)))
      ds_next)
      (ds_ret (de_lc (di_list (de_var 2)) (dg_name 4) (dt_B (de_m1 rd_start (de_var 4) (de_var 1))) (de_var 4) (by decide))))), fun ws Ps Po h => ?body⟩)
  case len =>
    unfold s__law_long at h
    split at h
    · rfl
    · exact h.elim
  case body =>
    unfold s__law_long at h
    split at h
    rotate_left
    · exact h.elim
    rename_i w x
    obtain ⟨os, lo, hi, rfl, hl, hx, h⟩ := h
    have hnl : (namesL os).length ≤ 12 := by unfold namesL; rw [List.length_map]; exact hl
    walk_at "s"
    refine lc_map (fun w => match w with | .tup (x :: _) => x | _ => w) trivial (by rw [List.length_map]; omega) (fun i w acc hw I => ?_) ?_
    · obtain ⟨o, _, _, rfl⟩ := map_get hw
      walk_at "s"
      exact wx_yes hw I rfl rfl
    · have e0 : (os.map Op.w).map (fun w => match w with | .tup (x :: _) => x | _ => w) = (namesL os).map Wv.str := by
        unfold namesL
        rw [List.map_map, List.map_map]
        rfl
      rw [e0]
      walk_at "s"
      refine st_opt (e_in (inW_strs rfl)) ?_
      have case1 : x ∈ namesL os ∨ x = [] → ∀ G, dRet (dLc (dIList (dVar 2)) (gdName 4) (dTest (dOp fEq (dVar 4) (dVar 1))) (dVar 4) [4]) (finD Po) [some (gramW os lo hi), some (.str x), some (.lst ((namesL os).map .str)), G, none] Ps := by
        intro hc G
        walk_at "s"
        refine lc_fm (onS fun n => decide (n = x)) (fun w => w) trivial (by rw [List.length_map]; omega) (fun i w acc hw I => ?_) ?_
        · obtain ⟨y, _, hy, rfl⟩ := map_get hw
          walk_at "s"
          by_cases hyx : y = x
          · refine iteY (by simp [hyx]) ?_
            walk_at "s"
            exact wx_yes hw I (by simp [onS, hyx]) rfl
          · refine iteN (by simp [hyx]) ?_
            exact wx_no hw I (by simp [onS, hyx])
        · rw [filter_mapS2]
          unfold lawLong at h
          rw [if_pos hc] at h
          exact fin_here h
      by_cases hm : x ∈ namesL os
      · refine iteY (by simp [hm]) ?_
        exact case1 (.inl hm) _
      · refine iteN (by simp [hm]) ?_
        walk_at "s"
        by_cases hx0 : x = []
        · refine iteY (by simp [hx0]) ?_
          exact case1 (.inr hx0) _
        · refine iteN (by simp [hx0]) ?_
          walk_at "s"
          refine lc_fm (onS fun n => decide (n.take x.length = x)) (fun w => w) trivial (by rw [List.length_map]; omega) (fun i w acc hw I => ?_) ?_
          · obtain ⟨y, _, hy, rfl⟩ := map_get hw
            walk_at "s"
            by_cases ht : y.take x.length = x
            · refine iteY (by rw [start_eq]; exact decide_eq_true ht) ?_
              walk_at "s"
              exact wx_yes hw I (by simp [onS, ht]) rfl
            · refine iteN (by rw [start_eq]; exact decide_eq_false ht) ?_
              exact wx_no hw I (by simp [onS, ht])
          · rw [filter_mapS2]
            unfold lawLong at h
            rw [if_neg (by rintro (z | z) <;> contradiction)] at h
            exact fin_here h
end Fc
namespace Fc
open PySem PySem.Spec PyProof.Rows L2
local macro_rules | `(tactic| walk_at "s") => `(tactic| repeat (first
  | refine st_opt rfl ?_
  | refine st_opt (e_len (by first | assumption | omega)) ?_
  | refine st_opt (e_addS (by first | decide | omega | (simp; done) | (simp; omega))) ?_
  | refine st_opt (fldW_at (by first | assumption | exact updP_same) rfl) ?_
  | refine st_opt (insOf_at (by first | assumption | exact updP_same)) ?_
  | refine st_ble rfl ?_
  | refine st_blt rfl ?_
  | refine st_eqr ?_))
def OptPost (R : Option (Asg × Option (List Nat))) (P : Pst) (Po : Wv → Pst → Prop) : Prop := (∀ ps pd, R = some (ps, pd) → Po (.tup [.lst (ps.map kvW), penW pd, .non]) P) ∧ (R = none → ∀ (ps : Asg) (s : List Nat), ps.length ≤ 300 → Po (.tup [.lst (ps.map kvW), .non, .str s]) P)
def s__law_bundle (_ : PySem.W.Frag) : WSp := fun ws P Po => match ws with
  | [w, .str x, .r gd] => ∃ os lo hi given, w = gramW os lo hi ∧ GOk os lo hi ∧ P gd = some (.dic given) ∧ TxOk x ∧ OptPost (lawBun os given x []) P Po
  | _ => False
def BuI (Ps : Pst) (gd : Addr) (os : List Op) (w : Wv) (given : Asg) (x : List Nat) (i : Nat) (G : Env) (P : Pst) : Prop := ∃ (q d : Addr) (acc : Asg) (y5 y6 y7 y8 y9 y10 y11 y12 : Option Wv), G = [some w, some (.str x), some (.r gd), some (.r q), some (.r d), y5, y6, y7, y8, y9, y10, y11, y12] ∧ SubP Ps P ∧ Ps q = none ∧ q ≠ d ∧ P q = some (.lst (acc.map kvW)) ∧ P d = some (.dic (byL os)) ∧ acc.length ≤ i ∧ lawBun os given x [] = lawBun os given (x.drop i) acc
def pair1 : Wv → Wv
  | .tup (x :: _) => x
  | w => w
theorem keys_pairs (acc : Asg) : (acc.map kvW).map pair1 = (acc.map (·.1)).map Wv.str := by
  rw [List.map_map, List.map_map]
  rfl
theorem sc__law_bundle : FnScope ["_law_grammar_here", "_law_letters", "_law_given", "_law_pairs", "_law_by_letter", "_law_k", "_law_name", "_law_letter", "_law_kind_here", "_law_rest", "_law_values", "_law_option_here", "_law_pair"] ["_law_grammar_here", "_law_letters", "_law_given"] (defScope x__law_bundle) := ⟨rfl, rfl, rfl, by decide +kernel, rfl, by decide +kernel, by decide +kernel⟩
theorem cl__law_bundle {P : Program} {w : World} {K : PySem.W.Frag} {mg : Str → Option Value} {base : Heap} (T : Txt K mg) (G__law_value : Cl P w K mg base 2 "_law_value" (s__law_value K)) : Cl P w K mg base 3 "_law_bundle" (s__law_bundle K) := by
  obtain ⟨fd, F⟩ := T.d__law_bundle
  refine cl_of F T.g__law_bundle sc__law_bundle (fun ws Ps Po h => ?len) (fun _ _ _ _ _ _ us hl => match us, hl with | [_, _, _], _ => rfl) (fun cdv A outer sh H E hr => ⟨_, _,
      (pss_cons (ps_par (i := 3) (j := 4) rfl sc__law_bundle.nd rfl rfl (by decide) rfl rfl (pa_cons (pe_lst pa_nil) (pa_cons (pe_callTy (call_dictPQ rfl) (by rfl) T.f_dict (by decide +kernel) (pa_cons (pe_lc (own := [("_law_option_here", 11)]) rfl sc__law_bundle.nd (pi_tup (pe_ix ix_seq (pv 0) pe_int (fun _ _ => rfl))) (blkOk_by (own := [("_law_option_here", 11)]) (N := ["_law_grammar_here", "_law_letters", "_law_given", "_law_pairs", "_law_by_letter", "_law_k", "_law_name", "_law_letter", "_law_kind_here", "_law_rest", "_law_values", "_law_option_here", "_law_pair"]) (sc := defScope x__law_bundle) (by decide +kernel)) (fun _ _ _ _ _ => (pg_name (i := 11) sc__law_bundle.nd rfl (by first | exact Or.inl rfl | exact Or.inr rfl))) (fun _ _ _ _ _ => (pts_one (pt_cmpR op_ne (pe_ix ix_seq (pv 11) pe_int (fun _ _ => rfl)) pe_str (nomark _)))) (fun _ _ _ _ _ => (pe_tup (pa_cons (pe_ix ix_seq (pv 11) pe_int (fun _ _ => rfl)) (pa_cons (pv 11) pa_nil))))) pa_nil)) pa_nil)) (by rfl))
      (pss_cons (ps_for PassesOwn.never rfl (pi_range1 (by rfl) T.f_range (pa_cons (pe_callB call_lenQ (by rfl) T.f_len boot_len (pa_cons (pv 1) pa_nil)) pa_nil)) (pg_name (i := 5) sc__law_bundle.nd rfl (by first | exact Or.inl rfl | exact Or.inr rfl))
      (pss_cons (ps_if (pt_cmp (pc_dnotin (hu_of hr) (pe_ix ix_seq (pv 1) (pv 5) (fun _ _ => rfl)) (pv 4)))
      (pss_one (ps_ret (pe_tup (pa_cons (pv 3) (pa_cons pe_non (pa_cons pe_str pa_nil))))))
      pss_nil)
      (pss_cons (ps_asg (pe_dget (hu_of hr) (pv 4) (pe_ix ix_seq (pv 1) (pv 5) (fun _ _ => rfl)) (fun _ _ => rfl)) (pg_tup (n := 3) rfl (pgs_cons (pg_name (i := 6) sc__law_bundle.nd rfl (by first | exact Or.inl rfl | exact Or.inr rfl)) (pgs_cons (pg_name (i := 7) sc__law_bundle.nd rfl (by first | exact Or.inl rfl | exact Or.inr rfl)) (pgs_cons (pg_name (i := 8) sc__law_bundle.nd rfl (by first | exact Or.inl rfl | exact Or.inr rfl)) pgs_nil)))))
      (pss_cons (ps_if (PW.pt (pw_or (pt_cmp (pc_din (hu_of hr) (pv 6) (pv 2))) (pw_or1 (pt_cmpR op_in_seq (pv 6) (pe_lc (own := [("_law_pair", 12)]) rfl sc__law_bundle.nd (pi_list (pv 3)) (blkOk_by (own := [("_law_pair", 12)]) (N := ["_law_grammar_here", "_law_letters", "_law_given", "_law_pairs", "_law_by_letter", "_law_k", "_law_name", "_law_letter", "_law_kind_here", "_law_rest", "_law_values", "_law_option_here", "_law_pair"]) (sc := defScope x__law_bundle) (by decide +kernel)) (fun _ _ _ _ _ => (pg_name (i := 12) sc__law_bundle.nd rfl (by first | exact Or.inl rfl | exact Or.inr rfl))) (fun _ _ _ _ _ => pts_nil) (fun _ _ _ _ _ => (pe_ix ix_seq (pv 12) pe_int (fun _ _ => rfl)))) (by first | exact nomark _ | rfl)))))
      (pss_one (ps_ret (pe_tup (pa_cons (pv 3) (pa_cons pe_non (pa_cons pe_str pa_nil))))))
      pss_nil)
      (pss_cons (ps_if (pt_cmpR op_notN1 (pv 8) pe_non (nomark _))
      (pss_cons (ps_set (i := 9) sc__law_bundle.nd rfl (by first | exact Or.inl rfl | exact Or.inr rfl) (pe_slice sl_str (pv 1) (po_some (pe_op op_add (pv 5) pe_int)) po_none))
      (pss_cons (ps_if (pt_cmpR op_eq (pv 9) pe_str (nomark _))
      (pss_one (ps_ret (pe_tup (pa_cons (pv 3) (pa_cons (pv 6) (pa_cons pe_non pa_nil))))))
      pss_nil)
      (pss_cons (ps_set (i := 10) sc__law_bundle.nd rfl (by first | exact Or.inl rfl | exact Or.inr rfl) (pe_cl G__law_value hr (by decide) (by rfl) (pa_cons (pv 8) (pa_cons (pv 9) pa_nil))))
      (pss_cons (ps_if (pt_cmpR (op_eqD hr.units) (pv 10) (pe_lst pa_nil) (nomark _))
      (pss_one (ps_ret (pe_tup (pa_cons (pv 3) (pa_cons pe_non (pa_cons pe_str pa_nil))))))
      pss_nil)
      (pss_one (ps_ret (pe_tup (pa_cons (pe_op op_cat (pv 3) (pe_lst (pa_cons (pe_tup (pa_cons (pv 6) (pa_cons (pe_ix ix_seq (pv 10) pe_int (fun _ _ => rfl)) pa_nil))) pa_nil))) (pa_cons pe_non (pa_cons pe_non pa_nil))))))))))
      pss_nil)
      (pss_one (ps_expr (pe_bm PySem.F.plainAttrs_list PySem.F.slot_list_append PySem.F.type_list_append mt_append (pv 3) (pa_cons (pe_tup (pa_cons (pv 6) (pa_cons pe_bl pa_nil))) pa_nil)))))))))
      (pss_one (ps_ret (pe_tup (pa_cons (pv 3) (pa_cons pe_non (pa_cons pe_non pa_nil)))))))),
      (ds_seq (ds_par (i := 3) (j := 4) (da_cons (de_lstN da_nil) (da_cons (de_cbN rd_dictP (da_cons (de_lc (di_tup (de_op rd_ix (de_var 0) (de_int 0))) (dg_name 11) (dt_test (de_op rd_ne (de_op rd_ix (de_var 11) (de_int 1)) (de_str k14))) (de_tup (da_cons (de_op rd_ix (de_var 11) (de_int 1)) (da_cons (de_var 11) da_nil))) (by decide)) da_nil)) da_nil)))
      (ds_seq (ds_for (di_rng1 (da_cons (de_cb rd_len (da_cons (de_var 1) da_nil)) da_nil)) (dg_name 5)
      (ds_seq (ds_if (dt_B (de_dnotin (de_op rd_ix (de_var 1) (de_var 5)) (de_var 4)))
      (ds_ret (de_tup (da_cons (de_pub (de_var 3)) (da_cons de_non (da_cons (de_str k46) da_nil)))))
      ds_next)
      (ds_seq (ds_asg (de_dget (de_var 4) (de_op rd_ix (de_var 1) (de_var 5))) (dg_tup (dgs_cons (dg_name 6) (dgs_cons (dg_name 7) (dgs_cons (dg_name 8) dgs_nil)))))
      (ds_seq (ds_if (dt_or (dt_B (de_din (de_var 6) (de_var 2))) (dt_test (de_op (rd_in (n := false)) (de_var 6) (de_lc (di_list (de_var 3)) (dg_name 12) dt_yes (de_op rd_ix (de_var 12) (de_int 0)) (by decide)))))
      (ds_ret (de_tup (da_cons (de_pub (de_var 3)) (da_cons de_non (da_cons (de_str k47) da_nil)))))
      ds_next)
      (ds_seq (ds_if (dt_test (de_op rd_notN (de_var 8) de_non))
      (ds_seq (ds_asg (de_sl rd_slS (de_var 1) (do_some (de_op rd_add (de_var 5) (de_int 1))) do_none) (dg_name 9))
      (ds_seq (ds_if (dt_test (de_op rd_eq (de_var 9) (de_str k14)))
      (ds_ret (de_tup (da_cons (de_pub (de_var 3)) (da_cons (de_var 6) (da_cons de_non da_nil)))))
      ds_next)
      (ds_seq (ds_asg (de_call (da_cons (de_var 8) (da_cons (de_var 9) da_nil))) (dg_name 10))
      (ds_seq (ds_if (dt_test (de_op rd_eqD (de_var 10) (de_lst da_nil)))
      (ds_ret (de_tup (da_cons (de_pub (de_var 3)) (da_cons de_non (da_cons (de_str k48) da_nil)))))
      ds_next)
      (ds_ret (de_tup (da_cons (de_op rd_cat (de_var 3) (de_lst (da_cons (de_tup (da_cons (de_var 6) (da_cons (de_op rd_ix (de_var 10) (de_int 0)) da_nil))) da_nil))) (da_cons de_non (da_cons de_non da_nil)))))))))
      ds_next)
      (ds_drop (de_app (de_var 3) (de_tup (da_cons (de_var 6) (da_cons (de_bl true) da_nil))))))))))
      (ds_ret (de_tup (da_cons (de_pub (de_var 3)) (da_cons de_non (da_cons de_non da_nil))))))), fun ws Ps Po h => ?body⟩)
  case len =>
    unfold s__law_bundle at h
    split at h
    · rfl
    · exact h.elim
  case body =>
    unfold s__law_bundle at h
    split at h
    rotate_left
    · exact h.elim
    rename_i w x gd
    obtain ⟨os, lo, hi, given, rfl, ok, hg, hx, hpost⟩ := h
    have hl2 := ok.len2
    have hxl := hx.1
    walk_at "s"
    intro q hq
    walk_at "s"
    refine lc_fm bLet bnL trivial (by rw [List.length_map]; omega) (fun i w acc hw I => ?_) ?_
    · obtain ⟨o, _, ho, rfl⟩ := map_get hw
      walk_at "s"
      by_cases e : o.lt = []
      · refine iteN (by simp [e]) ?_
        exact wx_no hw I (by show decide (o.lt ≠ []) = false; simp [e])
      · refine iteY (by simp [e]) ?_
        walk_at "s"
        exact wx_yes hw I (by show decide (o.lt ≠ []) = true; simp [e]) rfl
    · rw [byL_eq]
      refine st_opt (show fDictP _ [.lst ((byL os).map kvW)] = some (SO.dic (byL os)) by
        unfold fDictP f1
        simp only
        show ((kvsOf ((byL os).map kvW)).map fun ps => SO.dic (mergeW [] ps)) = _
        rw [kvsOf_map]
        show some (SO.dic (mergeW [] (byL os))) = _
        rw [merge_byL ok]) ?_
      intro d hd
      obtain ⟨hdq, hd⟩ := updP_none hd
      walk_at "s"
      refine ⟨by omega, by omega, ?_⟩
      refine for_I (BuI Ps gd os (gramW os lo hi) given x) ?_ (fun _ _ _ _ => trivial) ?_ ?_
      · exact ⟨q, d, [], none, none, none, none, none, none, none, none, rfl, SubP.new hd (SubP.new hq (SubP.refl _)), hq, Ne.symm hdq, updP_at (Ne.symm hdq) updP_same, updP_same, Nat.le_refl _, rfl⟩
      · rintro i w G2 P2 hw ⟨q, d, acc, y5, y6, y7, y8, y9, y10, y11, y12, rfl, sub, hqn, hqd, hP, hD, hal, heq⟩
        obtain ⟨hi1, rfl⟩ := rngW_inv hw
        have hi2 : i < x.length := by omega
        have hgP := sub _ _ hg
        have hdr : x.drop i = x[i] :: x.drop (i + 1) := List.drop_eq_getElem_cons hi2
        have hix : atI x (0 + (i : Int)) = some x[i] := by
          rw [show (0 : Int) + (i : Int) = ((i : Nat) : Int) by omega, atI_natL, List.getElem?_eq_getElem hi2]
        have hcab : ∀ c ∈ x.drop (i + 1), c ∈ cAB := fun c hc => hx.2 c (List.mem_of_mem_drop hc)
        rw [hdr] at heq
        generalize x[i] = c at hix heq
        walk_at "s"
        refine st_opt (e_ixS (by omega) hix) ?_
        walk_at "s"
        refine st_opt (dicP_at hD) ?_
        rw [look_byL]
        have pubq : ∀ (ps : Asg), P2 q = some (.lst (ps.map kvW)) → True := fun _ _ => trivial
        cases hf : os.find? fun o => decide (o.lt = [c]) with
        | none =>
          walk_at "s"
          refine st_pub hP ?_
          walk_at "s"
          have hR : lawBun os given x [] = none := by rw [heq]; unfold lawBun; rw [hf]
          exact fin_sub (SubP.delR sub hqn) (hpost.2 hR acc _ (by omega))
        | some o =>
          have ho := List.mem_of_find?_eq_some hf
          have holt : o.lt = [c] := by have := List.find?_some hf; exact of_decide_eq_true this
          walk_at "s"
          refine st_opt (e_ixS (by omega) hix) ?_
          refine st_opt (dicP_at hD) ?_
          refine st_opt (show lookD (byL os) [c] = some o.w by rw [look_byL, hf]; rfl) ?_
          walk_at "s"
          refine st_opt (dicP_at hgP) ?_
          have hstep : lawBun os given (c :: x.drop (i + 1)) acc = (if hasK given o = true ∨ o.nm ∈ acc.map (·.1) then none
      else if o.kd = .non then lawBun os given (x.drop (i + 1)) (acc ++ [(o.nm, .bl true)])
      else if x.drop (i + 1) = [] then some (acc, some o.nm)
      else match lawValue o.kd (x.drop (i + 1)) with
        | [] => none
        | v :: _ => some (acc ++ [(o.nm, v)], none)) := by
            conv => lhs; unfold lawBun
            rw [hf] <;> rfl
          rw [hstep] at heq
          have hkd := (ok.ops o ho).kd
          by_cases h1 : hasK given o = true
          · refine iteY h1 ?_
            walk_at "s"
            refine st_pub hP ?_
            walk_at "s"
            exact fin_sub (SubP.delR sub hqn) (hpost.2 (by rw [heq, if_pos (.inl h1)]) acc _ (by omega))
          · refine iteN (by have : hasK given o = false := by simpa using h1
                            exact this) ?_
            walk_at "s"
            refine st_opt (lstP_at hP) ?_
            refine lc_map pair1 hP (by rw [List.length_map]; omega) (fun i w acc hw I => ?_) ?_
            · obtain ⟨p, _, _, rfl⟩ := map_get hw
              walk_at "s"
              exact wx_yes hw I rfl rfl
            rw [keys_pairs]
            refine st_opt (e_in (inW_strs rfl)) ?_
            by_cases h2 : o.nm ∈ acc.map (·.1)
            · refine iteY (by simpa using h2) ?_
              walk_at "s"
              refine st_pub hP ?_
              walk_at "s"
              exact fin_sub (SubP.delR sub hqn) (hpost.2 (by rw [heq, if_pos (.inr h2)]) acc _ (by omega))
            · refine iteN (by simpa using h2) ?_
              rw [if_neg (by rintro (z | z) <;> contradiction)] at heq
              walk_at "s"
              by_cases hk : o.kd = .non
              · refine iteN (by rw [hk]; rfl) ?_
                rw [if_pos hk] at heq
                walk_at "s"
                refine ⟨⟨q, _, rfl, hP⟩, ?_⟩
                walk_at "s"
                refine st_opt (lstM_at hP) ?_
                refine ⟨by show (acc.map kvW).length < 1000000; rw [List.length_map]; omega, ?_⟩
                refine ⟨q, d, acc ++ [(o.nm, .bl true)], _, _, _, _, _, _, _, _, rfl, SubP.new hqn sub, hqn, hqd, by rw [updP_same, List.map_append]; rfl, updP_at (Ne.symm hqd) hD, by rw [List.length_append]; simp; omega, heq⟩
              · refine iteY (by rw [isNon_kd hk]; rfl) ?_
                rw [if_neg hk] at heq
                walk_at "s"
                refine st_opt (e_slS (by omega)) ?_
                rw [show (0 : Int) + (i : Int) + 1 = ((i + 1 : Nat) : Int) by omega, cutW_from]
                have hrl : (x.drop (i + 1)).length ≤ 300 := by rw [List.length_drop]; omega
                generalize x.drop (i + 1) = r at heq hcab hrl
                walk_at "s"
                by_cases hr : r = []
                · refine iteY (by simp [hr]) ?_
                  rw [if_pos hr] at heq
                  walk_at "s"
                  refine st_pub hP ?_
                  walk_at "s"
                  exact fin_sub (SubP.delR sub hqn) (hpost.1 acc (some o.nm) heq)
                · refine iteN (by simp [hr]) ?_
                  rw [if_neg hr] at heq
                  walk_at "s"
                  refine ⟨o.kd, rfl, hk, hkd, ⟨hrl, hcab⟩, ?_⟩
                  walk_at "s"
                  refine st_opt (e_valNil hkd hcab) ?_
                  cases hv : lawValue o.kd r with
                  | nil =>
                    rw [hv] at heq
                    walk_at "s"
                    refine st_pub hP ?_
                    walk_at "s"
                    exact fin_sub (SubP.delR sub hqn) (hpost.2 heq acc _ (by omega))
                  | cons v vs =>
                    rw [hv] at heq
                    walk_at "s"
                    refine st_opt (e_ix0 rfl) ?_
                    walk_at "s"
                    refine st_opt (e_cat (lstP_at hP) rfl (by rw [List.length_map]; simp; omega)) ?_
                    walk_at "s"
                    have hR := hpost.1 (acc ++ [(o.nm, v)]) none heq
                    rw [List.map_append] at hR
                    exact fin_sub sub hR
      · rintro G2 P2 ⟨q, d, acc, y5, y6, y7, y8, y9, y10, y11, y12, rfl, sub, hqn, hqd, hP, hD, hal, heq⟩
        rw [rngW_len] at heq
        walk_at "s"
        refine st_pub hP ?_
        walk_at "s"
        rw [show x.drop ((x.length : Int).toNat) = [] by rw [Int.toNat_natCast, List.drop_length]] at heq
        exact fin_sub (SubP.delR sub hqn) (hpost.1 acc none (by rw [heq]; unfold lawBun; rfl))
end Fc
namespace Fc
open PySem PySem.Spec PyProof.Rows L2
local macro_rules | `(tactic| walk_at "s") => `(tactic| repeat (first
  | refine st_opt rfl ?_
  | refine st_opt (e_len (by first | assumption | omega)) ?_
  | refine st_opt (e_addS (by first | decide | omega | (simp; done) | (simp; omega))) ?_
  | refine st_opt (fldW_at (by first | assumption | exact updP_same) rfl) ?_
  | refine st_opt (insOf_at (by first | assumption | exact updP_same)) ?_
  | refine st_ble rfl ?_
  | refine st_blt rfl ?_
  | refine st_eqr ?_))
def s__law_option (_ : PySem.W.Frag) : WSp := fun ws P Po => match ws with
  | [w, .str x, .r gd] => ∃ os lo hi given, w = gramW os lo hi ∧ GOk os lo hi ∧ P gd = some (.dic given) ∧ TxOk x ∧ OptPost (lawOption os given x) P Po
  | _ => False
theorem lawLong_mem {os : List Op} {x n : List Nat} (h : n ∈ lawLong os x) : n ∈ namesL os := by
  unfold lawLong at h
  split at h
  · exact (List.mem_filter.mp h).1
  · exact (List.mem_filter.mp h).1
def thirdW : Wv → Wv
  | .tup [_, _, k] => k
  | w => w
theorem kinds_of {os : List Op} {n : List Nat} (h : n ∈ namesL os) : opOf os n ∈ os ∧ (opOf os n).nm = n ∧ ∃ r, ((os.map Op.w).filter (onO fun m _ _ => decide (m = n))).map thirdW = (opOf os n).kd.w :: r := by
  have e : ((os.map Op.w).filter (onO fun m _ _ => decide (m = n))).map thirdW = (os.filter fun o => decide (o.nm = n)).map fun o => o.kd.w := by
    clear h
    induction os with
    | nil => rfl
    | cons o r ih =>
      rw [List.map_cons, List.filter_cons, List.filter_cons]
      have e : onO (fun m _ _ => decide (m = n)) o.w = decide (o.nm = n) := rfl
      rw [e]
      cases decide (o.nm = n) with
      | true => rw [if_pos rfl, if_pos rfl, List.map_cons, List.map_cons, ih]; rfl
      | false => rw [if_neg Bool.false_ne_true, if_neg Bool.false_ne_true, ih]
  rw [e]
  obtain ⟨o, ho, hn⟩ := List.mem_map.mp h
  unfold opOf
  cases hf : os.find? fun o => decide (o.nm = n) with
  | none =>
    have := List.find?_eq_none.mp hf o ho
    exact absurd (decide_eq_true hn) this
  | some p =>
    have h1 := List.mem_of_find?_eq_some hf
    have h2 := List.find?_some hf
    refine ⟨h1, of_decide_eq_true h2, ?_⟩
    rw [List.find?_eq_some_iff_append] at hf
    obtain ⟨hp, as, bs, rfl, has⟩ := hf
    refine ⟨(bs.filter fun o => decide (o.nm = n)).map fun o => o.kd.w, ?_⟩
    rw [List.filter_append, List.filter_eq_nil_iff.mpr (fun a ha => by simpa using has a ha), List.nil_append, List.filter_cons, if_pos hp]
    rfl
theorem cut61 {x : List Nat} (h : 61 ∈ x) : x = (x.takeWhile fun c => decide (c ≠ 61)) ++ 61 :: ((x.dropWhile fun c => decide (c ≠ 61)).drop 1) ∧ 61 ∉ (x.takeWhile fun c => decide (c ≠ 61)) := by
  constructor
  · induction x with
    | nil => cases h
    | cons c r ih =>
      by_cases hc : c = 61
      · subst hc
        simp
      · have hr : 61 ∈ r := (List.mem_cons.mp h).resolve_left (fun z => hc z.symm)
        have := ih hr
        rw [List.takeWhile_cons, List.dropWhile_cons, if_pos (by simp [hc]), if_pos (by simp [hc]), List.cons_append, ← this]
  · intro hm
    have := List.all_eq_true.mp (List.all_takeWhile (p := fun c => decide (c ≠ 61)) (l := x)) 61 hm
    simp at this
theorem cut61n {x : List Nat} (h : 61 ∉ x) : (x.takeWhile fun c => decide (c ≠ 61)) = x := by
  induction x with
  | nil => rfl
  | cons c r ih =>
    have hc : c ≠ 61 := fun z => h (by rw [z]; exact List.mem_cons_self)
    rw [List.takeWhile_cons, if_pos (by simp [hc]), ih (fun z => h (List.mem_cons_of_mem _ z))]
theorem sc__law_option : FnScope ["_law_grammar_here", "_law_token", "_law_given", "_law_head", "_law_equals", "_law_tail", "_law_names", "_law_kind_here", "_law_values", "_law_option_here"] ["_law_grammar_here", "_law_token", "_law_given"] (defScope x__law_option) := ⟨rfl, rfl, rfl, by decide +kernel, rfl, by decide +kernel, by decide +kernel⟩
theorem cl__law_option {P : Program} {w : World} {K : PySem.W.Frag} {mg : Str → Option Value} {base : Heap} (T : Txt K mg) (G__law_bundle : Cl P w K mg base 3 "_law_bundle" (s__law_bundle K)) (G__law_long : Cl P w K mg base 1 "_law_long" (s__law_long K)) (G__law_value : Cl P w K mg base 2 "_law_value" (s__law_value K)) : Cl P w K mg base 4 "_law_option" (s__law_option K) := by
  obtain ⟨fd, F⟩ := T.d__law_option
  refine cl_of F T.g__law_option sc__law_option (fun ws Ps Po h => ?len) (fun _ _ _ _ _ _ us hl => match us, hl with | [_, _, _], _ => rfl) (fun cdv A outer sh H E hr => ⟨_, _,
      (pss_cons (ps_if (pt_cmpR op_ne (pe_slice sl_str (pv 1) po_none (po_some pe_int)) pe_str (nomark _))
      (pss_one (ps_ret (pe_cl G__law_bundle hr (by decide) (by rfl) (pa_cons (pv 0) (pa_cons (pe_slice sl_str (pv 1) (po_some pe_int) po_none) (pa_cons (pv 2) pa_nil))))))
      pss_nil)
      (pss_cons (ps_asg (pe_partition (pe_slice sl_str (pv 1) (po_some pe_int) po_none) pe_str) (pg_tup (n := 3) rfl (pgs_cons (pg_name (i := 3) sc__law_option.nd rfl (by first | exact Or.inl rfl | exact Or.inr rfl)) (pgs_cons (pg_name (i := 4) sc__law_option.nd rfl (by first | exact Or.inl rfl | exact Or.inr rfl)) (pgs_cons (pg_name (i := 5) sc__law_option.nd rfl (by first | exact Or.inl rfl | exact Or.inr rfl)) pgs_nil)))))
      (pss_cons (ps_set (i := 6) sc__law_option.nd rfl (by first | exact Or.inl rfl | exact Or.inr rfl) (pe_cl G__law_long hr (by decide) (by rfl) (pa_cons (pv 0) (pa_cons (pv 3) pa_nil))))
      (pss_cons (ps_if (pt_cmpR op_ne (pe_callB call_lenQ (by rfl) T.f_len boot_len (pa_cons (pv 6) pa_nil)) pe_int (nomark _))
      (pss_one (ps_ret (pe_tup (pa_cons (pe_lst pa_nil) (pa_cons pe_non (pa_cons (pe_ifExp (pt_cmpR (op_neD hr.units) (pv 6) (pe_lst pa_nil) (nomark _)) pe_str pe_str) pa_nil))))))
      pss_nil)
      (pss_cons (ps_set (i := 7) sc__law_option.nd rfl (by first | exact Or.inl rfl | exact Or.inr rfl) (pe_ix ix_seq (pe_lc (own := [("_law_option_here", 9)]) rfl sc__law_option.nd (pi_tup (pe_ix ix_seq (pv 0) pe_int (fun _ _ => rfl))) (blkOk_by (own := [("_law_option_here", 9)]) (N := ["_law_grammar_here", "_law_token", "_law_given", "_law_head", "_law_equals", "_law_tail", "_law_names", "_law_kind_here", "_law_values", "_law_option_here"]) (sc := defScope x__law_option) (by decide +kernel)) (fun _ _ _ _ _ => (pg_name (i := 9) sc__law_option.nd rfl (by first | exact Or.inl rfl | exact Or.inr rfl))) (fun _ _ _ _ _ => (pts_one (pt_cmpR op_eq (pe_ix ix_seq (pv 9) pe_int (fun _ _ => rfl)) (pe_ix ix_seq (pv 6) pe_int (fun _ _ => rfl)) (nomark _)))) (fun _ _ _ _ _ => (pe_ix ix_seq (pv 9) pe_int (fun _ _ => rfl)))) pe_int (fun _ _ => rfl)))
      (pss_cons (ps_if (pt_cmp (pc_din (hu_of hr) (pe_ix ix_seq (pv 6) pe_int (fun _ _ => rfl)) (pv 2)))
      (pss_one (ps_ret (pe_tup (pa_cons (pe_lst pa_nil) (pa_cons pe_non (pa_cons pe_str pa_nil))))))
      pss_nil)
      (pss_cons (ps_if (PW.pt (pw_and (pt_cmpR op_isN1 (pv 7) pe_non (nomark _)) (pw_and1 (pt_cmpR op_eq (pv 4) pe_str (nomark _)))))
      (pss_one (ps_ret (pe_tup (pa_cons (pe_lst (pa_cons (pe_tup (pa_cons (pe_ix ix_seq (pv 6) pe_int (fun _ _ => rfl)) (pa_cons pe_bl pa_nil))) pa_nil)) (pa_cons pe_non (pa_cons pe_non pa_nil))))))
      pss_nil)
      (pss_cons (ps_if (pt_cmpR op_isN1 (pv 7) pe_non (nomark _))
      (pss_one (ps_ret (pe_tup (pa_cons (pe_lst pa_nil) (pa_cons pe_non (pa_cons pe_str pa_nil))))))
      pss_nil)
      (pss_cons (ps_if (pt_cmpR op_eq (pv 4) pe_str (nomark _))
      (pss_one (ps_ret (pe_tup (pa_cons (pe_lst pa_nil) (pa_cons (pe_ix ix_seq (pv 6) pe_int (fun _ _ => rfl)) (pa_cons pe_non pa_nil))))))
      pss_nil)
      (pss_cons (ps_set (i := 8) sc__law_option.nd rfl (by first | exact Or.inl rfl | exact Or.inr rfl) (pe_cl G__law_value hr (by decide) (by rfl) (pa_cons (pv 7) (pa_cons (pv 5) pa_nil))))
      (pss_one (ps_ret (pe_ifExp (pt_cmpR (op_neD hr.units) (pv 8) (pe_lst pa_nil) (nomark _)) (pe_tup (pa_cons (pe_lst (pa_cons (pe_tup (pa_cons (pe_ix ix_seq (pv 6) pe_int (fun _ _ => rfl)) (pa_cons (pe_ix ix_seq (pv 8) pe_int (fun _ _ => rfl)) pa_nil))) pa_nil)) (pa_cons pe_non (pa_cons pe_non pa_nil)))) (pe_tup (pa_cons (pe_lst pa_nil) (pa_cons pe_non (pa_cons pe_str pa_nil))))))))))))))))),
      (ds_seq (ds_if (dt_test (de_op rd_ne (de_sl rd_slS (de_var 1) do_none (do_some (de_int 2))) (de_str k8)))
      (ds_ret (de_call (da_cons (de_var 0) (da_cons (de_sl rd_slS (de_var 1) (do_some (de_int 1)) do_none) (da_cons (de_var 2) da_nil)))))
      ds_next)
      (ds_seq (ds_asg (de_m1 rd_part (de_sl rd_slS (de_var 1) (do_some (de_int 2)) do_none) (de_str k9)) (dg_tup (dgs_cons (dg_name 3) (dgs_cons (dg_name 4) (dgs_cons (dg_name 5) dgs_nil)))))
      (ds_seq (ds_asg (de_call (da_cons (de_var 0) (da_cons (de_var 3) da_nil))) (dg_name 6))
      (ds_seq (ds_if (dt_test (de_op rd_ne (de_cb rd_len (da_cons (de_var 6) da_nil)) (de_int 1)))
      (ds_ret (de_tup (da_cons (de_lst da_nil) (da_cons de_non (da_cons (de_if (dt_test (de_op rd_neD (de_var 6) (de_lst da_nil))) (de_str k49) (de_str k46)) da_nil)))))
      ds_next)
      (ds_seq (ds_asg (de_op rd_ix (de_lc (di_tup (de_op rd_ix (de_var 0) (de_int 0))) (dg_name 9) (dt_test (de_op rd_eq (de_op rd_ix (de_var 9) (de_int 0)) (de_op rd_ix (de_var 6) (de_int 0)))) (de_op rd_ix (de_var 9) (de_int 2)) (by decide)) (de_int 0)) (dg_name 7))
      (ds_seq (ds_if (dt_B (de_din (de_op rd_ix (de_var 6) (de_int 0)) (de_var 2)))
      (ds_ret (de_tup (da_cons (de_lst da_nil) (da_cons de_non (da_cons (de_str k47) da_nil)))))
      ds_next)
      (ds_seq (ds_if (dt_and (dt_test (de_op rd_isN (de_var 7) de_non)) (dt_test (de_op rd_eq (de_var 4) (de_str k14))))
      (ds_ret (de_tup (da_cons (de_lst (da_cons (de_tup (da_cons (de_op rd_ix (de_var 6) (de_int 0)) (da_cons (de_bl true) da_nil))) da_nil)) (da_cons de_non (da_cons de_non da_nil)))))
      ds_next)
      (ds_seq (ds_if (dt_test (de_op rd_isN (de_var 7) de_non))
      (ds_ret (de_tup (da_cons (de_lst da_nil) (da_cons de_non (da_cons (de_str k48) da_nil)))))
      ds_next)
      (ds_seq (ds_if (dt_test (de_op rd_eq (de_var 4) (de_str k14)))
      (ds_ret (de_tup (da_cons (de_lst da_nil) (da_cons (de_op rd_ix (de_var 6) (de_int 0)) (da_cons de_non da_nil)))))
      ds_next)
      (ds_seq (ds_asg (de_call (da_cons (de_var 7) (da_cons (de_var 5) da_nil))) (dg_name 8))
      (ds_ret (de_if (dt_test (de_op rd_neD (de_var 8) (de_lst da_nil))) (de_tup (da_cons (de_lst (da_cons (de_tup (da_cons (de_op rd_ix (de_var 6) (de_int 0)) (da_cons (de_op rd_ix (de_var 8) (de_int 0)) da_nil))) da_nil)) (da_cons de_non (da_cons de_non da_nil)))) (de_tup (da_cons (de_lst da_nil) (da_cons de_non (da_cons (de_str k48) da_nil)))))))))))))))), fun ws Ps Po h => ?body⟩)
  case len =>
    unfold s__law_option at h
    split at h
    · rfl
    · exact h.elim
  case body =>
    unfold s__law_option at h
    split at h
    rotate_left
    · exact h.elim
    rename_i w x gd
    obtain ⟨os, lo, hi, given, rfl, ok, hg, hx, hpost⟩ := h
    have hxl := hx.1
    have hl2 := ok.len2
    walk_at "s"
    refine st_opt (e_slS (by omega)) ?_
    rw [show cutW x none (some 2) = x.take 2 from cutW_to x 2]
    walk_at "s"
    unfold lawOption at hpost
    by_cases h2 : x.take 2 = [45, 45]
    · rw [if_neg (by simp [h2])] at hpost
      refine iteN (by simp [h2]) ?_
      walk_at "s"
      refine st_opt (e_slS (by omega)) ?_
      rw [show cutW x (some 2) none = x.drop 2 from cutW_from x 2]
      have hyl : (x.drop 2).length ≤ 300 := by rw [List.length_drop]; omega
      have hyc : ∀ c ∈ x.drop 2, c ∈ cAB := fun c hc => hx.2 c (List.mem_of_mem_drop hc)
      generalize x.drop 2 = y at hpost hyl hyc ⊢
      have hpart : ∃ tl : List Nat, fPart Ps y (.str [61]) = some (.tup [.str (y.takeWhile fun c => decide (c ≠ 61)), .str (if 61 ∈ y then [61] else []), .str tl]) ∧ TxOk tl ∧ (61 ∈ y → tl = (y.dropWhile fun c => decide (c ≠ 61)).drop 1) := by
        by_cases h61 : 61 ∈ y
        · obtain ⟨e1, e2⟩ := cut61 h61
          refine ⟨_, ?_, ⟨?_, ?_⟩, fun _ => rfl⟩
          · unfold fPart
            simp only
            rw [if_pos ⟨by simp, sz1000 (by omega)⟩, part_in e1 e2, if_pos h61]
          · have := congrArg List.length e1
            rw [List.length_append, List.length_cons] at this
            omega
          · intro c hc
            refine hyc c ?_
            rw [e1]
            exact List.mem_append_right _ (List.mem_cons_of_mem _ hc)
        · refine ⟨[], ?_, ⟨by simp, by simp⟩, fun z => absurd z h61⟩
          unfold fPart
          simp only
          rw [if_pos ⟨by simp, sz1000 (by omega)⟩, part_no h61, cut61n h61, if_neg h61]
      obtain ⟨tl, hp, htl, htl2⟩ := hpart
      refine st_opt hp ?_
      have hh : TxOk (y.takeWhile fun c => decide (c ≠ 61)) := ⟨Nat.le_trans (List.takeWhile_sublist _).length_le hyl, fun c hc => hyc c ((List.takeWhile_sublist _).mem hc)⟩
      generalize y.takeWhile (fun c => decide (c ≠ 61)) = hd at hpost hh
      walk_at "s"
      refine ⟨os, lo, hi, rfl, hl2, hh, ?_⟩
      have hmem : ∀ n ∈ lawLong os hd, n ∈ namesL os := fun n hn => lawLong_mem hn
      have hokL : ∀ l ∈ lawLong os hd, okT l := fun l hl => by
        obtain ⟨o, ho, rfl⟩ := List.mem_map.mp (hmem l hl)
        exact okT_name (ok.ops o ho).nm
      have hlen : (lawLong os hd).length ≤ 12 := by
        have : (namesL os).length ≤ 12 := by unfold namesL; rw [List.length_map]; exact hl2
        unfold lawLong
        split <;> exact Nat.le_trans (List.length_filter_le _ _) this
      generalize lawLong os hd = L at hpost hmem hokL hlen ⊢
      walk_at "s"
      by_cases h1 : L.length = 1
      · obtain ⟨n, rfl⟩ : ∃ n, L = [n] := by
          match L, h1 with
          | [n], _ => exact ⟨n, rfl⟩
        simp only at hpost
        obtain ⟨ho, hnm, r, hk⟩ := kinds_of (hmem n List.mem_cons_self)
        walk_at "s"
        refine lc_fm (onO fun m _ _ => decide (m = n)) thirdW trivial (by rw [List.length_map]; omega) (fun i w acc hw I => ?_) ?_
        · obtain ⟨o2, _, _, rfl⟩ := map_get hw
          walk_at "s"
          by_cases hon : o2.nm = n
          · refine iteY (by simp [hon]) ?_
            walk_at "s"
            exact wx_yes hw I (by show decide (o2.nm = n) = true; simp [hon]) rfl
          · refine iteN (by simp [hon]) ?_
            exact wx_no hw I (by show decide (o2.nm = n) = false; simp [hon])
        · rw [hk]
          walk_at "s"
          refine st_opt (e_ix0 rfl) ?_
          have hkd := (ok.ops _ ho).kd
          generalize hoe : opOf os n = o at hpost ho hnm hkd ⊢
          walk_at "s"
          refine st_opt (dicP_at hg) ?_
          rw [← hnm]
          by_cases hh1 : hasK given o = true
          · refine iteY hh1 ?_
            rw [if_pos hh1] at hpost
            walk_at "s"
            exact fin_here (hpost.2 rfl [] _ (by simp))
          · refine iteN (by have : hasK given o = false := by simpa using hh1
                            exact this) ?_
            rw [if_neg hh1] at hpost
            walk_at "s"
            by_cases hkn : o.kd = .non
            · rw [if_pos hkn] at hpost
              refine iteY (by rw [hkn]; rfl) ?_
              walk_at "s"
              by_cases h61 : 61 ∈ y
              · rw [if_pos h61] at hpost ⊢
                walk_at "s"
                refine iteY (by rw [hkn]; rfl) ?_
                walk_at "s"
                exact fin_here (hpost.2 rfl [] _ (by simp))
              · rw [if_neg h61] at hpost ⊢
                walk_at "s"
                have := hpost.1 [(n, .bl true)] none rfl
                rw [← hnm] at this
                exact fin_here this
            · rw [if_neg hkn] at hpost
              refine iteN (isNon_kd hkn) ?_
              walk_at "s"
              refine iteN (isNon_kd hkn) ?_
              walk_at "s"
              by_cases h61 : 61 ∈ y
              · rw [if_pos h61] at hpost ⊢
                walk_at "s"
                refine ⟨o.kd, rfl, hkn, hkd, htl, ?_⟩
                rw [← htl2 h61] at hpost
                walk_at "s"
                refine st_opt (e_valNil hkd htl.2) ?_
                cases hv : lawValue o.kd tl with
                | nil =>
                  rw [hv] at hpost
                  walk_at "s"
                  exact fin_here (hpost.2 rfl [] _ (by simp))
                | cons v vs =>
                  rw [hv] at hpost
                  walk_at "s"
                  refine st_opt (e_ix0 rfl) ?_
                  walk_at "s"
                  have := hpost.1 [(n, v)] none rfl
                  rw [← hnm] at this
                  exact fin_here this
              · rw [if_neg h61] at hpost ⊢
                walk_at "s"
                have := hpost.1 [] (some n) rfl
                rw [← hnm] at this
                exact fin_here this
      · have hR : OptPost none Ps Po := by
          match L, h1, hpost with
          | [], _, hp => exact hp
          | _ :: _ :: _, _, hp => exact hp
        refine iteY (by rw [List.length_map]; simp; omega) ?_
        walk_at "s"
        refine st_opt (e_eqL (n := true) (b := []) (datP_strs L) datP_nilL hokL (by simp)) ?_
        cases hLn : (!decide (L = [])) with
        | true =>
          walk_at "s"
          exact fin_here (hR.2 rfl [] _ (by simp))
        | false =>
          walk_at "s"
          exact fin_here (hR.2 rfl [] _ (by simp))
    · rw [if_pos h2] at hpost
      refine iteY (by simp [h2]) ?_
      walk_at "s"
      refine st_opt (e_slS (by omega)) ?_
      rw [show cutW x (some 1) none = x.drop 1 from cutW_from x 1]
      walk_at "s"
      refine ⟨os, lo, hi, given, rfl, ok, hg, ⟨by rw [List.length_drop]; omega, fun c hc => hx.2 c (List.mem_of_mem_drop hc)⟩, ?_⟩
      exact ⟨fun ps pd e => fin_here (hpost.1 ps pd e), fun e ps s hl => fin_here (hpost.2 e ps s hl)⟩
end Fc
namespace Fc
open PySem PySem.Spec PyProof.Rows L2
local macro_rules | `(tactic| walk_at "s") => `(tactic| repeat (first
  | refine st_opt rfl ?_
  | refine st_opt (e_len (by first | assumption | omega)) ?_
  | refine st_opt (e_addS (by first | decide | omega | (simp; done) | (simp; omega))) ?_
  | refine st_opt (fldW_at (by first | assumption | exact updP_same) rfl) ?_
  | refine st_opt (insOf_at (by first | assumption | exact updP_same)) ?_
  | refine st_ble rfl ?_
  | refine st_blt rfl ?_
  | refine st_eqr ?_))
def s__law_read (_ : PySem.W.Frag) : WSp := fun ws P Po => match ws with
  | [w, .lst ws] => ∃ os lo hi, ∃ ts : List (List Nat), w = gramW os lo hi ∧ GOk os lo hi ∧ ws = ts.map .str ∧ ts.length ≤ 100 ∧ (∀ t ∈ ts, TokOk t) ∧
      (∀ s, lawReadF os hi rs0 ts = some s → ∀ d P', P' d = some (.dic s.asg) → P d = none → SubP P P' → Po (.tup [.tup [.r d, .lst (s.words.map .str), penW s.pend, .bl s.only], .non]) P') ∧ (lawReadF os hi rs0 ts = none → ∀ (k : Int) (r : List Nat), Po (.tup [.non, .tup [.int k, .str r]]) P)
  | _ => False
def LrI (Ps : Pst) (os : List Op) (hi : Int) (w : Wv) (ts : List (List Nat)) (i : Nat) (G : Env) (P : Pst) : Prop := ∃ (kd d : Addr) (s : Rs) (y7 y8 y9 y10 y11 y12 : Option Wv), G = [some w, some (.lst (ts.map .str)), some (.r kd), some (.r d), some (.lst (s.words.map .str)), some (penW s.pend), some (.bl s.only), y7, y8, y9, y10, y11, y12] ∧ SubP Ps P ∧ Ps d = none ∧ Ps kd = none ∧ d ≠ kd ∧ P d = some (.dic s.asg) ∧ P kd = some (.dic (kindsD os)) ∧ LsOk os s ∧ s.words.length ≤ i ∧ lawReadF os hi rs0 ts = lawReadF os hi s (ts.drop i)
def nkL : Wv → Wv
  | .tup [n, _, k] => .tup [n, k]
  | w => w
theorem nk_eq (os : List Op) : (os.map Op.w).map nkL = (kindsD os).map kvW := by
  unfold kindsD
  rw [List.map_map, List.map_map]
  rfl
theorem sc__law_read : FnScope ["_law_grammar_here", "_law_tokens_here", "_law_kinds", "_law_given", "_law_words", "_law_pending", "_law_ended", "_law_k", "_law_token", "_law_reason", "_law_values", "_law_pairs", "_law_option_here"] ["_law_grammar_here", "_law_tokens_here"] (defScope x__law_read) := ⟨rfl, rfl, rfl, by decide +kernel, rfl, by decide +kernel, by decide +kernel⟩
theorem cl__law_read {P : Program} {w : World} {K : PySem.W.Frag} {mg : Str → Option Value} {base : Heap} (T : Txt K mg) (G__law_value : Cl P w K mg base 2 "_law_value" (s__law_value K)) (G__law_option : Cl P w K mg base 4 "_law_option" (s__law_option K)) : Cl P w K mg base 5 "_law_read" (s__law_read K) := by
  obtain ⟨fd, F⟩ := T.d__law_read
  refine cl_of F T.g__law_read sc__law_read (fun ws Ps Po h => ?len) (fun _ _ _ _ _ _ us hl => match us, hl with | [_, _], _ => rfl) (fun cdv A outer sh H E hr => ⟨_, _,
      (pss_cons (ps_set (i := 2) sc__law_read.nd rfl (by first | exact Or.inl rfl | exact Or.inr rfl) (pe_callTy (call_dictPQ rfl) (by rfl) T.f_dict (by decide +kernel) (pa_cons (pe_lc (own := [("_law_option_here", 12)]) rfl sc__law_read.nd (pi_tup (pe_ix ix_seq (pv 0) pe_int (fun _ _ => rfl))) (blkOk_by (own := [("_law_option_here", 12)]) (N := ["_law_grammar_here", "_law_tokens_here", "_law_kinds", "_law_given", "_law_words", "_law_pending", "_law_ended", "_law_k", "_law_token", "_law_reason", "_law_values", "_law_pairs", "_law_option_here"]) (sc := defScope x__law_read) (by decide +kernel)) (fun _ _ _ _ _ => (pg_name (i := 12) sc__law_read.nd rfl (by first | exact Or.inl rfl | exact Or.inr rfl))) (fun _ _ _ _ _ => pts_nil) (fun _ _ _ _ _ => (pe_tup (pa_cons (pe_ix ix_seq (pv 12) pe_int (fun _ _ => rfl)) (pa_cons (pe_ix ix_seq (pv 12) pe_int (fun _ _ => rfl)) pa_nil))))) pa_nil)))
      (pss_cons (ps_asg (pe_tup (pa_cons pe_dnewK (pa_cons (pe_lst pa_nil) (pa_cons pe_non (pa_cons pe_bl pa_nil))))) (pg_tup (n := 4) rfl (pgs_cons (pg_name (i := 3) sc__law_read.nd rfl (by first | exact Or.inl rfl | exact Or.inr rfl)) (pgs_cons (pg_name (i := 4) sc__law_read.nd rfl (by first | exact Or.inl rfl | exact Or.inr rfl)) (pgs_cons (pg_name (i := 5) sc__law_read.nd rfl (by first | exact Or.inl rfl | exact Or.inr rfl)) (pgs_cons (pg_name (i := 6) sc__law_read.nd rfl (by first | exact Or.inl rfl | exact Or.inr rfl)) pgs_nil))))))
      (pss_cons (ps_for PassesOwn.never rfl (pi_range1 (by rfl) T.f_range (pa_cons (pe_callB call_lenQ (by rfl) T.f_len boot_len (pa_cons (pv 1) pa_nil)) pa_nil)) (pg_name (i := 7) sc__law_read.nd rfl (by first | exact Or.inl rfl | exact Or.inr rfl))
      (pss_cons (ps_par (i := 8) (j := 9) rfl sc__law_read.nd rfl rfl (by decide) rfl rfl (pa_cons (pe_ix ix_seq (pv 1) (pv 7) (fun _ _ => rfl)) (pa_cons pe_non pa_nil)) (by rfl))
      (pss_cons (ps_if (pt_cmpR op_notN1 (pv 5) pe_non (nomark _))
      (pss_cons (ps_set (i := 10) sc__law_read.nd rfl (by first | exact Or.inl rfl | exact Or.inr rfl) (pe_cl G__law_value hr (by decide) (by rfl) (pa_cons (pe_dget (hu_of hr) (pv 2) (pv 5) (fun _ _ => rfl)) (pa_cons (pv 8) pa_nil))))
      (pss_cons (ps_set (i := 9) sc__law_read.nd rfl (by first | exact Or.inl rfl | exact Or.inr rfl) (pe_ifExp (pt_cmpR (op_eqD hr.units) (pv 10) (pe_lst pa_nil) (nomark _)) pe_str pe_non))
      (pss_one (ps_if (pt_cmpR (op_neD hr.units) (pv 10) (pe_lst pa_nil) (nomark _))
      (pss_one (ps_asg (pe_tup (pa_cons (pe_ix ix_seq (pv 10) pe_int (fun _ _ => rfl)) (pa_cons pe_non pa_nil))) (pg_tup (n := 2) rfl (pgs_cons (pg_sub (pv 3) (pv 5) (set_dict (hu_of hr))) (pgs_cons (pg_name (i := 5) sc__law_read.nd rfl (by first | exact Or.inl rfl | exact Or.inr rfl)) pgs_nil)))))
      pss_nil))))
      (pss_one (ps_if (PW.pt (pw_and (pt_not (pt_val (pv 6))) (pw_and1 (pt_cmpR op_eq (pv 8) pe_str (nomark _)))))
      (pss_one (ps_set (i := 6) sc__law_read.nd rfl (by first | exact Or.inl rfl | exact Or.inr rfl) pe_bl))
      (pss_one (ps_if (PW.pt (pw_or (pt_val (pv 6)) (pw_or (pt_cmpR op_ne (pe_slice sl_str (pv 8) po_none (po_some pe_int)) pe_str (nomark _)) (pw_or1 (pt_cmpR op_notIn_seq (pe_slice sl_str (pv 8) (po_some pe_int) (po_some pe_int)) (pe_callTy call_listS (by rfl) T.f_list (by decide +kernel) (pa_cons pe_str pa_nil)) (by first | exact nomark _ | rfl))))))
      (pss_cons (ps_set (i := 9) sc__law_read.nd rfl (by first | exact Or.inl rfl | exact Or.inr rfl) (pe_ifExp (pt_cmpR op_eq (pe_callB call_lenQ (by rfl) T.f_len boot_len (pa_cons (pv 4) pa_nil)) (pe_ix ix_seq (pe_ix ix_seq (pv 0) pe_int (fun _ _ => rfl)) pe_int (fun _ _ => rfl)) (nomark _)) pe_str pe_non))
      (pss_one (ps_set (i := 4) sc__law_read.nd rfl (by first | exact Or.inl rfl | exact Or.inr rfl) (pe_op op_cat (pv 4) (pe_lst (pa_cons (pv 8) pa_nil))))))
      (pss_cons (ps_asg (pe_cl G__law_option hr (by decide) (by rfl) (pa_cons (pv 0) (pa_cons (pv 8) (pa_cons (pv 3) pa_nil)))) (pg_tup (n := 3) rfl (pgs_cons (pg_name (i := 11) sc__law_read.nd rfl (by first | exact Or.inl rfl | exact Or.inr rfl)) (pgs_cons (pg_name (i := 5) sc__law_read.nd rfl (by first | exact Or.inl rfl | exact Or.inr rfl)) (pgs_cons (pg_name (i := 9) sc__law_read.nd rfl (by first | exact Or.inl rfl | exact Or.inr rfl)) pgs_nil)))))
      (pss_one (ps_expr (pe_dupd (pv 3) (pe_callTy (call_dictPQ rfl) (by rfl) T.f_dict (by decide +kernel) (pa_cons (pv 11) pa_nil)))))))))))
      (pss_one (ps_if (pt_cmpR op_notN1 (pv 9) pe_non (nomark _))
      (pss_one (ps_ret (pe_tup (pa_cons pe_non (pa_cons (pe_tup (pa_cons (pv 7) (pa_cons (pv 9) pa_nil))) pa_nil)))))
      pss_nil)))))
      (pss_one (ps_ret (pe_tup (pa_cons (pe_tup (pa_cons (pv 3) (pa_cons (pv 4) (pa_cons (pv 5) (pa_cons (pv 6) pa_nil))))) (pa_cons pe_non pa_nil)))))))),
      (ds_seq (ds_asg (de_cbN rd_dictP (da_cons (de_lc (di_tup (de_op rd_ix (de_var 0) (de_int 0))) (dg_name 12) dt_yes (de_tup (da_cons (de_op rd_ix (de_var 12) (de_int 0)) (da_cons (de_op rd_ix (de_var 12) (de_int 2)) da_nil))) (by decide)) da_nil)) (dg_name 2))
      (ds_seq (ds_asg (de_tup (da_cons de_dnew (da_cons (de_lst da_nil) (da_cons de_non (da_cons (de_bl false) da_nil))))) (dg_tup (dgs_cons (dg_name 3) (dgs_cons (dg_name 4) (dgs_cons (dg_name 5) (dgs_cons (dg_name 6) dgs_nil))))))
      (ds_seq (ds_for (di_rng1 (da_cons (de_cb rd_len (da_cons (de_var 1) da_nil)) da_nil)) (dg_name 7)
      (ds_seq (ds_par (i := 8) (j := 9) (da_cons (de_op rd_ix (de_var 1) (de_var 7)) (da_cons de_non da_nil)))
      (ds_seq (ds_if (dt_test (de_op rd_notN (de_var 5) de_non))
      (ds_seq (ds_asg (de_call (da_cons (de_dget (de_var 2) (de_var 5)) (da_cons (de_var 8) da_nil))) (dg_name 10))
      (ds_seq (ds_asg (de_if (dt_test (de_op rd_eqD (de_var 10) (de_lst da_nil))) (de_str k48) de_non) (dg_name 9))
      (ds_if (dt_test (de_op rd_neD (de_var 10) (de_lst da_nil)))
      (ds_asg (de_tup (da_cons (de_op rd_ix (de_var 10) (de_int 0)) (da_cons de_non da_nil))) (dg_tup (dgs_cons (dg_subD (de_var 3) (de_var 5)) (dgs_cons (dg_name 5) dgs_nil))))
      ds_next)))
      (ds_if (dt_and (dt_not (dt_B (de_var 6))) (dt_test (de_op rd_eq (de_var 8) (de_str k8))))
      (ds_asg (de_bl true) (dg_name 6))
      (ds_if (dt_or (dt_B (de_var 6)) (dt_or (dt_test (de_op rd_ne (de_sl rd_slS (de_var 8) do_none (do_some (de_int 1))) (de_str k1))) (dt_test (de_op (rd_in (n := true)) (de_sl rd_slS (de_var 8) (do_some (de_int 1)) (do_some (de_int 2))) (de_cb rd_listS (da_cons (de_str k50) da_nil))))))
      (ds_seq (ds_asg (de_if (dt_test (de_op rd_eq (de_cb rd_len (da_cons (de_var 4) da_nil)) (de_op rd_ix (de_op rd_ix (de_var 0) (de_int 1)) (de_int 1)))) (de_str k16) de_non) (dg_name 9))
      (ds_asg (de_op rd_cat (de_var 4) (de_lst (da_cons (de_var 8) da_nil))) (dg_name 4)))
      (ds_seq (ds_asg (de_call (da_cons (de_var 0) (da_cons (de_var 8) (da_cons (de_var 3) da_nil)))) (dg_tup (dgs_cons (dg_name 11) (dgs_cons (dg_name 5) (dgs_cons (dg_name 9) dgs_nil)))))
      (ds_drop (de_dupd (de_var 3) (de_cbN rd_dictP (da_cons (de_var 11) da_nil))))))))
      (ds_if (dt_test (de_op rd_notN (de_var 9) de_non))
      (ds_ret (de_tup (da_cons de_non (da_cons (de_tup (da_cons (de_var 7) (da_cons (de_var 9) da_nil))) da_nil))))
      ds_next))))
      (ds_ret (de_tup (da_cons (de_tup (da_cons (de_var 3) (da_cons (de_var 4) (da_cons (de_var 5) (da_cons (de_var 6) da_nil))))) (da_cons de_non da_nil))))))), fun ws Ps Po h => ?body⟩)
  case len =>
    unfold s__law_read at h
    split at h
    · rfl
    · exact h.elim
  case body =>
    unfold s__law_read at h
    split at h
    rotate_left
    · exact h.elim
    rename_i w ws
    obtain ⟨os, lo, hi, ts, rfl, ok, rfl, htl, htk, hyes, hno⟩ := h
    have hl2 := ok.len2
    walk_at "s"
    refine lc_map nkL trivial (by rw [List.length_map]; omega) (fun i w acc hw I => ?_) ?_
    · obtain ⟨o, _, ho, rfl⟩ := map_get hw
      walk_at "s"
      exact wx_yes hw I rfl rfl
    · rw [nk_eq]
      refine st_opt (show fDictP _ [.lst ((kindsD os).map kvW)] = some (SO.dic (kindsD os)) by
        unfold fDictP f1
        simp only
        show ((kvsOf ((kindsD os).map kvW)).map fun ps => SO.dic (mergeW [] ps)) = _
        rw [kvsOf_map]
        show some (SO.dic (mergeW [] (kindsD os))) = _
        rw [show mergeW [] (kindsD os) = kindsD os from mergeW_nd_eq (a := []) (b := kindsD os) (kinds_nd ok)]) ?_
      intro kd hkd
      walk_at "s"
      intro d hd
      obtain ⟨hdk, hd⟩ := updP_none hd
      walk_at "s"
      refine ⟨by rw [List.length_map]; omega, by rw [List.length_map]; omega, ?_⟩
      refine for_I (LrI Ps os hi (gramW os lo hi) ts) ?_ (fun _ _ _ _ => trivial) ?_ ?_
      · exact ⟨kd, d, rs0, none, none, none, none, none, none, rfl, SubP.new hd (SubP.new hkd (SubP.refl _)), hd, hkd, hdk, updP_same, updP_at (Ne.symm hdk) updP_same, ⟨fun p hp => (by cases hp), List.nodup_nil, fun n e => (by cases e)⟩, Nat.le_refl _, rfl⟩
      · rintro i w G2 P2 hw ⟨kd, d, s, y7, y8, y9, y10, y11, y12, rfl, sub, hdn, hkn, hdk, hD, hK, L, hwl, heq⟩
        obtain ⟨hi1, rfl⟩ := rngW_inv hw
        have hi2 : i < ts.length := by rw [List.length_map] at hi1; omega
        have hdr : ts.drop i = ts[i] :: ts.drop (i + 1) := List.drop_eq_getElem_cons hi2
        have hix : atI (ts.map Wv.str) (0 + (i : Int)) = some (.str ts[i]) := by
          rw [show (0 : Int) + (i : Int) = ((i : Nat) : Int) by omega, atI_natL, List.getElem?_map, List.getElem?_eq_getElem hi2]
          rfl
        have htok := htk ts[i] (List.getElem_mem hi2)
        rw [hdr] at heq
        generalize ts[i] = t at hix htok heq
        have htx : TxOk t := ⟨by have := htok.1; omega, htok.2⟩
        have hal := L.len
        have heq : lawReadF os hi rs0 ts = (lawStep os hi s t).bind fun s1 => lawReadF os hi s1 (ts.drop (i + 1)) := heq
        have hLn : ∀ s1, lawStep os hi s t = some s1 → LsOk os s1 := fun s1 e => lawStep_ok ok htok L e
        walk_at "s"
        refine st_opt (e_ixL rfl hix) ?_
        walk_at "s"
        have hmap : seqP P2 (.lst (ts.map Wv.str)) = some (ts.map Wv.str) := rfl
        cases hp : s.pend with
        | some n =>
          obtain ⟨hnm, hkn2⟩ := L.pd n hp
          obtain ⟨ho, hon⟩ := opOf_of ok hnm
          have hstep : lawStep os hi s t = (match lawValue (opOf os n).kd t with | [] => none | v :: _ => some { s with asg := putD s.asg n v, pend := none }) := by unfold lawStep; rw [hp] <;> rfl
          have hkd := (ok.ops _ ho).kd
          walk_at "s"
          refine st_opt (dicP_at hK) ?_
          refine st_opt (lookK ok ho hon.symm) ?_
          walk_at "s"
          refine ⟨(opOf os n).kd, rfl, hkn2, hkd, htx, ?_⟩
          generalize opOf os n = o at *
          walk_at "s"
          refine st_opt (e_valNil hkd htx.2) ?_
          cases hv : lawValue o.kd t with
          | nil =>
            rw [hv] at hstep
            walk_at "s"
            exact fin_sub sub (hno (by rw [heq, hstep]; rfl) _ _)
          | cons v vs =>
            rw [hv] at hstep
            walk_at "s"
            have h5 := e_valNil (n := true) (P := P2) hkd htx.2
            rw [hv] at h5
            refine st_opt h5 ?_
            walk_at "s"
            refine st_opt (e_ix0 rfl) ?_
            walk_at "s"
            refine st_opt (dicM_at hD) ?_
            refine ⟨by show s.asg.length < 1000; omega, ?_⟩
            walk_at "s"
            rw [hstep] at heq
            exact ⟨kd, d, { s with asg := putD s.asg n v, pend := none }, _, _, _, _, _, _, rfl, SubP.new hdn sub, hdn, hkn, hdk, updP_same, updP_at (Ne.symm hdk) hK, hLn _ hstep, by show s.words.length ≤ i + 1; omega, heq⟩
        | none =>
          have hstep : lawStep os hi s t = (if s.only = false ∧ t = [45, 45] then some { s with only := true }
            else if s.only = true ∨ wordB t = true then (if (s.words.length : Int) = hi then none else some { s with words := s.words ++ [t] })
            else match lawOption os s.asg t with
              | none => none
              | some (ps, pd) => some { s with asg := mergeW s.asg (mergeW [] ps), pend := pd }) := by unfold lawStep; rw [hp] <;> rfl
          have hnext : ∀ (s1 : Rs) (P3 : Pst) (z7 z8 z9 z10 z11 z12 : Option Wv), lawStep os hi s t = some s1 → SubP Ps P3 → P3 d = some (.dic s1.asg) → P3 kd = some (.dic (kindsD os)) → s1.words.length ≤ i + 1 →
              LrI Ps os hi (gramW os lo hi) ts (i + 1) [some (gramW os lo hi), some (.lst (ts.map .str)), some (.r kd), some (.r d), some (.lst (s1.words.map .str)), some (penW s1.pend), some (.bl s1.only), z7, z8, z9, z10, z11, z12] P3 := by
            intro s1 P3 z7 z8 z9 z10 z11 z12 e1 e2 e3 e4 e5
            refine ⟨kd, d, s1, z7, z8, z9, z10, z11, z12, rfl, e2, hdn, hkn, hdk, e3, e4, hLn s1 e1, e5, ?_⟩
            rw [heq, e1]
            rfl
          have hnone : lawStep os hi s t = none → lawReadF os hi rs0 ts = none := fun e => by rw [heq, e]; rfl
          obtain ⟨ag, wds, pe, on⟩ := s
          have hp : pe = none := hp
          subst hp
          have hlist : (wds.map Wv.str).length = wds.length := List.length_map _
          have hwl : wds.length ≤ i := hwl
          cases on with
          | true =>
            rw [if_neg (by simp), if_pos (.inl rfl)] at hstep
            walk_at "s"
            by_cases hfull : (wds.length : Int) = hi
            · refine iteY (by rw [hlist]; simp [hfull]) ?_
              rw [if_pos hfull] at hstep
              walk_at "s"
              refine st_opt (e_cat (a := wds.map .str) (b := [.str t]) rfl rfl (by rw [hlist]; simp; omega)) ?_
              walk_at "s"
              exact fin_sub sub (hno (hnone hstep) _ _)
            · refine iteN (by rw [hlist]; simp [hfull]) ?_
              rw [if_neg hfull] at hstep
              walk_at "s"
              refine st_opt (e_cat (a := wds.map .str) (b := [.str t]) rfl rfl (by rw [hlist]; simp; omega)) ?_
              walk_at "s"
              have := hnext _ P2 (some (.int (0 + (i : Int)))) (some (.str t)) (some .non) y10 y11 y12 hstep sub hD hK (by show (wds ++ [t]).length ≤ i + 1; rw [List.length_append]; simp; omega)
              rw [List.map_append] at this
              exact this
          | false =>
            walk_at "s"
            by_cases ht : t = [45, 45]
            · refine iteY (decide_eq_true ht) ?_
              rw [if_pos ⟨rfl, ht⟩] at hstep
              walk_at "s"
              exact hnext _ P2 (some (.int (0 + (i : Int)))) (some (.str t)) (some .non) y10 y11 y12 hstep sub hD hK (by show wds.length ≤ i + 1; omega)
            · refine iteN (decide_eq_false ht) ?_
              rw [if_neg (fun z => ht z.2)] at hstep
              walk_at "s"
              have htl3 := htx.1
              refine st_opt (e_slS (by omega)) ?_
              rw [show cutW t none (some 1) = t.take 1 from cutW_to t 1]
              walk_at "s"
              by_cases h1 : t.take 1 = [45]
              · refine iteN (by simp [h1]) ?_
                walk_at "s"
                refine st_opt (e_slS (by omega)) ?_
                rw [show cutW t (some 1) (some 2) = (t.drop 1).take 1 from cutW_mid t 1 2]
                walk_at "s"
                by_cases h2 : (t.drop 1).take 1 ∈ ((45 :: cLT).map fun c => [c])
                · refine iteN (show (!decide ((t.drop 1).take 1 ∈ ((45 :: cLT).map fun c => [c]))) = false by rw [decide_eq_true h2]; rfl) ?_
                  have hwb : wordB t = false := by unfold wordB; rw [decide_eq_true h1, decide_eq_true h2]; rfl
                  rw [if_neg (by rw [hwb]; simp)] at hstep
                  walk_at "s"
                  refine ⟨os, lo, hi, ag, rfl, ok, hD, htx, ⟨fun ps pd e => ?_, fun e ps r hpl => ?_⟩⟩
                  · have hps := lawOption_ok ok htok e
                    rw [e] at hstep
                    have hml : (mergeW [] ps).length ≤ 12 := by
                      have L2 : LsOk os ⟨mergeW [] ps, [], none, false⟩ := ⟨fun p hp => (by
                        rcases mergeW_mem p hp with z | z
                        · cases z
                        · exact hps.1 p z), mergeW_nd List.nodup_nil, fun n e => (by cases e)⟩
                      have := L2.len
                      exact Nat.le_trans this hl2
                    have hal : ag.length ≤ os.length := hal
                    walk_at "s"
                    refine ⟨⟨d, _, rfl, hD⟩, ?_⟩
                    walk_at "s"
                    refine st_opt (show fDictP _ [.lst (ps.map kvW)] = some (SO.dic (mergeW [] ps)) by
                      unfold fDictP f1
                      simp only
                      show ((kvsOf (ps.map kvW)).map fun ps => SO.dic (mergeW [] ps)) = _
                      rw [kvsOf_map]
                      rfl) ?_
                    intro q hq
                    have hdq : d ≠ q := fun z => by rw [← z, hD] at hq; cases hq
                    have hkq : kd ≠ q := fun z => by rw [← z, hK] at hq; cases hq
                    have hqn := SubP.free sub hq
                    refine st_opt (dicM_at (updP_at hdq hD)) ?_
                    refine st_opt (dicM_at updP_same) ?_
                    refine ⟨hdq, by show ag.length + (mergeW [] ps).length ≤ 1000; omega, ?_⟩
                    walk_at "s"
                    exact hnext _ _ (some (.int (0 + (i : Int)))) (some (.str t)) (some .non) y10 (some (.lst (ps.map kvW))) y12 hstep (SubP.new hdn (SubP.new hqn sub)) updP_same (updP_at (Ne.symm hdk) (updP_at hkq hK)) (by show wds.length ≤ i + 1; omega)
                  · rw [e] at hstep
                    have hml : (mergeW [] ps).length ≤ 300 := by
                      have gen : ∀ (b a : Asg), (mergeW a b).length ≤ a.length + b.length := by
                        intro b
                        induction b with
                        | nil => intro a; exact Nat.le_refl _
                        | cons p r ih =>
                          intro a
                          have h1 := ih (putD a p.1 p.2)
                          have h2 := putD_len (ks := a) (l := p.1) (w := p.2)
                          show (mergeW (putD a p.1 p.2) r).length ≤ _
                          rw [List.length_cons]
                          omega
                      have := gen ps []
                      simp at this
                      omega
                    have hal : ag.length ≤ os.length := hal
                    walk_at "s"
                    refine ⟨⟨d, _, rfl, hD⟩, ?_⟩
                    walk_at "s"
                    refine st_opt (show fDictP _ [.lst (ps.map kvW)] = some (SO.dic (mergeW [] ps)) by
                      unfold fDictP f1
                      simp only
                      show ((kvsOf (ps.map kvW)).map fun ps => SO.dic (mergeW [] ps)) = _
                      rw [kvsOf_map]
                      rfl) ?_
                    intro q hq
                    have hdq : d ≠ q := fun z => by rw [← z, hD] at hq; cases hq
                    have hqn := SubP.free sub hq
                    refine st_opt (dicM_at (updP_at hdq hD)) ?_
                    refine st_opt (dicM_at updP_same) ?_
                    refine ⟨hdq, by show ag.length + (mergeW [] ps).length ≤ 1000; omega, ?_⟩
                    walk_at "s"
                    exact fin_sub (SubP.new hdn (SubP.new hqn sub)) (hno (hnone hstep) _ _)
                · refine iteY (show (!decide ((t.drop 1).take 1 ∈ ((45 :: cLT).map fun c => [c]))) = true by rw [decide_eq_false h2]; rfl) ?_
                  have hwb : wordB t = true := by unfold wordB; rw [decide_eq_false h2]; simp
                  rw [if_pos (.inr hwb)] at hstep
                  walk_at "s"
                  by_cases hfull : (wds.length : Int) = hi
                  · refine iteY (by rw [hlist]; simp [hfull]) ?_
                    rw [if_pos hfull] at hstep
                    walk_at "s"
                    refine st_opt (e_cat (a := wds.map .str) (b := [.str t]) rfl rfl (by rw [hlist]; simp; omega)) ?_
                    walk_at "s"
                    exact fin_sub sub (hno (hnone hstep) _ _)
                  · refine iteN (by rw [hlist]; simp [hfull]) ?_
                    rw [if_neg hfull] at hstep
                    walk_at "s"
                    refine st_opt (e_cat (a := wds.map .str) (b := [.str t]) rfl rfl (by rw [hlist]; simp; omega)) ?_
                    walk_at "s"
                    have := hnext _ P2 (some (.int (0 + (i : Int)))) (some (.str t)) (some .non) y10 y11 y12 hstep sub hD hK (by show (wds ++ [t]).length ≤ i + 1; rw [List.length_append]; simp; omega)
                    rw [List.map_append] at this
                    exact this
              · refine iteY (by simp [h1]) ?_
                have hwb : wordB t = true := by unfold wordB; rw [decide_eq_false h1]; rfl
                rw [if_pos (.inr hwb)] at hstep
                walk_at "s"
                by_cases hfull : (wds.length : Int) = hi
                · refine iteY (by rw [hlist]; simp [hfull]) ?_
                  rw [if_pos hfull] at hstep
                  walk_at "s"
                  refine st_opt (e_cat (a := wds.map .str) (b := [.str t]) rfl rfl (by rw [hlist]; simp; omega)) ?_
                  walk_at "s"
                  exact fin_sub sub (hno (hnone hstep) _ _)
                · refine iteN (by rw [hlist]; simp [hfull]) ?_
                  rw [if_neg hfull] at hstep
                  walk_at "s"
                  refine st_opt (e_cat (a := wds.map .str) (b := [.str t]) rfl rfl (by rw [hlist]; simp; omega)) ?_
                  walk_at "s"
                  have := hnext _ P2 (some (.int (0 + (i : Int)))) (some (.str t)) (some .non) y10 y11 y12 hstep sub hD hK (by show (wds ++ [t]).length ≤ i + 1; rw [List.length_append]; simp; omega)
                  rw [List.map_append] at this
                  exact this
      · rintro G2 P2 ⟨kd, d, s, y7, y8, y9, y10, y11, y12, rfl, sub, hdn, hkn, hdk, hD, hK, L, hwl, heq⟩
        rw [rngW_len, show ts.drop (((ts.map Wv.str).length : Int).toNat) = [] by rw [Int.toNat_natCast, List.length_map, List.drop_length]] at heq
        walk_at "s"
        exact fin_here (hyes s heq d P2 hD hdn sub)
end Fc
namespace Fc
open PySem PySem.Spec PyProof.Rows L2
local macro_rules | `(tactic| walk_at "s") => `(tactic| repeat (first
  | refine st_opt rfl ?_
  | refine st_opt (e_len (by first | assumption | omega)) ?_
  | refine st_opt (e_addS (by first | decide | omega | (simp; done) | (simp; omega))) ?_
  | refine st_opt (fldW_at (by first | assumption | exact updP_same) rfl) ?_
  | refine st_opt (insOf_at (by first | assumption | exact updP_same)) ?_
  | refine st_ble rfl ?_
  | refine st_blt rfl ?_
  | refine st_eqr ?_))
def s__law_turned (_ : PySem.W.Frag) : WSp := fun ws P Po => match ws with
  | [.r a, .r gd] => ∃ ns g, RowAt P a ns ∧ P gd = some (.dic g) ∧ NdK g ∧ g.length ≤ 12 ∧ (∀ p ∈ g, okT p.1) ∧ ∀ q g' P', (g'.map (·.1)).Perm (g.map (·.1)) → (∀ n, n ∈ g.map (·.1) → lookD g' n = lookD g n) → P' q = some (.dic g') → P q = none → SubP (delP P a) P' → RowAt P' a ns → Po (.r q) P'
  | _ => False
def TuI (Ps : Pst) (a gd : Addr) (ns : List Int) (g : Asg) (G : Env) (P : Pst) : Prop := ∃ (l q : Addr) (left : List (List Nat)) (g' : Asg) (y4 : Option Wv), G = [some (.r a), some (.r gd), some (.r l), some (.r q), y4] ∧ SubP (delP Ps a) P ∧ RowAt P a ns ∧ Ps l = none ∧ Ps q = none ∧ l ≠ q ∧ l ≠ a ∧ q ≠ a ∧ P l = some (.lst (left.map .str)) ∧ P q = some (.dic g') ∧ (g'.map (·.1) ++ left).Perm (g.map (·.1)) ∧ (∀ n ∈ g'.map (·.1), lookD g' n = lookD g n)
def muT (G : Env) (P : Pst) : Nat := match (G[2]?).bind id with
  | some w => ((lstP P w).map List.length).getD 0
  | none => 0
theorem erase_perm {α : Type} : ∀ (l : List α) (i : Nat) (h : i < l.length), (l[i] :: l.eraseIdx i).Perm l
  | x :: r, 0, _ => List.Perm.refl _
  | x :: r, i + 1, h => by
    have hi : i < r.length := by simpa using h
    exact (List.Perm.swap x r[i] (r.eraseIdx i)).trans ((erase_perm r i hi).cons x)
theorem erase_map {α β : Type} (f : α → β) : ∀ (l : List α) (i : Nat), (l.map f).eraseIdx i = (l.eraseIdx i).map f
  | [], _ => rfl
  | x :: r, 0 => rfl
  | x :: r, i + 1 => congrArg (f x :: ·) (erase_map f r i)
theorem lookD_putD {k n : List Nat} {w : Wv} (g : Asg) : lookD (putD g k w) n = if k = n then some w else lookD g n := by
  induction g with
  | nil => rfl
  | cons p r ih =>
    obtain ⟨x, u⟩ := p
    unfold putD
    by_cases hx : x = k
    · subst hx
      rw [if_pos rfl]
      show (if x = n then some w else lookD r n) = (if x = n then some w else (if x = n then some u else lookD r n))
      by_cases h1 : x = n <;> simp [h1]
    · rw [if_neg hx]
      show (if x = n then some u else lookD (putD r k w) n) = (if k = n then some w else (if x = n then some u else lookD r n))
      rw [ih]
      by_cases h1 : x = n
      · have h2 : ¬ k = n := fun z => hx (h1.trans z.symm)
        simp [h1, h2]
      · simp [h1]
theorem datP_priv {P : Pst} {a : Addr} {ls : List (List Nat)} (h : P a = some (.lst (ls.map .str))) : datP P (.r a) = some (.list (ls.map fun l => PyData.str (S l))) := by
  show ((asLst (P a)).bind datL).map PyData.list = _
  rw [asLst_at h, Option.bind_some, datL_strs]
  rfl
theorem sc__law_turned : FnScope ["_law_row", "_law_given", "_law_left", "_law_found", "_law_name"] ["_law_row", "_law_given"] (defScope x__law_turned) := ⟨rfl, rfl, rfl, by decide +kernel, rfl, by decide +kernel, by decide +kernel⟩
theorem cl__law_turned {P : Program} {w : World} {K : PySem.W.Frag} {mg : Str → Option Value} {base : Heap} (T : Txt K mg) (G__law_taken : Cl P w K mg base 1 "_law_taken" (s__law_taken K)) : Cl P w K mg base 2 "_law_turned" (s__law_turned K) := by
  obtain ⟨fd, F⟩ := T.d__law_turned
  refine cl_of F T.g__law_turned sc__law_turned (fun ws Ps Po h => ?len) (fun _ _ _ _ _ _ us hl => match us, hl with | [_, _], _ => rfl) (fun cdv A outer sh H E hr => ⟨_, _,
      (pss_cons (ps_par (i := 2) (j := 3) rfl sc__law_turned.nd rfl rfl (by decide) rfl rfl (pa_cons (pe_callB (call_sortedDQ rfl) (by rfl) T.f_sorted (by decide +kernel) (pa_cons (pv 1) pa_nil)) (pa_cons pe_dnewK pa_nil)) (by rfl))
      (pss_cons (ps_while PassesOwn.never (pt_cmpR (op_neD hr.units) (pv 2) (pe_lst pa_nil) (nomark _))
      (pss_cons (ps_set (i := 4) sc__law_turned.nd rfl (by first | exact Or.inl rfl | exact Or.inr rfl) (pe_bm PySem.F.plainAttrs_list PySem.F.slot_list_pop PySem.F.type_list_pop mt_popAt (pv 2) (pa_cons (pe_cl G__law_taken hr (by decide) (by rfl) (pa_cons (pv 0) (pa_cons (pe_callB call_lenQ (by rfl) T.f_len boot_len (pa_cons (pv 2) pa_nil)) pa_nil))) pa_nil)))
      (pss_one (ps_dput (hu_of hr) (pv 3) (pv 4) (pe_dget (hu_of hr) (pv 1) (pv 4) (fun _ _ => rfl)) rfl))))
      (pss_one (ps_ret (pv 3))))),
      (ds_seq (ds_par (i := 2) (j := 3) (da_cons (de_srtN (da_cons (de_var 1) da_nil)) (da_cons de_dnew da_nil)))
      (ds_seq (ds_while (dt_test (de_op rd_neD (de_var 2) (de_lst da_nil)))
      (ds_seq (ds_asg (de_popAt (de_var 2) (de_call (da_cons (de_var 0) (da_cons (de_cb rd_len (da_cons (de_var 2) da_nil)) da_nil)))) (dg_name 4))
      (ds_dput (de_var 3) (de_var 4) (de_dget (de_var 1) (de_var 4)))))
      (ds_ret (de_var 3)))), fun ws Ps Po h => ?body⟩)
  case len =>
    unfold s__law_turned at h
    split at h
    · rfl
    · exact h.elim
  case body =>
    unfold s__law_turned at h
    split at h
    rotate_left
    · exact h.elim
    rename_i a gd
    obtain ⟨ns, g, hr, hg, hnd, hgl, hok, h⟩ := h
    have hga : gd ≠ a := fun e => by obtain ⟨p, s, t, h1, _⟩ := hr; rw [e, h1] at hg; cases hg
    walk_at "s"
    refine ⟨_, g, rfl, dicP_at hg, by omega, fun ls hls l hl => ?_⟩
    have hla := row_ne hr hl
    walk_at "s"
    intro q hq
    obtain ⟨hql, hq⟩ := updP_none hq
    have hqa := row_ne hr hq
    walk_at "s"
    refine while_I (TuI Ps a gd ns g) muT ?_ ?_
    · exact ⟨l, q, ls, [], none, rfl, SubP.new (delP_none hq) (SubP.new (delP_none hl) SubP.del), (hr.upd (Ne.symm hla)).upd (Ne.symm hqa), hl, hq, Ne.symm hql, hla, hqa, updP_at (Ne.symm hql) updP_same, updP_same, hls, by simp⟩
    · rintro G2 P2 ⟨l, q, left, g', y4, rfl, sub, hrow, hl, hq, hlq, hla, hqa, hL, hQ, hperm, hlook⟩
      have hmu : muT [some (.r a), some (.r gd), some (.r l), some (.r q), y4] P2 = left.length := by
        show ((lstP P2 (.r l)).map List.length).getD 0 = _
        rw [lstP_at hL]
        show (left.map Wv.str).length = _
        rw [List.length_map]
      rw [hmu]
      walk_at "s"
      have hleft : ∀ n ∈ left, n ∈ g.map (·.1) := fun n hn => hperm.mem_iff.mp (List.mem_append_right _ hn)
      refine st_opt (e_eqL (n := true) (b := []) (datP_priv hL) datP_nilL (fun n hn => ?_) (by simp)) ?_
      · obtain ⟨p, hp, rfl⟩ := List.mem_map.mp (hleft n hn)
        exact hok p hp
      by_cases h0 : left = []
      · refine iteN (by simp [h0]) ?_
        walk_at "s"
        rw [h0, List.append_nil] at hperm
        exact fin_here (h q g' P2 hperm (fun n hn => hlook n (hperm.mem_iff.mpr hn)) hQ hq sub hrow)
      · refine iteY (by simp [h0]) ?_
        have hlen : left.length ≤ 12 := by
          have := hperm.length_eq
          rw [List.length_append, List.length_map, List.length_map] at this
          omega
        have hpos := List.length_pos_iff.mpr h0
        walk_at "s"
        refine ⟨⟨l, _, rfl, hL⟩, ?_⟩
        walk_at "s"
        refine st_opt (e_lenL (seqP_at hL)) ?_
        walk_at "s"
        refine ⟨ns, hrow, by rw [List.length_map]; omega, by rw [List.length_map]; omega, fun v P3 hv0 hv1 r3 => ?_⟩
        rw [List.length_map] at hv1
        have hidx : v.toNat < left.length := by omega
        refine ⟨v.toNat, by rw [Int.toNat_of_nonneg hv0], ?_⟩
        have hL3 : P3 l = some (.lst (left.map .str)) := (r3.at hla).trans hL
        refine st_opt (lstM_at hL3) ?_
        refine ⟨by show (left.map Wv.str).length < 1000000; rw [List.length_map]; omega, ?_⟩
        refine st_opt (show (left.map Wv.str)[v.toNat]? = some (.str left[v.toNat]) by rw [List.getElem?_map, List.getElem?_eq_getElem hidx]; rfl) ?_
        walk_at "s"
        have hgm := hleft _ (List.getElem_mem hidx)
        have hgl3 : ∃ w, lookD g left[v.toNat] = some w := by
          cases e : lookD g left[v.toNat] with
          | none => exact absurd hgm (lookD_none.mp e)
          | some w => exact ⟨w, rfl⟩
        obtain ⟨w, hw⟩ := hgl3
        have sub3 := RowP.del sub r3
        have hgP : P3 gd = some (.dic g) := sub3 gd _ (by rw [delP_ne hga]; exact hg)
        have hgl4 : gd ≠ l := fun e => by rw [e, hL3] at hgP; cases hgP
        refine st_opt (dicP_at (updP_at hgl4 hgP)) ?_
        refine st_opt hw ?_
        walk_at "s"
        have hndk : (g.map (·.1)).Nodup := hnd
        have hn1 := (hperm.nodup_iff.mpr hndk)
        have hnot : left[v.toNat] ∉ g'.map (·.1) := fun hm => (List.nodup_append.mp hn1).2.2 _ hm _ (List.getElem_mem hidx) rfl
        have hg'l : g'.length ≤ 12 := by
          have := hperm.length_eq
          rw [List.length_append, List.length_map, List.length_map] at this
          omega
        refine st_opt (dicM_at (updP_at (Ne.symm hlq) ((r3.at hqa).trans hQ))) ?_
        refine ⟨by show g'.length < 1000; omega, ?_⟩
        have hp2 : (left[v.toNat] :: left.eraseIdx v.toNat).Perm left := erase_perm left v.toNat hidx
        refine ⟨⟨l, q, left.eraseIdx v.toNat, putD g' left[v.toNat] w, _, rfl, SubP.new (delP_none hq) (SubP.new (delP_none hl) sub3), (r3.row.upd (Ne.symm hla)).upd (Ne.symm hqa), hl, hq, hlq, hla, hqa, updP_at hlq (by rw [updP_same, ← erase_map]), updP_same, ?_, ?_⟩, ?_⟩
        · rw [keys_put hnot, List.append_assoc]
          exact ((List.Perm.append_left _ hp2)).trans hperm
        · intro n hn
          rw [lookD_putD]
          by_cases hk : left[v.toNat] = n
          · rw [if_pos hk, ← hk, hw]
          · rw [if_neg hk]
            rw [keys_put hnot] at hn
            rcases List.mem_append.mp hn with z | z
            · exact hlook n z
            · exact absurd (List.mem_singleton.mp z).symm hk
        · show ((lstP (updP (updP P3 l (.lst ((left.map Wv.str).eraseIdx v.toNat))) q _) (.r l)).map List.length).getD 0 < left.length
          rw [lstP_at (updP_at hlq updP_same)]
          show ((left.map Wv.str).eraseIdx v.toNat).length < left.length
          rw [erase_map, List.length_map, List.length_eraseIdx, if_pos hidx]
          omega
end Fc
namespace Fc
open PySem PySem.Spec PyProof.Rows L2
local macro_rules | `(tactic| walk_at "s") => `(tactic| repeat (first
  | refine st_opt rfl ?_
  | refine st_opt (e_len (by first | assumption | omega)) ?_
  | refine st_opt (e_addS (by first | decide | omega | (simp; done) | (simp; omega))) ?_
  | refine st_opt (fldW_at (by first | assumption | exact updP_same) rfl) ?_
  | refine st_opt (insOf_at (by first | assumption | exact updP_same)) ?_
  | refine st_ble rfl ?_
  | refine st_blt rfl ?_
  | refine st_eqr ?_))
def s_law (_ : PySem.W.Frag) : WSp := fun ws P Po => match ws with
  | [.scr ns] => Po (.bl true) P
  | _ => False
/-- tokens taken so far -/
def AcI (P0 : Pst) (ns : List Int) (a : Addr) (os : List Op) (lo hi : Int) (ts : List (List Nat)) (i : Nat) (G : Env) (P : Pst) : Prop := ∃ (acc : List (List Nat)) (s : Rs) (y4 : Option Wv), G = [some (.scr ns), some (.r a), some (gramW os lo hi), some (.lst (acc.map .str)), y4, none, none, none, none, none, none, none, none, none, none, none] ∧ SubP P0 P ∧ acc.Sublist (ts.take i) ∧ lawReadF os hi rs0 acc = some s
theorem cutW_last {α : Type} (z : List α) : cutW z none (some (-1)) = z.dropLast := by
  unfold cutW
  rw [HT.sIx_none, List.drop_zero, Nat.sub_zero, List.dropLast_eq_take]
  have e : HT.sIx z.length z.length (some (-1)) = z.length - 1 := by
    show (if (-1 : Int) < 0 then ((-1 : Int) + (z.length : Int)).toNat else min (-1 : Int).toNat z.length) = _
    rw [if_pos (by decide)]
    omega
  rw [e]
/-- two statements, met in the middle -/
theorem seq_join {A B : WS} {D : WD} {G : Env} {P : Pst} (Q : Env → Pst → Prop) (hB : ∀ G' P', Q G' P' → B D G' P') (hA : ∀ R : Env → Pst → Prop, (∀ G' P', Q G' P' → R G' P') → A { D with nx := R } G P) : dSeq A B D G P := hA _ hB
def AdQ (P2 : Pst) (ns : List Int) (a : Addr) (os : List Op) (lo hi : Int) (ts : List (List Nat)) (G : Env) (P : Pst) : Prop := ∃ (acc : List (List Nat)) (s : Rs) (y4 : Option Wv), G = [some (.scr ns), some (.r a), some (gramW os lo hi), some (.lst (acc.map .str)), y4, none, none, none, none, none, none, none, none, none, none, none] ∧ SubP P2 P ∧ acc.Sublist ts ∧ lawReadF os hi rs0 acc = some s ∧ s.pend = none
/-- the turns -/
def LnI (Ps : Pst) (ns : List Int) (a d q : Addr) (os : List Op) (lo hi : Int) (g : Asg) (ws : List (List Nat)) (i : Nat) (G : Env) (P : Pst) : Prop := ∃ (y3 y4 y8 y10 y11 y12 y13 : Option Wv), G = [some (.scr ns), some (.r a), some (gramW os lo hi), y3, y4, some (.r d), some (.lst (ws.map .str)), some (.r q), y8, none, y10, y11, y12, y13, none, none] ∧ SubP Ps P ∧ RowAt P a ns ∧ P d = some (.dic g) ∧ P q = some (.lst (List.replicate i (.int ((compactL g os ws).length : Int))))
/-- the dicts of fewer -/
def FwI (Ps : Pst) (ns : List Int) (a d q : Addr) (os : List Op) (lo hi : Int) (g : Asg) (ws : List (List Nat)) (_ : Nat) (G : Env) (P : Pst) : Prop := ∃ (y3 y4 y8 y9 y10 y11 y12 y13 y14 y15 : Option Wv), G = [some (.scr ns), some (.r a), some (gramW os lo hi), y3, y4, some (.r d), some (.lst (ws.map .str)), some (.r q), y8, y9, y10, y11, y12, y13, y14, y15] ∧ SubP Ps P ∧ P d = some (.dic g) ∧ P q = some (.lst (List.replicate 3 (.int ((compactL g os ws).length : Int))))
theorem keysW_eq (g : Asg) : keysW g = (g.map (·.1)).map Wv.str := by
  unfold keysW
  rw [List.map_map]
  rfl
theorem len_rep {n : Int} {P : Pst} (h : n ≤ 5) (h0 : 0 ≤ n) : fRep P (.lst [.str [120]]) (.int n) = some (.lst ((List.replicate n.toNat [120]).map .str)) := by
  have e : repW n.toNat [Wv.str [120]] = (List.replicate n.toNat [120]).map .str := by
    unfold repW
    generalize n.toNat = k
    induction k with
    | zero => rfl
    | succ k ih => rw [List.replicate_succ, List.flatten_cons, ih, List.replicate_succ, List.map_cons]; rfl
  show (if -(2 ^ 63) ≤ n ∧ n < 2 ^ 63 ∧ [Wv.str [120]].length * n.toNat ≤ sizeLine then some (Wv.lst (repW n.toNat [Wv.str [120]])) else none) = _
  rw [e, if_pos]
  have hz : [Wv.str [120]].length * n.toNat ≤ 1000 := by
    show 1 * n.toNat ≤ 1000
    omega
  exact ⟨by omega, by omega, sz1000 hz⟩
def lsB (n : List Nat) : Wv → Bool
  | .str m => decide (m ≠ n)
  | _ => false
def lsF (g : Asg) : Wv → Wv
  | .str m => .tup [.str m, (lookD g m).getD .non]
  | w => w
theorem less_pairs {g : Asg} (nd : NdK g) (n : List Nat) : ((keysW g).filter (lsB n)).map (lsF g) = (lessA g n).map kvW := by
  have h : ∀ l : Asg, (∀ p ∈ l, p ∈ g) → ((keysW l).filter (lsB n)).map (lsF g) = (lessA l n).map kvW := by
    intro l
    induction l with
    | nil => intro _; rfl
    | cons p r ih =>
      intro hs
      have ih := ih fun x hx => hs x (List.mem_cons_of_mem _ hx)
      have hp := look_of nd (hs p List.mem_cons_self)
      unfold keysW lessA at ih ⊢
      rw [List.map_cons, List.filter_cons, List.filter_cons]
      have e : lsB n (.str p.1) = decide (p.1 ≠ n) := rfl
      rw [e]
      by_cases hn : p.1 = n
      · rw [if_neg (by simp [hn]), if_neg (by simp [hn])]
        exact ih
      · rw [if_pos (by simp [hn]), if_pos (by simp [hn]), List.map_cons, List.map_cons, ih]
        have e2 : lsF g (.str p.1) = kvW p := by
          show Wv.tup [.str p.1, (lookD g p.1).getD .non] = _
          rw [hp]
          rfl
        rw [e2]
  exact h g fun _ hp => hp
theorem sc_law : FnScope ["_law_script", "_law_row", "_law_grammar_here", "_law_tokens_here", "_law_token", "_law_given", "_law_words", "_law_lengths", "_law_turn", "_law_name", "_law_handed", "_law_order", "_law_line", "_law_found", "_law_fewer", "_law_other"] ["_law_script"] (defScope x_law) := ⟨rfl, rfl, rfl, by decide +kernel, rfl, by decide +kernel, by decide +kernel⟩
theorem fn_law {P : Program} {w : World} {K : PySem.W.Frag} {mg : Str → Option Value} {base : Heap} {fd : FuncData} (T : Txt K mg) (F : FunD K "law" "law" (defArgs x_law) (defBody x_law) (defScope x_law) [] [] (He.fAd K ("law", none)) fd) (G__law_grammar : Cl P w K mg base 3 "_law_grammar" (s__law_grammar K)) (G__law_tokens : Cl P w K mg base 4 "_law_tokens" (s__law_tokens K)) (G__law_read : Cl P w K mg base 5 "_law_read" (s__law_read K)) (G__law_turned : Cl P w K mg base 2 "_law_turned" (s__law_turned K)) (G_compact : Cl P w K mg base 8 "compact" (s_compact K)) (G_read_prefix : Cl P w K mg base 7 "read_prefix" (s_read_prefix K)) (G_split_line : Cl P w K mg base 5 "split_line" (s_split_line K)) : FnOk P w K mg base CX0 9 (He.fAd K ("law", none)) fd ["_law_script"] (spOf K (s_law K)) := by
  refine fnW F sc_law (fun ws Ps Po h => ?len) (fun cdv A outer sh H E hr => ⟨_, _,
      (pss_cons (ps_set (i := 1) sc_law.nd rfl (by first | exact Or.inl rfl | exact Or.inr rfl) (pe_lst (pa_cons (pv 0) (pa_cons pe_int (pa_cons pe_int (pa_cons pe_int pa_nil))))))
      (pss_cons (ps_par (i := 2) (j := 3) rfl sc_law.nd rfl rfl (by decide) rfl rfl (pa_cons (pe_op op_catA (pe_slice sl_tupA (pe_cl G__law_grammar hr (by decide) (by rfl) (pa_cons (pv 1) (pa_cons pe_int pa_nil))) po_none (po_some pe_int)) (pe_tup (pa_cons (pe_tup pa_nil) pa_nil))) (pa_cons (pe_lst pa_nil) pa_nil)) (by rfl))
      (pss_cons (ps_for PassesOwn.never rfl (pi_list (pe_cl G__law_tokens hr (by decide) (by rfl) (pa_cons (pv 1) (pa_cons (pv 2) (pa_cons pe_int pa_nil))))) (pg_name (i := 4) sc_law.nd rfl (by first | exact Or.inl rfl | exact Or.inr rfl))
      (pss_one (ps_if (pt_cmpR op_isN1 (pe_ix ix_seq (pe_cl G__law_read hr (by decide) (by rfl) (pa_cons (pv 2) (pa_cons (pe_op op_cat (pv 3) (pe_lst (pa_cons (pv 4) pa_nil))) pa_nil))) pe_int (fun _ _ => rfl)) pe_non (nomark _))
      (pss_one (ps_set (i := 3) sc_law.nd rfl (by first | exact Or.inl rfl | exact Or.inr rfl) (pe_op op_cat (pv 3) (pe_lst (pa_cons (pv 4) pa_nil)))))
      pss_nil)))
      (pss_cons (ps_if (pt_cmpR op_notN1 (pe_ix ix_seq (pe_ix ix_seq (pe_cl G__law_read hr (by decide) (by rfl) (pa_cons (pv 2) (pa_cons (pv 3) pa_nil))) pe_int (fun _ _ => rfl)) pe_int (fun _ _ => rfl)) pe_non (nomark _))
      (pss_one (ps_set (i := 3) sc_law.nd rfl (by first | exact Or.inl rfl | exact Or.inr rfl) (pe_slice sl_list (pv 3) po_none (po_some (pe_un un_neg pe_int)))))
      pss_nil)
      (pss_cons (ps_asg (pe_slice sl_tupA (pe_ix ix_seq (pe_cl G__law_read hr (by decide) (by rfl) (pa_cons (pv 2) (pa_cons (pv 3) pa_nil))) pe_int (fun _ _ => rfl)) po_none (po_some pe_int)) (pg_tup (n := 2) rfl (pgs_cons (pg_name (i := 5) sc_law.nd rfl (by first | exact Or.inl rfl | exact Or.inr rfl)) (pgs_cons (pg_name (i := 6) sc_law.nd rfl (by first | exact Or.inl rfl | exact Or.inr rfl)) pgs_nil))))
      (pss_cons (ps_set (i := 6) sc_law.nd rfl (by first | exact Or.inl rfl | exact Or.inr rfl) (pe_op op_cat (pv 6) (pe_op op_rep (pe_lst (pa_cons pe_str pa_nil)) (pe_callB (call_max2Q rfl) (by rfl) T.f_max (by decide +kernel) (pa_cons pe_int (pa_cons (pe_op op_sub (pe_ix ix_seq (pe_ix ix_seq (pv 2) pe_int (fun _ _ => rfl)) pe_int (fun _ _ => rfl)) (pe_callB call_lenQ (by rfl) T.f_len boot_len (pa_cons (pv 6) pa_nil))) pa_nil))))))
      (pss_cons (ps_set (i := 7) sc_law.nd rfl (by first | exact Or.inl rfl | exact Or.inr rfl) (pe_lst pa_nil))
      (pss_cons (ps_for PassesOwn.never rfl (pi_range1 (by rfl) T.f_range (pa_cons pe_int pa_nil)) (pg_name (i := 8) sc_law.nd rfl (by first | exact Or.inl rfl | exact Or.inr rfl))
      (pss_cons (ps_set (i := 10) sc_law.nd rfl (by first | exact Or.inl rfl | exact Or.inr rfl) (pe_cl G__law_turned hr (by decide) (by rfl) (pa_cons (pv 1) (pa_cons (pv 5) pa_nil))))
      (pss_cons (ps_set (i := 11) sc_law.nd rfl (by first | exact Or.inl rfl | exact Or.inr rfl) (pe_callTy (call_listDQ rfl) (by rfl) T.f_list (by decide +kernel) (pa_cons (pv 10) pa_nil)))
      (pss_cons (ps_set (i := 12) sc_law.nd rfl (by first | exact Or.inl rfl | exact Or.inr rfl) (pe_cl G_compact hr (by decide) (by rfl) (pa_cons (pv 2) (pa_cons (pv 10) (pa_cons (pv 6) pa_nil)))))
      (pss_cons (ps_if (PW.pt (pw_or (pt_cmpR (op_neD hr.units) (pe_callTy (call_listDQ rfl) (by rfl) T.f_list (by decide +kernel) (pa_cons (pv 10) pa_nil)) (pv 11) (nomark _)) (pw_or1 (pt_cmpR (op_neDic (hu_of hr)) (pv 10) (pv 5) (nomark _)))))
      (pss_one (ps_ret pe_bl))
      pss_nil)
      (pss_cons (ps_set (i := 13) sc_law.nd rfl (by first | exact Or.inl rfl | exact Or.inr rfl) (pe_cl G_read_prefix hr (by decide) (by rfl) (pa_cons (pv 2) (pa_cons (pe_cl G_split_line hr (by decide) (by rfl) (pa_cons (pv 12) pa_nil)) pa_nil))))
      (pss_cons (ps_if (PW.pt (pw_or (pt_cmpR (op_neDic (hu_of hr)) (pe_ix ix_seq (pv 13) pe_int (fun _ _ => rfl)) (pv 5) (nomark _)) (pw_or (pt_cmpR (op_neD hr.units) (pe_ix ix_seq (pv 13) pe_int (fun _ _ => rfl)) (pv 6) (nomark _)) (pw_or1 (pt_cmpR op_notN1 (pe_ix ix_seq (pv 13) pe_int (fun _ _ => rfl)) pe_non (nomark _))))))
      (pss_one (ps_ret pe_bl))
      pss_nil)
      (pss_one (ps_expr (pe_bm PySem.F.plainAttrs_list PySem.F.slot_list_append PySem.F.type_list_append mt_append (pv 7) (pa_cons (pe_callB call_lenQ (by rfl) T.f_len boot_len (pa_cons (pv 12) pa_nil)) pa_nil)))))))))))
      (pss_cons (ps_for PassesOwn.never rfl (pi_list (pe_callB (call_sortedDQ rfl) (by rfl) T.f_sorted (by decide +kernel) (pa_cons (pv 5) pa_nil))) (pg_name (i := 9) sc_law.nd rfl (by first | exact Or.inl rfl | exact Or.inr rfl))
      (pss_cons (ps_set (i := 14) sc_law.nd rfl (by first | exact Or.inl rfl | exact Or.inr rfl) (pe_callTy (call_dictPQ rfl) (by rfl) T.f_dict (by decide +kernel) (pa_cons (pe_lock (pe_lc (own := [("_law_other", 15)]) rfl sc_law.nd (pi_keys (pv 5)) (blkOk_by (own := [("_law_other", 15)]) (N := ["_law_script", "_law_row", "_law_grammar_here", "_law_tokens_here", "_law_token", "_law_given", "_law_words", "_law_lengths", "_law_turn", "_law_name", "_law_handed", "_law_order", "_law_line", "_law_found", "_law_fewer", "_law_other"]) (sc := defScope x_law) (by decide +kernel)) (fun _ _ _ _ _ => (pg_name (i := 15) sc_law.nd rfl (by first | exact Or.inl rfl | exact Or.inr rfl))) (fun _ _ _ _ _ => (pts_one (pt_cmpR op_ne (pv 15) (pv 9) (nomark _)))) (fun _ _ _ _ _ => (pe_tup (pa_cons (pv 15) (pa_cons (pe_dget (hu_of hr) (pv 5) (pv 15) (fun _ _ => rfl)) pa_nil)))))) pa_nil)))
      (pss_one (ps_if (pt_cmpR op_ge (pe_callB call_lenQ (by rfl) T.f_len boot_len (pa_cons (pe_cl G_compact hr (by decide) (by rfl) (pa_cons (pv 2) (pa_cons (pv 14) (pa_cons (pv 6) pa_nil)))) pa_nil)) (pe_ix ix_seq (pv 7) pe_int (fun _ _ => rfl)) (nomark _))
      (pss_one (ps_ret pe_bl))
      pss_nil))))
      (pss_one (ps_ret (pe_cmpR op_eq (pe_lenSetI (by rfl) T.f_len (by rfl) T.f_set (pv 7)) pe_int (nomark _))))))))))))),
      (ds_seq (ds_asg (de_lstN (da_cons (de_var 0) (da_cons (de_int 0) (da_cons (de_int 0) (da_cons (de_int 0) da_nil))))) (dg_name 1))
      (ds_seq (ds_par (i := 2) (j := 3) (da_cons (de_op rd_catT (de_sl rd_slT (de_call (da_cons (de_var 1) (da_cons (de_int 6) da_nil))) do_none (do_some (de_int 2))) (de_tup (da_cons (de_tup da_nil) da_nil))) (da_cons (de_lst da_nil) da_nil)))
      (ds_seq (ds_for (di_list (de_call (da_cons (de_var 1) (da_cons (de_var 2) (da_cons (de_int 7) da_nil))))) (dg_name 4)
      (ds_if (dt_test (de_op rd_isN (de_op rd_ix (de_call (da_cons (de_var 2) (da_cons (de_op rd_cat (de_var 3) (de_lst (da_cons (de_var 4) da_nil))) da_nil))) (de_int 1)) de_non))
      (ds_asg (de_op rd_cat (de_var 3) (de_lst (da_cons (de_var 4) da_nil))) (dg_name 3))
      ds_next))
      (ds_seq (ds_if (dt_test (de_op rd_notN (de_op rd_ix (de_op rd_ix (de_call (da_cons (de_var 2) (da_cons (de_var 3) da_nil))) (de_int 0)) (de_int 2)) de_non))
      (ds_asg (de_sl rd_slL (de_var 3) do_none (do_some (de_un rd_neg (de_int 1)))) (dg_name 3))
      ds_next)
      (ds_seq (ds_asg (de_sl rd_slT (de_op rd_ix (de_call (da_cons (de_var 2) (da_cons (de_var 3) da_nil))) (de_int 0)) do_none (do_some (de_int 2))) (dg_tup (dgs_cons (dg_name 5) (dgs_cons (dg_name 6) dgs_nil))))
      (ds_seq (ds_asg (de_op rd_cat (de_var 6) (de_op rd_rep (de_lst (da_cons (de_str k51) da_nil)) (de_cb rd_max2 (da_cons (de_int 0) (da_cons (de_op rd_sub (de_op rd_ix (de_op rd_ix (de_var 2) (de_int 1)) (de_int 0)) (de_cb rd_len (da_cons (de_var 6) da_nil))) da_nil))))) (dg_name 6))
      (ds_seq (ds_asg (de_lstN da_nil) (dg_name 7))
      (ds_seq (ds_for (di_rng1 (da_cons (de_int 3) da_nil)) (dg_name 8)
      (ds_seq (ds_asg (de_call (da_cons (de_var 1) (da_cons (de_var 5) da_nil))) (dg_name 10))
      (ds_seq (ds_asg (de_cb rd_listD (da_cons (de_var 10) da_nil)) (dg_name 11))
      (ds_seq (ds_asg (de_call (da_cons (de_var 2) (da_cons (de_var 10) (da_cons (de_var 6) da_nil)))) (dg_name 12))
      (ds_seq (ds_if (dt_or (dt_test (de_op rd_neD (de_cb rd_listD (da_cons (de_var 10) da_nil)) (de_var 11))) (dt_test (de_op rd_neDic (de_var 10) (de_var 5))))
      (ds_ret (de_bl false))
      ds_next)
      (ds_seq (ds_asg (de_call (da_cons (de_var 2) (da_cons (de_call (da_cons (de_var 12) da_nil)) da_nil))) (dg_name 13))
      (ds_seq (ds_if (dt_or (dt_test (de_op rd_neDic (de_op rd_ix (de_var 13) (de_int 0)) (de_var 5))) (dt_or (dt_test (de_op rd_neD (de_op rd_ix (de_var 13) (de_int 1)) (de_var 6))) (dt_test (de_op rd_notN (de_op rd_ix (de_var 13) (de_int 2)) de_non))))
      (ds_ret (de_bl false))
      ds_next)
      (ds_drop (de_app (de_var 7) (de_cb rd_len (da_cons (de_var 12) da_nil)))))))))))
      (ds_seq (ds_for (di_list (de_srt (da_cons (de_var 5) da_nil))) (dg_name 9)
      (ds_seq (ds_asg (de_cbN rd_dictP (da_cons (de_lockK (de_lc (di_keys (de_var 5)) (dg_name 15) (dt_test (de_op rd_ne (de_var 15) (de_var 9))) (de_tup (da_cons (de_var 15) (da_cons (de_dget (de_var 5) (de_var 15)) da_nil))) (by decide))) da_nil)) (dg_name 14))
      (ds_if (dt_test (de_op rd_ge (de_cb rd_len (da_cons (de_call (da_cons (de_var 2) (da_cons (de_var 14) (da_cons (de_var 6) da_nil)))) da_nil)) (de_op rd_ix (de_var 7) (de_int 0))))
      (ds_ret (de_bl false))
      ds_next)))
      (ds_ret (de_op rd_eq (de_lenSetI (de_var 7)) (de_int 1)))))))))))), fun ws Ps Po h => ?body⟩)
  case len =>
    unfold s_law at h
    split at h
    · rfl
    · exact h.elim
  case body =>
    unfold s_law at h
    split at h
    rotate_left
    · exact h.elim
    rename_i ns
    walk_at "s"
    intro a ha
    walk_at "s"
    have hrow : RowAt (updP Ps a (.lst [.scr ns, .int 0, .int 0, .int 0])) a ns := ⟨0, 0, 0, updP_same, by decide, by decide, by decide⟩
    refine ⟨ns, rfl, hrow, fun os lo hi cl P1 LGo r1 => ?_⟩
    have ok := LGo.ok
    walk_at "s"
    refine ⟨ns, os, lo, hi, rfl, LGo, rfl, r1.row, fun ts P2 hts r2 => ?_⟩
    walk_at "s"
    have sub2 : SubP Ps P2 := by
      obtain ⟨o1, rfl⟩ := r1.eq
      obtain ⟨o2, rfl⟩ := r2.eq
      exact SubP.new ha (SubP.new ha (SubP.new ha (SubP.refl _)))
    have hrow2 := r2.row
    clear hrow r1 r2
    have htl : ts.length ≤ 14 := hts.1
    have hsubl : ∀ {acc : List (List Nat)} {i : Nat}, acc.Sublist (ts.take i) → acc.length ≤ 14 ∧ ∀ t ∈ acc, TkOk t := fun {acc i} hs => by
      have h1 := hs.trans (List.take_sublist i ts)
      exact ⟨Nat.le_trans h1.length_le htl, fun t ht => hts.2.1 t (h1.mem ht)⟩
    refine for_I (AcI P2 ns a os lo hi ts) ?_ (fun _ _ _ _ => trivial) ?_ ?_
    · exact ⟨[], rs0, none, rfl, SubP.refl _, List.nil_sublist _, rfl⟩
    · rintro i w G3 P3 hw ⟨acc, s, y4, rfl, sub3, hsl, hread⟩
      obtain ⟨t, hti, htm, rfl⟩ := map_get hw
      obtain ⟨hal, hat⟩ := hsubl hsl
      have htk := hts.2.1 t htm
      have hnext : ∀ i, ts[i]? = some t → ts.take (i + 1) = ts.take i ++ [t] := fun i e => take_succ_get e
      walk_at "s"
      refine st_opt (e_cat (a := acc.map .str) (b := [.str t]) rfl rfl (by rw [List.length_map]; simp; omega)) ?_
      walk_at "s"
      have hcat : acc.map Wv.str ++ [.str t] = (acc ++ [t]).map Wv.str := by rw [List.map_append]; rfl
      have hra : lawReadF os hi rs0 (acc ++ [t]) = (lawStep os hi s t).bind fun s1 => some s1 := by
        rw [read_app, hread]
        rfl
      rw [hcat]
      refine ⟨os, lo, hi, acc ++ [t], rfl, ok, rfl, by rw [List.length_append]; simp; omega, fun x hx => ?_, fun s1 hs1 d P4 hd hdn sub4 => ?_, fun hno k r => ?_⟩
      · rcases List.mem_append.mp hx with e | e
        · exact tk_tok (hat x e)
        · rw [List.mem_singleton.mp e]; exact tk_tok htk
      · walk_at "s"
        refine st_opt (e_cat (a := acc.map .str) (b := [.str t]) rfl rfl (by rw [List.length_map]; simp; omega)) ?_
        walk_at "s"
        rw [hcat]
        refine ⟨acc ++ [t], s1, _, rfl, sub3.trans sub4, ?_, hs1⟩
        rw [hnext i hti]
        exact List.Sublist.append hsl (List.Sublist.refl _)
      · walk_at "s"
        refine ⟨acc, s, _, rfl, sub3, ?_, hread⟩
        rw [hnext i hti]
        exact hsl.trans (List.sublist_append_left _ _)
    · rintro G3 P3 ⟨acc, s, y4, rfl, sub3, hsl, hread⟩
      obtain ⟨hal, hat⟩ := hsubl hsl
      have hacc : acc.Sublist ts := by
        rw [List.length_map, List.take_length] at hsl
        exact hsl
      dsimp only
      refine seq_join (AdQ P2 ns a os lo hi ts) ?_ ?_
      rotate_left
      · intro R rest
        walk_at "s"
        refine ⟨os, lo, hi, acc, rfl, ok, rfl, by omega, fun x hx => tk_tok (hat x hx), fun s1 hs1 d P4 hd hdn sub4 => ?_, fun hno k r => ?_⟩
        rotate_left
        · rw [hread] at hno; cases hno
        have : s1 = s := by rw [hread] at hs1; cases hs1; rfl
        subst this
        clear hs1
        walk_at "s"
        cases hp : s1.pend with
        | none =>
          exact rest _ _ ⟨acc, s1, y4, rfl, sub3.trans sub4, hacc, hread, hp⟩
        | some n =>
          walk_at "s"
          have e : cutW (acc.map Wv.str) none (some (-1)) = acc.dropLast.map Wv.str := by rw [cutW_last, ← List.map_dropLast]
          obtain ⟨s2, h2, h3⟩ := read_drop hread rfl (by rw [hp]; simp)
          exact (congrArg (fun z => R [some (.scr ns), some (.r a), some (gramW os lo hi), some (.lst z), y4, none, none, none, none, none, none, none, none, none, none, none] P4) e).mpr (rest _ _ ⟨acc.dropLast, s2, y4, rfl, sub3.trans sub4, (List.dropLast_sublist _).trans hacc, h2, h3⟩)
      · clear hsl hread hacc hal hat sub3
        rintro G3 P3 ⟨acc, s, y4, rfl, sub3, hsl, hread, hpe⟩
        have hal : acc.length ≤ 14 := Nat.le_trans hsl.length_le htl
        obtain ⟨F, hwl, Ls⟩ := fin_of LGo hts hsl hread
        walk_at "s"
        refine ⟨os, lo, hi, acc, rfl, ok, rfl, by omega, fun x hx => tk_tok (hts.2.1 x (hsl.mem hx)), fun s3 hs3 d P5 hd hdn sub5 => ?_, fun hno k r => ?_⟩
        rotate_left
        · rw [hread] at hno; cases hno
        have : s3 = s := by rw [hread] at hs3; cases hs3; rfl
        subst this
        clear hs3
        walk_at "s"
        have h5 := LGo.hi5
        have hwz : (s3.words.map Wv.str).length = s3.words.length := List.length_map _
        have hn5 : (if lo - ((s3.words.map Wv.str).length : Int) > 0 then lo - ((s3.words.map Wv.str).length : Int) else 0) ≤ 5 := by
          have := LGo.lo2
          split <;> omega
        refine st_opt (len_rep hn5 (by split <;> omega)) ?_
        have hcat : ∀ P, fCat P (.lst (s3.words.map .str)) (.lst ((List.replicate (if lo - ((s3.words.map Wv.str).length : Int) > 0 then lo - ((s3.words.map Wv.str).length : Int) else 0).toNat [120]).map .str)) = some (.lst ((fillL lo s3.words).map .str)) := fun P => by
          rw [e_cat (a := s3.words.map .str) rfl rfl (by rw [List.length_map, List.length_map, List.length_replicate]; omega), ← List.map_append]
          have e : (if lo - ((s3.words.map Wv.str).length : Int) > 0 then lo - ((s3.words.map Wv.str).length : Int) else 0).toNat = (lo - (s3.words.length : Int)).toNat := by
            rw [hwz]
            split <;> omega
          rw [e]
          rfl
        refine st_opt (hcat _) ?_
        clear hcat hn5 hwz
        generalize fillL lo s3.words = ws at F
        generalize s3.asg = g at *
        walk_at "s"
        intro q hq
        have sub5' := sub2.trans (sub3.trans sub5)
        have hrow5 : RowAt P5 a ns := by
          obtain ⟨p, z, y, h1, h2⟩ := hrow2
          exact ⟨p, z, y, sub5 _ _ (sub3 _ _ h1), h2⟩
        have hqa := row_ne hrow5 hq
        have hqs := SubP.free sub5' hq
        have hqd : d ≠ q := ne_ofP hd hq
        walk_at "s"
        clear hread hpe hwl Ls h5 hsl hal hq sub3 sub5 hdn hrow2
        have hokT : ∀ n ∈ g.map (·.1), okT n := fun n hn => by
          obtain ⟨p, hp, rfl⟩ := List.mem_map.mp hn
          obtain ⟨o, ho, e, _⟩ := F.ao.ok p hp
          rw [e]
          exact okT_name (ok.ops o ho).nm
        have hokW : ∀ w ∈ ws, okT w := fun w hw => okT_AB (F.wt w hw).2
        have hlen := F.line_ok.1
        refine ⟨by decide, by decide, ?_⟩
        refine for_I (LnI Ps ns a d q os lo hi g ws) ?_ (fun _ _ _ _ => trivial) ?_ ?_
        · exact ⟨_, _, _, _, _, _, _, rfl, SubP.new hqs sub5', hrow5.upd (Ne.symm hqa), updP_at hqd hd, updP_same⟩
        · rintro i w G6 P6 hw ⟨y3, y4, y8, y10, y11, y12, y13, rfl, sub6, hrow6, hd6, hq6⟩
          obtain ⟨hi3, rfl⟩ := rngW_inv hw
          have hi3 : i < 3 := hi3
          have hda : d ≠ a := fun e => by obtain ⟨p, z, y, h1, _⟩ := hrow6; rw [e, h1] at hd6; cases hd6
          walk_at "s"
          refine ⟨ns, g, hrow6, hd6, F.nd, F.ao.len, fun p hp => hokT p.1 (List.mem_map_of_mem hp), fun q2 g2 P7 hpm hlk hg7 hqn sub7 hrow7 => ?_⟩
          have T : Turned g g2 := ⟨hpm, hlk⟩
          have hd7 : P7 d = some (.dic g) := sub7 d _ (by rw [delP_ne hda]; exact hd6)
          have hq7 := sub7 q _ ((delP_ne hqa).trans hq6)
          have sub7' : SubP Ps P7 := (SubP.delR sub6 ha).trans sub7
          have hld : fListD P7 [.r q2] = some (.lst ((g2.map (·.1)).map .str)) := by
            unfold fListD f1
            simp only
            rw [dicP_at hg7, ← keysW_eq]
            rfl
          walk_at "s"
          refine st_opt hld ?_
          walk_at "s"
          refine ⟨os, lo, hi, g2, ws, rfl, ok, hg7, T.ao F.nd F.ao, rfl, ⟨F.w1, F.w2, F.wt⟩, ?_⟩
          rw [T.line]
          walk_at "s"
          refine st_opt hld ?_
          walk_at "s"
          have hok2 : ∀ n ∈ g2.map (·.1), okT n := fun n hn => hokT n (hpm.mem_iff.mp hn)
          refine st_opt (e_eqL (n := true) (datP_strs _) (datP_strs _) hok2 hok2) ?_
          refine iteN (by simp) ?_
          walk_at "s"
          refine st_opt (e_neDic (dicM_at hg7) (dicM_at hd7) (T.same F.nd F.ao)) ?_
          walk_at "s"
          obtain ⟨toks, s', hLL, hl1, ht1, hst, h99, hsame, hsw, hsp⟩ := F.reads
          refine ⟨toks, F.line_ok, hLL, ?_⟩
          walk_at "s"
          refine ⟨os, lo, hi, toks, s', rfl, ok, rfl, hl1, ht1, hst, h99, fun d2 P8 hd8 hd8n sub8 => ?_⟩
          walk_at "s"
          refine st_opt (e_neDic (dicM_at hd8) (dicM_at (sub8 _ _ hd7)) hsame) ?_
          walk_at "s"
          rw [hsw]
          refine st_opt (e_eqL (n := true) (datP_strs _) (datP_strs _) hokW hokW) ?_
          refine iteN (by simp) ?_
          walk_at "s"
          rw [hsp]
          walk_at "s"
          have hq8 := sub8 _ _ hq7
          have hrow8 : RowAt P8 a ns := by
            obtain ⟨p, z, y, h1, h2⟩ := hrow7
            exact ⟨p, z, y, sub8 _ _ h1, h2⟩
          refine ⟨⟨q, _, rfl, hq8⟩, ?_⟩
          walk_at "s"
          refine st_opt (lstM_at hq8) ?_
          refine ⟨by show (List.replicate i _).length < 1000000; rw [List.length_replicate]; omega, ?_⟩
          refine ⟨_, _, _, _, _, _, _, rfl, SubP.new hqs (sub7'.trans sub8), hrow8.upd (Ne.symm hqa), updP_at hqd (sub8 _ _ hd7), ?_⟩
          rw [updP_same, List.replicate_succ']
        · rintro G6 P6 ⟨y3, y4, y8, y10, y11, y12, y13, rfl, sub6, hrow6, hd6, hq6⟩
          have hq6 : P6 q = some (.lst (List.replicate 3 (.int ((compactL g os ws).length : Int)))) := hq6
          have hgl := F.ao.len
          clear hrow6
          walk_at "s"
          refine ⟨.r d, g, rfl, dicP_at hd6, by omega, fun ls hls => ?_⟩
          walk_at "s"
          refine for_I (FwI Ps ns a d q os lo hi g ws) ?_ (fun _ _ _ _ => trivial) ?_ ?_
          · exact ⟨_, _, _, _, _, _, _, _, _, _, rfl, sub6, hd6, hq6⟩
          · clear hd6 hq6 sub6
            rintro i w G7 P7 hw ⟨y3, y4, y8, y9, y10, y11, y12, y13, y14, y15, rfl, sub7, hd7, hq7⟩
            obtain ⟨n, _, hm, rfl⟩ := map_get hw
            have hn : n ∈ g.map (·.1) := hls.mem_iff.mp hm
            walk_at "s"
            refine ⟨d, g, hd7, fun o kv => ?_⟩
            walk_at "s"
            refine ⟨d, o, kv, g, rfl, updP_same, ?_⟩
            refine lc_fm (lsB n) (lsF g) updP_same (by unfold keysW; rw [List.length_map]; omega) (fun i w acc hw I => ?_) ?_
            · unfold keysW at hw
              obtain ⟨p, _, hp, rfl⟩ := map_get hw
              have hlk := look_of F.nd hp
              walk_at "s"
              by_cases hpn : p.1 = n
              · refine iteN (by simp [hpn]) ?_
                exact wx_no hw I (show decide (p.1 ≠ n) = false by simp [hpn])
              · refine iteY (by simp [hpn]) ?_
                walk_at "s"
                refine st_opt (dicP_fz updP_same) ?_
                refine st_opt hlk ?_
                walk_at "s"
                refine wx_yes hw I (show decide (p.1 ≠ n) = true by simp [hpn]) ?_
                show Wv.tup [.str p.1, p.2] = Wv.tup [.str p.1, (lookD g p.1).getD .non]
                rw [hlk]
                rfl
            · refine ⟨updP_same, ?_⟩
              have e1 : updP (updP P7 d (.fdic (.frz o (.dK kv)) g)) d (.dic g) = P7 := by rw [updP_updP, updP_id hd7]
              rw [e1, less_pairs F.nd n]
              walk_at "s"
              refine st_opt (show fDictP P7 [.lst ((lessA g n).map kvW)] = some (SO.dic (lessA g n)) by
                unfold fDictP f1
                simp only
                show ((kvsOf ((lessA g n).map kvW)).map fun ps => SO.dic (mergeW [] ps)) = _
                rw [kvsOf_map]
                show some (SO.dic (mergeW [] (lessA g n))) = _
                rw [show mergeW [] (lessA g n) = lessA g n from mergeW_nd_eq (a := []) (b := lessA g n) (less_nd F.nd)]) ?_
              intro q3 hq3
              have hd3 : d ≠ q3 := ne_ofP hd7 hq3
              have hqq3 : q ≠ q3 := ne_ofP hq7 hq3
              have hq3s := SubP.free sub7 hq3
              walk_at "s"
              refine ⟨os, lo, hi, lessA g n, ws, rfl, ok, updP_same, less_ao F.ao, rfl, ⟨F.w1, F.w2, F.wt⟩, ?_⟩
              have hless := F.less hn
              have hl2 : (compactL (lessA g n) os ws).length ≤ 1000 := by omega
              walk_at "s"
              refine st_opt (e_ix0 (ws := List.replicate 2 (.int ((compactL g os ws).length : Int))) (seqP_at (updP_at hqq3 hq7))) ?_
              walk_at "s"
              refine iteN (decide_eq_false (by omega)) ?_
              walk_at "s"
              exact ⟨_, _, _, _, _, _, _, _, _, _, rfl, SubP.new hq3s sub7, updP_at hd3 hd7, updP_at hqq3 hq7⟩
          · clear hd6 hq6 sub6
            rintro G7 P7 ⟨y3, y4, y8, y9, y10, y11, y12, y13, y14, y15, rfl, sub7, hd7, hq7⟩
            walk_at "s"
            refine ⟨_, lstP_at hq7, ?_⟩
            walk_at "s"
            exact fin_sub sub7 h
end Fc
namespace Fc
open PySem PySem.Spec PyProof.Rows L2
/-- every def keeps its promise, the law last -/
theorem law_ok {P : Program} {w : World} {K : PySem.W.Frag} {mg : Str → Option Value} {base : Heap} {fd : FuncData} (T : Txt K mg) (F : FunD K "law" "law" (defArgs x_law) (defBody x_law) (defScope x_law) [] [] (He.fAd K ("law", none)) fd) : FnOk P w K mg base CX0 9 (He.fAd K ("law", none)) fd ["_law_script"] (spOf K (s_law K)) := by
  have G_is_integer := cl_is_integer (P := P) (w := w) (base := base) T 
  have G_is_name := cl_is_name (P := P) (w := w) (base := base) T 
  have G_is_short_name := cl_is_short_name (P := P) (w := w) (base := base) T 
  have G_is_choice_word := cl_is_choice_word (P := P) (w := w) (base := base) T 
  have G_is_kind := cl_is_kind (P := P) (w := w) (base := base) T G_is_integer G_is_choice_word
  have G_is_option := cl_is_option (P := P) (w := w) (base := base) T G_is_name G_is_short_name G_is_kind
  have G_check_options := cl_check_options (P := P) (w := w) (base := base) T G_is_option
  have G_names_of := cl_names_of (P := P) (w := w) (base := base) T 
  have G_check_grammar := cl_check_grammar (P := P) (w := w) (base := base) T G_check_options G_is_integer
  have G_check_line := cl_check_line (P := P) (w := w) (base := base) T 
  have G_is_token := cl_is_token (P := P) (w := w) (base := base) T 
  have G_check_tokens := cl_check_tokens (P := P) (w := w) (base := base) T G_is_token
  have G_Splitter___init__ := cl_Splitter___init__ (P := P) (w := w) (base := base) T 
  have G_Splitter_read_escaped := cl_Splitter_read_escaped (P := P) (w := w) (base := base) T 
  have G_Splitter_read_quoted := cl_Splitter_read_quoted (P := P) (w := w) (base := base) T G_Splitter_read_escaped
  have G_Splitter_read_token := cl_Splitter_read_token (P := P) (w := w) (base := base) T G_Splitter_read_quoted G_Splitter_read_escaped
  have G_Splitter_run := cl_Splitter_run (P := P) (w := w) (base := base) T G_Splitter_read_token
  have G_split_line := cl_split_line (P := P) (w := w) (base := base) T G_check_line G_Splitter_run G_Splitter___init__
  have G_better := cl_better (P := P) (w := w) (base := base) T 
  have G_quote_token := cl_quote_token (P := P) (w := w) (base := base) T G_better
  have G_parse_integer := cl_parse_integer (P := P) (w := w) (base := base) T 
  have G_matching_words := cl_matching_words (P := P) (w := w) (base := base) T 
  have G_value_of := cl_value_of (P := P) (w := w) (base := base) T G_is_token G_matching_words G_parse_integer
  have G_is_value := cl_is_value (P := P) (w := w) (base := base) T G_is_integer G_is_token
  have G_shortest_text := cl_shortest_text (P := P) (w := w) (base := base) T G_value_of
  have G_OptionTable___init__ := cl_OptionTable___init__ (P := P) (w := w) (base := base) T G_names_of
  have G_OptionTable_matches := cl_OptionTable_matches (P := P) (w := w) (base := base) T 
  have G_OptionTable_abbreviation := cl_OptionTable_abbreviation (P := P) (w := w) (base := base) T G_OptionTable_matches
  have G_is_bundle := cl_is_bundle (P := P) (w := w) (base := base) T 
  have G_is_long := cl_is_long (P := P) (w := w) (base := base) T 
  have G_is_ordinary := cl_is_ordinary (P := P) (w := w) (base := base) T G_is_bundle G_is_long
  have G_TokenReader___init__ := cl_TokenReader___init__ (P := P) (w := w) (base := base) T G_OptionTable___init__
  have G_TokenReader_add_word := cl_TokenReader_add_word (P := P) (w := w) (base := base) T 
  have G_TokenReader_start := cl_TokenReader_start (P := P) (w := w) (base := base) T 
  have G_TokenReader_assign := cl_TokenReader_assign (P := P) (w := w) (base := base) T G_value_of
  have G_TokenReader_read_long := cl_TokenReader_read_long (P := P) (w := w) (base := base) T G_OptionTable_matches G_TokenReader_start G_TokenReader_assign
  have G_TokenReader_read_bundle := cl_TokenReader_read_bundle (P := P) (w := w) (base := base) T G_TokenReader_start G_TokenReader_assign
  have G_TokenReader_read := cl_TokenReader_read (P := P) (w := w) (base := base) T G_TokenReader_assign G_is_ordinary G_TokenReader_add_word G_is_long G_TokenReader_read_long G_TokenReader_read_bundle
  have G_read_tokens := cl_read_tokens (P := P) (w := w) (base := base) T G_TokenReader___init__ G_TokenReader_read
  have G_check_both := cl_check_both (P := P) (w := w) (base := base) T G_check_grammar G_check_tokens
  have G_read_prefix := cl_read_prefix (P := P) (w := w) (base := base) T G_check_both G_read_tokens
  have G_check_arguments := cl_check_arguments (P := P) (w := w) (base := base) T G_is_value G_is_token
  have G_Writer_add := cl_Writer_add (P := P) (w := w) (base := base) T G_OptionTable_abbreviation
  have G_Writer_text := cl_Writer_text (P := P) (w := w) (base := base) T G_shortest_text
  have G_Writer_attached := cl_Writer_attached (P := P) (w := w) (base := base) T G_Writer_text G_quote_token
  have G_Writer_alone := cl_Writer_alone (P := P) (w := w) (base := base) T G_quote_token G_OptionTable_abbreviation G_Writer_text G_Writer_attached
  have G_Writer_options := cl_Writer_options (P := P) (w := w) (base := base) T G_Writer_alone G_Writer_attached
  have G_Writer___init__ := cl_Writer___init__ (P := P) (w := w) (base := base) T G_OptionTable___init__ G_Writer_add
  have G_compact := cl_compact (P := P) (w := w) (base := base) T G_check_grammar G_check_arguments G_Writer_options G_Writer___init__ G_is_ordinary G_quote_token
  have G__law_taken := cl__law_taken (P := P) (w := w) (base := base) T 
  have G__law_signs := cl__law_signs (P := P) (w := w) (base := base) T 
  have G__law_word := cl__law_word (P := P) (w := w) (base := base) T G__law_signs G__law_taken
  have G__law_kind := cl__law_kind (P := P) (w := w) (base := base) T G__law_taken
  have G__law_drawn_value := cl__law_drawn_value (P := P) (w := w) (base := base) T G__law_taken G__law_word
  have G__law_grammar := cl__law_grammar (P := P) (w := w) (base := base) T G__law_taken G__law_kind
  have G__law_tokens := cl__law_tokens (P := P) (w := w) (base := base) T G__law_taken G__law_drawn_value G__law_word
  have G__law_digits := cl__law_digits (P := P) (w := w) (base := base) T 
  have G__law_value := cl__law_value (P := P) (w := w) (base := base) T G__law_digits
  have G__law_long := cl__law_long (P := P) (w := w) (base := base) T 
  have G__law_bundle := cl__law_bundle (P := P) (w := w) (base := base) T G__law_value
  have G__law_option := cl__law_option (P := P) (w := w) (base := base) T G__law_bundle G__law_long G__law_value
  have G__law_read := cl__law_read (P := P) (w := w) (base := base) T G__law_value G__law_option
  have G__law_turned := cl__law_turned (P := P) (w := w) (base := base) T G__law_taken
  exact fn_law T F G__law_grammar G__law_tokens G__law_read G__law_turned G_compact G_read_prefix G_split_line
theorem law_sp {K : PySem.W.Frag} (H : Hp) (a : Addr) (ns : List Int) (h : SqL K H a (ns.map V.int)) : spOf K (s_law K) [.ref a] H (fun v _ => v = .bl true) fun _ _ _ => False := by
  refine ⟨H, fun _ => none, [.scr ns], fun v _ => v = .bl true, .cons (.scr h) .nil, ⟨Gx.refl H, fun b so e => by cases e⟩, rfl, ?_⟩
  intro v P' u Hb' H' hv _ _ r
  subst hv
  cases r
  rfl
theorem facts {P : Program} {w : World} {K : PySem.W.Frag} {h : Heap} {mg : Str → Option Value} {f : Addr} (X : K.In h) (G : h.Ns mainGlobals mg) (hfa : mg ("law" : Str) = some (.ref f)) (c : He.SaysD fa fn K) :
    ∃ fd : FuncData, (∀ (s : Shared) (v : Value), BindsTo s fd ⟨[v], []⟩ [("_law_script", v)]) ∧ ∀ base : Heap, K.In base → base.Ns mainGlobals mg → FnOk P w K mg base CX0 9 f fd ["_law_script"] (spOf K (s_law K)) := by
  have T := txt_mk X G c
  obtain ⟨fd, F⟩ := T.d_law
  have e := hfa.symm.trans T.g_law
  cases e
  have b := FunD.bindsA (ps := ["_law_script"]) F fun _ _ _ _ _ _ us hl => match us, hl with | [_], _ => rfl
  exact ⟨fd, fun s v => b s [v] rfl, fun base _ _ => law_ok T F⟩
end Fc
open PySem PySem.W PySem.Calls PyProof.Rows
theorem PySem.Challenge.cw_flagclause_k95_whole_options_in_any_orde_holds : PySem.Challenge.rw_flagclause_k95_whole_options_in_any_orde.Holds := by
  w_on; o_law
  refine HandSHeadRun.head_any (r := OpenLaw.row PySem.Challenge.rw_flagclause_k95_whole_options_in_any_orde) (q := view (OpenLaw.row PySem.Challenge.rw_flagclause_k95_whole_options_in_any_orde).prog [81]) (H := Fc.hk) (ob := Fc.ob) (M := 6000) (loose := Fc.names) (d := HandSHeadRun.topDef (OpenLaw.row PySem.Challenge.rw_flagclause_k95_whole_options_in_any_orde).prog 81) (kwd := []) Fc.ob_eq
    (by kernel_rfl) (fun s => by kernel_rfl) Fc.run (by kernel_rfl) (by kernel_rfl) (by kernel_rfl) (by rfl) (by first | assumption | decide +kernel) (by decide +kernel) ⟨rfl, rfl, rfl, rfl, rfl, by decide +kernel⟩ ?hw ?hc
  case hw => w_witness2
  case hc =>
    refine L2.walk_ofE (l := PySem.Challenge.rw_flagclause_k95_whole_options_in_any_orde) (n := 63) (k := 9) (x := "_law_script") (CX := L2.CX0) rfl (by decide) (by kernel_rfl) ⟨rfl, by decide, by decide⟩ ?F (fun _ _ _ _ z => z)
    intro w mg fa h Y G hmg0
    obtain ⟨K, KX, c⟩ := Y
    have hmg : mg ("law" : PySem.Str) = some (.ref fa) := by
      have e : (HandSHeadRun.topDef (OpenLaw.row PySem.Challenge.rw_flagclause_k95_whole_options_in_any_orde).prog 81).name = ("law" : PySem.Str) := by kernel_rfl
      rw [← e]
      exact hmg0
    obtain ⟨fd, hb, hF⟩ := Fc.facts (P := (PySem.Challenge.rw_flagclause_k95_whole_options_in_any_orde).prog) (w := w) KX G hmg c
    exact ⟨K, fd, _, KX, hb, fun H a ns _ _ hS => Fc.law_sp H a ns hS, hF⟩
