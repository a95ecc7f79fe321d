import PyProof.Rows.All
import Wide.All
import OpenK.AllK
import Wide.FinOn
import PySem.Challenge.RW_forcedsteer_k95_whole_claims_with_great
import HandS.Words
import HandS.Property
import HandS.Style
import HandS.Defaults
import KE.KStateDown
import HandS.Head0
import HandS.Head1
import HandS.Head2
import HandS.HeadHook1
import HandS.HeadHook2
import HandS.ForMost
import HandS.Wide
import HandS.WideBits
import HandS.Walk
import HandS.Evl
import HandS.Deep
import HandS.Zip
import HandS.TupAny
import HandS.TupMul
import HandS.IsInst
import HandS.Strs
import HandS.Flow
import HandS.Conv
import KE.GoesNew
import HandS.Ends
import HandS.EndBits
section
set_option Elab.async false
set_option linter.all false
set_option maxRecDepth 100000
set_option maxHeartbeats 0
set_option autoImplicit false
/-! The text by places; the top run in the kernel, piece by piece; printed by gen.py. -/
namespace Dl
open PySem PySem.Spec PyProof.Rows L2
def top (i : Nat) : Stmt := PySem.Challenge.pw_forcedsteer_k95_whole_claims_with_great.main.body.getD i (.Pass ⟨0, 0, 0, 0⟩)
abbrev s_is_integer : Stmt := top 13
abbrev s_is_within : Stmt := top 14
abbrev s_is_name : Stmt := top 15
abbrev s_wrong_part : Stmt := top 17
abbrev s_is_pair : Stmt := top 18
abbrev s_wrong_tie : Stmt := top 19
abbrev s_read_works : Stmt := top 21
abbrev s_wrong_leader : Stmt := top 24
abbrev s_is_strong_row : Stmt := top 30
abbrev s_wrong_row : Stmt := top 31
abbrev s_is_bar_row : Stmt := top 32
abbrev s_reduced : Stmt := top 37
abbrev s_plus : Stmt := top 38
abbrev s_minus : Stmt := top 39
abbrev s_times : Stmt := top 40
abbrev s_over : Stmt := top 41
abbrev s_is_fraction : Stmt := top 42
abbrev s_product_sum : Stmt := top 43
abbrev s_less_part : Stmt := top 44
abbrev s_stepped : Stmt := top 45
abbrev s_rank_of : Stmt := top 46
abbrev s_pushed_rows : Stmt := top 48
abbrev s_rank_by : Stmt := top 49
abbrev s_wrong_fraction : Stmt := top 51
abbrev s_day_of : Stmt := top 52
abbrev s_state_after : Stmt := top 53
abbrev s_bar_shown : Stmt := top 56
abbrev s_lot_shown : Stmt := top 57
abbrev s_way_shown : Stmt := top 58
abbrev s_accepts : Stmt := top 59
abbrev s_l_keg : Stmt := top 61
abbrev s_l_tap : Stmt := top 62
abbrev s_l_pick : Stmt := top 63
abbrev s_l_mixed : Stmt := top 64
abbrev s_l_crew : Stmt := top 65
abbrev s_l_roads : Stmt := top 66
abbrev s_l_heads : Stmt := top 67
abbrev s_l_page : Stmt := top 68
abbrev s_l_pushed : Stmt := top 69
abbrev s_l_alone : Stmt := top 70
abbrev s_l_game : Stmt := top 71
abbrev s_l_table : Stmt := top 72
abbrev s_l_cut : Stmt := top 73
abbrev s_l_free : Stmt := top 74
abbrev s_l_come : Stmt := top 75
abbrev s_l_does_steer : Stmt := top 76
abbrev s_l_asked : Stmt := top 77
abbrev s_l_barring : Stmt := top 78
abbrev s_l_low : Stmt := top 79
abbrev s_l_add : Stmt := top 80
abbrev s_l_fold : Stmt := top 81
abbrev s_l_after_day : Stmt := top 82
abbrev s_l_come_to : Stmt := top 83
abbrev s_l_wide_share : Stmt := top 84
abbrev s_l_edge : Stmt := top 85
abbrev s_l_bar_right : Stmt := top 86
abbrev s_l_edge_right : Stmt := top 87
abbrev s_l_way_right : Stmt := top 88
abbrev s_l_right : Stmt := top 89
abbrev s_law : Stmt := top 90
abbrev s_Init : Stmt := inClass (top 22) 0
abbrev s_Parts : Stmt := inClass (top 22) 2
abbrev s_Len : Stmt := inClass (top 22) 5
def D_is_integer : He.DefD := ⟨("is_integer", none), "is_integer", "is_integer", defArgs s_is_integer, defBody s_is_integer, defScope s_is_integer, [], []⟩
def D_is_within : He.DefD := ⟨("is_within", none), "is_within", "is_within", defArgs s_is_within, defBody s_is_within, defScope s_is_within, [], []⟩
def D_is_name : He.DefD := ⟨("is_name", none), "is_name", "is_name", defArgs s_is_name, defBody s_is_name, defScope s_is_name, [], []⟩
def D_wrong_part : He.DefD := ⟨("wrong_part", none), "wrong_part", "wrong_part", defArgs s_wrong_part, defBody s_wrong_part, defScope s_wrong_part, [], []⟩
def D_is_pair : He.DefD := ⟨("is_pair", none), "is_pair", "is_pair", defArgs s_is_pair, defBody s_is_pair, defScope s_is_pair, [], []⟩
def D_wrong_tie : He.DefD := ⟨("wrong_tie", none), "wrong_tie", "wrong_tie", defArgs s_wrong_tie, defBody s_wrong_tie, defScope s_wrong_tie, [], []⟩
def D_read_works : He.DefD := ⟨("read_works", none), "read_works", "read_works", defArgs s_read_works, defBody s_read_works, defScope s_read_works, [], []⟩
def D_wrong_leader : He.DefD := ⟨("wrong_leader", none), "wrong_leader", "wrong_leader", defArgs s_wrong_leader, defBody s_wrong_leader, defScope s_wrong_leader, [], []⟩
def D_is_strong_row : He.DefD := ⟨("is_strong_row", none), "is_strong_row", "is_strong_row", defArgs s_is_strong_row, defBody s_is_strong_row, defScope s_is_strong_row, [], []⟩
def D_wrong_row : He.DefD := ⟨("wrong_row", none), "wrong_row", "wrong_row", defArgs s_wrong_row, defBody s_wrong_row, defScope s_wrong_row, [], []⟩
def D_is_bar_row : He.DefD := ⟨("is_bar_row", none), "is_bar_row", "is_bar_row", defArgs s_is_bar_row, defBody s_is_bar_row, defScope s_is_bar_row, [], []⟩
def D_reduced : He.DefD := ⟨("reduced", none), "reduced", "reduced", defArgs s_reduced, defBody s_reduced, defScope s_reduced, [], []⟩
def D_plus : He.DefD := ⟨("plus", none), "plus", "plus", defArgs s_plus, defBody s_plus, defScope s_plus, [], []⟩
def D_minus : He.DefD := ⟨("minus", none), "minus", "minus", defArgs s_minus, defBody s_minus, defScope s_minus, [], []⟩
def D_times : He.DefD := ⟨("times", none), "times", "times", defArgs s_times, defBody s_times, defScope s_times, [], []⟩
def D_over : He.DefD := ⟨("over", none), "over", "over", defArgs s_over, defBody s_over, defScope s_over, [], []⟩
def D_is_fraction : He.DefD := ⟨("is_fraction", none), "is_fraction", "is_fraction", defArgs s_is_fraction, defBody s_is_fraction, defScope s_is_fraction, [], []⟩
def D_product_sum : He.DefD := ⟨("product_sum", none), "product_sum", "product_sum", defArgs s_product_sum, defBody s_product_sum, defScope s_product_sum, [], []⟩
def D_less_part : He.DefD := ⟨("less_part", none), "less_part", "less_part", defArgs s_less_part, defBody s_less_part, defScope s_less_part, [], []⟩
def D_stepped : He.DefD := ⟨("stepped", none), "stepped", "stepped", defArgs s_stepped, defBody s_stepped, defScope s_stepped, [], []⟩
def D_rank_of : He.DefD := ⟨("rank_of", none), "rank_of", "rank_of", defArgs s_rank_of, defBody s_rank_of, defScope s_rank_of, [], []⟩
def D_pushed_rows : He.DefD := ⟨("pushed_rows", none), "pushed_rows", "pushed_rows", defArgs s_pushed_rows, defBody s_pushed_rows, defScope s_pushed_rows, [], []⟩
def D_rank_by : He.DefD := ⟨("rank_by", none), "rank_by", "rank_by", defArgs s_rank_by, defBody s_rank_by, defScope s_rank_by, [], []⟩
def D_wrong_fraction : He.DefD := ⟨("wrong_fraction", none), "wrong_fraction", "wrong_fraction", defArgs s_wrong_fraction, defBody s_wrong_fraction, defScope s_wrong_fraction, [], []⟩
def D_day_of : He.DefD := ⟨("day_of", none), "day_of", "day_of", defArgs s_day_of, defBody s_day_of, defScope s_day_of, [], []⟩
def D_state_after : He.DefD := ⟨("state_after", none), "state_after", "state_after", defArgs s_state_after, defBody s_state_after, defScope s_state_after, [], []⟩
def D_bar_shown : He.DefD := ⟨("bar_shown", none), "bar_shown", "bar_shown", defArgs s_bar_shown, defBody s_bar_shown, defScope s_bar_shown, [], []⟩
def D_lot_shown : He.DefD := ⟨("lot_shown", none), "lot_shown", "lot_shown", defArgs s_lot_shown, defBody s_lot_shown, defScope s_lot_shown, [], []⟩
def D_way_shown : He.DefD := ⟨("way_shown", none), "way_shown", "way_shown", defArgs s_way_shown, defBody s_way_shown, defScope s_way_shown, [], []⟩
def D_accepts : He.DefD := ⟨("accepts", none), "accepts", "accepts", defArgs s_accepts, defBody s_accepts, defScope s_accepts, [], []⟩
def D_l_keg : He.DefD := ⟨("_law_keg", none), "_law_keg", "_law_keg", defArgs s_l_keg, defBody s_l_keg, defScope s_l_keg, [], []⟩
def D_l_tap : He.DefD := ⟨("_law_tap", none), "_law_tap", "_law_tap", defArgs s_l_tap, defBody s_l_tap, defScope s_l_tap, [], []⟩
def D_l_pick : He.DefD := ⟨("_law_pick", none), "_law_pick", "_law_pick", defArgs s_l_pick, defBody s_l_pick, defScope s_l_pick, [], []⟩
def D_l_mixed : He.DefD := ⟨("_law_mixed", none), "_law_mixed", "_law_mixed", defArgs s_l_mixed, defBody s_l_mixed, defScope s_l_mixed, [], []⟩
def D_l_crew : He.DefD := ⟨("_law_crew", none), "_law_crew", "_law_crew", defArgs s_l_crew, defBody s_l_crew, defScope s_l_crew, [], []⟩
def D_l_roads : He.DefD := ⟨("_law_roads", none), "_law_roads", "_law_roads", defArgs s_l_roads, defBody s_l_roads, defScope s_l_roads, [], []⟩
def D_l_heads : He.DefD := ⟨("_law_heads", none), "_law_heads", "_law_heads", defArgs s_l_heads, defBody s_l_heads, defScope s_l_heads, [], []⟩
def D_l_page : He.DefD := ⟨("_law_page", none), "_law_page", "_law_page", defArgs s_l_page, defBody s_l_page, defScope s_l_page, [], []⟩
def D_l_pushed : He.DefD := ⟨("_law_pushed", none), "_law_pushed", "_law_pushed", defArgs s_l_pushed, defBody s_l_pushed, defScope s_l_pushed, [], []⟩
def D_l_alone : He.DefD := ⟨("_law_alone", none), "_law_alone", "_law_alone", defArgs s_l_alone, defBody s_l_alone, defScope s_l_alone, [], []⟩
def D_l_game : He.DefD := ⟨("_law_game", none), "_law_game", "_law_game", defArgs s_l_game, defBody s_l_game, defScope s_l_game, [], []⟩
def D_l_table : He.DefD := ⟨("_law_table", none), "_law_table", "_law_table", defArgs s_l_table, defBody s_l_table, defScope s_l_table, [], []⟩
def D_l_cut : He.DefD := ⟨("_law_cut", none), "_law_cut", "_law_cut", defArgs s_l_cut, defBody s_l_cut, defScope s_l_cut, [], []⟩
def D_l_free : He.DefD := ⟨("_law_free", none), "_law_free", "_law_free", defArgs s_l_free, defBody s_l_free, defScope s_l_free, [], []⟩
def D_l_come : He.DefD := ⟨("_law_come", none), "_law_come", "_law_come", defArgs s_l_come, defBody s_l_come, defScope s_l_come, [], []⟩
def D_l_does_steer : He.DefD := ⟨("_law_does_steer", none), "_law_does_steer", "_law_does_steer", defArgs s_l_does_steer, defBody s_l_does_steer, defScope s_l_does_steer, [], []⟩
def D_l_asked : He.DefD := ⟨("_law_asked", none), "_law_asked", "_law_asked", defArgs s_l_asked, defBody s_l_asked, defScope s_l_asked, [], []⟩
def D_l_barring : He.DefD := ⟨("_law_barring", none), "_law_barring", "_law_barring", defArgs s_l_barring, defBody s_l_barring, defScope s_l_barring, [], []⟩
def D_l_low : He.DefD := ⟨("_law_low", none), "_law_low", "_law_low", defArgs s_l_low, defBody s_l_low, defScope s_l_low, [], []⟩
def D_l_add : He.DefD := ⟨("_law_add", none), "_law_add", "_law_add", defArgs s_l_add, defBody s_l_add, defScope s_l_add, [], []⟩
def D_l_fold : He.DefD := ⟨("_law_fold", none), "_law_fold", "_law_fold", defArgs s_l_fold, defBody s_l_fold, defScope s_l_fold, [], []⟩
def D_l_after_day : He.DefD := ⟨("_law_after_day", none), "_law_after_day", "_law_after_day", defArgs s_l_after_day, defBody s_l_after_day, defScope s_l_after_day, [], []⟩
def D_l_come_to : He.DefD := ⟨("_law_come_to", none), "_law_come_to", "_law_come_to", defArgs s_l_come_to, defBody s_l_come_to, defScope s_l_come_to, [], []⟩
def D_l_wide_share : He.DefD := ⟨("_law_wide_share", none), "_law_wide_share", "_law_wide_share", defArgs s_l_wide_share, defBody s_l_wide_share, defScope s_l_wide_share, [], []⟩
def D_l_edge : He.DefD := ⟨("_law_edge", none), "_law_edge", "_law_edge", defArgs s_l_edge, defBody s_l_edge, defScope s_l_edge, [], []⟩
def D_l_bar_right : He.DefD := ⟨("_law_bar_right", none), "_law_bar_right", "_law_bar_right", defArgs s_l_bar_right, defBody s_l_bar_right, defScope s_l_bar_right, [], []⟩
def D_l_edge_right : He.DefD := ⟨("_law_edge_right", none), "_law_edge_right", "_law_edge_right", defArgs s_l_edge_right, defBody s_l_edge_right, defScope s_l_edge_right, [], []⟩
def D_l_way_right : He.DefD := ⟨("_law_way_right", none), "_law_way_right", "_law_way_right", defArgs s_l_way_right, defBody s_l_way_right, defScope s_l_way_right, [], []⟩
def D_l_right : He.DefD := ⟨("_law_right", none), "_law_right", "_law_right", defArgs s_l_right, defBody s_l_right, defScope s_l_right, [], []⟩
def D_law : He.DefD := ⟨("law", none), "law", "law", defArgs s_law, defBody s_law, defScope s_law, [], []⟩
def D_Init : He.DefD := ⟨("Works", some "__init__"), "__init__", "Works.__init__", defArgs s_Init, defBody s_Init, defScope s_Init, [.adr (He.dflAt ("Works", some "__init__") 0)], []⟩
def D_Len : He.DefD := ⟨("Works", some "__len__"), "__len__", "Works.__len__", defArgs s_Len, defBody s_Len, defScope s_Len, [], []⟩
def fn1 : List He.DefD := [D_is_integer, D_is_within, D_is_name, D_wrong_part, D_is_pair, D_wrong_tie, D_read_works, D_wrong_leader, D_is_strong_row, D_wrong_row, D_is_bar_row, D_reduced, D_plus, D_minus, D_times, D_over, D_is_fraction, D_product_sum, D_less_part, D_stepped, D_rank_of, D_pushed_rows, D_rank_by, D_wrong_fraction, D_day_of, D_state_after, D_bar_shown, D_lot_shown, D_way_shown, D_accepts]
def fn2 : List He.DefD := [D_l_keg, D_l_tap, D_l_pick, D_l_mixed, D_l_crew, D_l_roads, D_l_heads, D_l_page, D_l_pushed, D_l_alone, D_l_game, D_l_table, D_l_cut, D_l_free, D_l_come, D_l_does_steer, D_l_asked, D_l_barring, D_l_low, D_l_add, D_l_fold, D_l_after_day, D_l_come_to, D_l_wide_share, D_l_edge, D_l_bar_right, D_l_edge_right, D_l_way_right, D_l_right, D_law, D_Init, D_Len]
def fnAll : List He.DefD := fn1 ++ fn2
def fa1 : List He.Fa := [.glo "is_integer", .glo "is_within", .glo "is_name", .glo "wrong_part", .glo "is_pair", .glo "wrong_tie", .glo "read_works", .glo "wrong_leader", .glo "is_strong_row", .glo "wrong_row", .glo "is_bar_row", .glo "reduced", .glo "plus", .glo "minus", .glo "times", .glo "over", .glo "is_fraction", .glo "product_sum", .glo "less_part", .glo "stepped", .glo "rank_of", .glo "pushed_rows", .glo "rank_by", .glo "wrong_fraction", .glo "day_of", .glo "state_after", .glo "bar_shown", .glo "lot_shown", .glo "way_shown", .glo "accepts"]
def fa2 : List He.Fa := [.glo "_law_keg", .glo "_law_tap", .glo "_law_pick", .glo "_law_mixed", .glo "_law_crew", .glo "_law_roads", .glo "_law_heads", .glo "_law_page", .glo "_law_pushed", .glo "_law_alone", .glo "_law_game", .glo "_law_table", .glo "_law_cut", .glo "_law_free", .glo "_law_come", .glo "_law_does_steer", .glo "_law_asked", .glo "_law_barring", .glo "_law_low", .glo "_law_add", .glo "_law_fold", .glo "_law_after_day", .glo "_law_come_to", .glo "_law_wide_share", .glo "_law_edge", .glo "_law_bar_right", .glo "_law_edge_right", .glo "_law_way_right", .glo "_law_right", .glo "law"]
def fa3 : List He.Fa := [.free "len", .free "range", .free "enumerate", .free "zip", .free "isinstance", .free "int", .free "bool", .free "str", .free "tuple", .free "list", .free "abs", .free "all", .free "any", .free "sum", .free "max", .free "min", .free "divmod", .free "repr", .int "MOST_PARTS" 8, .int "MOST_STRENGTH" 1000000, .int "LONGEST_NAME" 8, .str "LETTERS" "abcdefghijklmnopqrstuvwxyz", .str "DIGITS" "0123456789", .glo "NOUGHT", .glo "ONE", .glo "Works", .cls "Works", .noat "Works" "heads", .noat "Works" "roads", .noat "Works" "pushed", .meth "Works" "__len__", .mkr "Works"]
def faAll : List He.Fa := fa1 ++ (fa2 ++ fa3)
def nm1 : List PySem.Str := ["WrongValue", "InvalidText", "InvalidParts", "InvalidTies", "WrongName", "UnknownName", "MOST_PARTS", "MOST_STRENGTH", "LETTERS", "DIGITS", "LONGEST_NAME", "is_integer", "is_within", "is_name", "wrong_part", "is_pair", "wrong_tie", "lines_of", "read_works", "Works", "place_of", "wrong_leader", "only_unknown", "force_places", "lot_after", "is_strong_row", "wrong_row", "is_bar_row", "is_closed_off", "NOUGHT"]
def nm2 : List PySem.Str := ["ONE", "reduced", "plus", "minus", "times", "over", "is_fraction", "product_sum", "less_part", "stepped", "rank_of", "pushed_rows", "rank_by", "wrong_fraction", "day_of", "state_after", "is_empty", "bar_shown", "lot_shown", "way_shown", "accepts", "_law_keg", "_law_tap", "_law_pick", "_law_mixed", "_law_crew", "_law_roads", "_law_heads", "_law_page", "_law_pushed"]
def nm3 : List PySem.Str := ["_law_alone", "_law_game", "_law_table", "_law_cut", "_law_free", "_law_come", "_law_does_steer", "_law_asked", "_law_barring", "_law_low", "_law_add", "_law_fold", "_law_after_day", "_law_come_to", "_law_wide_share", "_law_edge", "_law_bar_right", "_law_edge_right", "_law_way_right", "_law_right"]
def nmAll : List PySem.Str := nm1 ++ nm2 ++ nm3
def nmX1 : List PySem.Str := ["is_integer", "is_within", "is_name", "wrong_part", "is_pair", "wrong_tie", "read_works", "wrong_leader", "is_strong_row", "wrong_row", "is_bar_row", "reduced", "plus", "minus", "times", "over", "is_fraction", "product_sum", "less_part", "stepped", "rank_of", "pushed_rows", "rank_by", "wrong_fraction", "day_of", "state_after", "bar_shown", "lot_shown", "way_shown", "accepts"]
def nmX2 : List PySem.Str := ["_law_keg", "_law_tap", "_law_pick", "_law_mixed", "_law_crew", "_law_roads", "_law_heads", "_law_page", "_law_pushed", "_law_alone", "_law_game", "_law_table", "_law_cut", "_law_free", "_law_come", "_law_does_steer", "_law_asked", "_law_barring", "_law_low", "_law_add", "_law_fold", "_law_after_day", "_law_come_to", "_law_wide_share", "_law_edge", "_law_bar_right", "_law_edge_right", "_law_way_right", "_law_right", "law", "NOUGHT", "ONE"]
def nmX : List PySem.Str := nmX1 ++ nmX2
/-! ### facts beyond the library's: a plain tuple, the property's getter -/
def tupNB (K : PySem.W.Frag) (x : Str) (vs : List V) : Bool := match K.lookup (He.ga K x) with
  | some ⟨.type c, none, .seq its _, _⟩ => decide (c = "tuple") && (decide (its.size ≤ sizeLine) && He.relAll vs its.toList)
  | _ => false
def propA (K : PySem.W.Frag) : Addr := match PySem.W.findIn K (.ref (He.ga K "Works")) "parts" with
  | some (some (.ref p)) => p
  | _ => 0
def getA (K : PySem.W.Frag) : Addr := match PySem.W.recIn K (propA K) "property" with
  | some (.ref g :: _) => g
  | _ => 0
def recB (K : PySem.W.Frag) : Bool := match PySem.W.recIn K (propA K) "property" with
  | some (.ref _ :: _) => true
  | _ => false
def propB (K : PySem.W.Frag) : Bool := He.eqO (PySem.W.findIn K (.ref (He.ga K "Works")) "parts") (some (some (.ref (propA K)))) && (He.eqO (PySem.W.specialIn K (.ref (propA K)) "__get__") (some (some (.builtin "property.__get__"))) && (decide (PySem.W.takesIn K (.ref (propA K)) = some true) && recB K))
def getW (K : PySem.W.Frag) : He.FnW := match K.lookup (getA K) with
  | some ⟨_, _, .func fd, _⟩ => some (fd.name, fd.qualname, fd.params, fd.body, fd.scope, fd.globals, fd.closure, fd.builtins)
  | _ => none
def noneB : Value → Bool
  | .none => true
  | _ => false
def getB (K : PySem.W.Frag) : Bool := PySem.W.keepIn K (.ref (getA K)) && (match K.lookup (getA K) with
  | some ⟨_, _, .func fd, _⟩ => PySem.W.codeIn K fd.code "Works.parts" && noneB fd.defaults
  | _ => false)
def exB (K : PySem.W.Frag) : Bool := tupNB K "NOUGHT" [.int 0, .int 1] && (tupNB K "ONE" [.int 1, .int 1] && (propB K && getB K))
def getVal : He.FnW := some ("parts", "Works.parts", defArgs s_Parts, .stmts (defBody s_Parts), defScope s_Parts, mainGlobals, [], builtinsNs)
abbrev AlX : Type := He.AlD × Bool × He.FnW
def obsX (K : PySem.W.Frag) : AlX := (He.obsD faAll fnAll K, exB K, getW K)
def valX : AlX := (He.valD fnAll, true, getVal)
structure SaysX (K : PySem.W.Frag) : Prop where
  c : He.SaysD faAll fnAll K
  x : exB K = true
  g : getW K = getVal
theorem says_of {K : PySem.W.Frag} (e : obsX K = valX) : SaysX K := ⟨congrArg (fun z : AlX => z.1) e, congrArg (fun z : AlX => z.2.1) e, congrArg (fun z : AlX => z.2.2) e⟩
/-- what is asked of the heap: the names' objects and what these name, the class and what it names in four steps -/
def kidsX (g : Addr → Option Obj) (as : List Addr) : List Addr := as.flatMap fun a => match g a with
  | some o => He.refsD o
  | none => []
def stepX (g : Addr → Option Obj) (as : List Addr) (k : List Addr → List Addr) : List Addr := as ++ k (kidsX g as)
def asY (g : Addr → Option Obj) (K : PySem.W.Frag) : List Addr := stepX g (nmX.map (He.ga K)) (fun a => a) ++ stepX g [He.ga K "Works"] fun a => stepX g a fun a => stepX g a fun a => stepX g a fun a => a
def asX (g : Addr → Option Obj) : List Addr := mainGlobals :: asY g (He.frG g [mainGlobals])
def hookX : PySem.W.Hook where
  α := AlX
  obs := fun s => obsX (He.frG s.heap.get? (asX s.heap.get?))
  val := fun _ => valX
  says := fun _ h => ∃ K : PySem.W.Frag, K.In h ∧ SaysX K
  of := fun _ _ e => ⟨_, He.frG_in, says_of e⟩
  keeps := fun _ _ _ ⟨K, hK, c⟩ k => ⟨K, PySem.W.Frag.In.keeps hK k, c⟩
def obX (s : PySem.W.SharedT) : AlX := obsX (He.frG (HandSHeadRun.getT s) (asX (HandSHeadRun.getT s)))
theorem obX_eq (s : PySem.W.SharedT) : obX s = hookX.obs s.abs := by
  have e : HandSHeadRun.getT s = s.abs.heap.get? := funext (HandSHeadRun.getT_eq s)
  unfold obX
  rw [e]
  rfl
abbrev R : PySem.W.OpenRow := PySem.W.OpenLaw.row PySem.Challenge.rw_forcedsteer_k95_whole_claims_with_great
abbrev qv : Program := PySem.W.view R.prog [90]
open HandSHeadRun in
noncomputable abbrev ends (w : World) (os : OsState) : Option PySem.W.SharedT := endF (stepQ (denQ tabQ) R.prog w) 14000 R.prog w os
/-- what the top has left, off the tree -/
def frT (s : PySem.W.SharedT) : PySem.W.Frag := He.frG (HandSHeadRun.getT s) (asX (HandSHeadRun.getT s))
open HandSHeadRun PySem.W PySem.Calls in
theorem run_a (w : World) (os : OsState) : (ends w os).map (fun s => (looksF R.prog (boot_heap w.params) s.abs, seenQ qv nmAll (importedModules R.prog.main.body) (fun s => xlAt qv [] s && recOk R.toRowW.records s) s.abs)) = some (true, openGood qv nmAll) := by
  kernel_rfl
theorem run_b (w : World) (os : OsState) : (ends w os).map obX = some valX := by
  kernel_rfl
theorem map_at {α β : Type} {f : α → β} {o : Option α} {s : α} {v : β} (hs : o = some s) (h : o.map f = some v) : f s = v := by
  rw [hs] at h
  exact Option.some.inj h
theorem run (w : World) : HandSHeadRun.RunEq R qv hookX obX 14000 nmAll w := by
  intro os
  obtain ⟨s, hs, ha⟩ := Option.map_eq_some_iff.mp (run_a w os)
  have eo : obX s = valX := map_at hs (run_b w os)
  show (ends w os).map _ = _
  rw [hs]
  show some (_, _, obX s) = some (true, _, valX)
  rw [eo]
  have h1 := congrArg (·.1) ha
  have h2 := congrArg (·.2) ha
  exact congrArg some (Prod.ext h1 (Prod.ext h2 rfl))

end Dl

end
section
set_option Elab.async false
set_option linter.all false
set_option maxRecDepth 100000
/-! The data layer, its words: what a def does, told over PyData alone. -/
namespace Dl
open PySem
abbrev D := PyData
/-- what a slot of a def holds: nothing told; data that never changes any more; a list that changes (f: made by this def; else lent to it); a list of such lists; the script; a Works -/
inductive Sl where
  | e
  | im (d : D)
  | own (f : Bool) (l : Addr) (ds : List D)
  | own2 (l : Addr) (rows : List (Addr × List D))
  | sq (ds : List D)
  | val (v : L2.V)
  | wk (p t u : D)
abbrev DE := List Sl
def Sl.adr : Sl → List Addr
  | .own _ l _ => [l]
  | .own2 l rows => l :: rows.map (·.1)
  | _ => []
def Sl.pure : Sl → Prop
  | .im _ => True
  | .wk _ _ _ => True
  | .sq _ => True
  | .val _ => True
  | _ => False
abbrev DP := Sl → DE → Prop
abbrev DTE := DE → DP → Prop
abbrev DTF := DE → (List D → DE → Prop) → Prop
abbrev DTT := DE → (Bool → DE → Prop) → Prop
abbrev DTA := DE → (List Sl → DE → Prop) → Prop
abbrev DTI := DE → (List D → DE → Prop) → Prop
abbrev DTG := Sl → DE → (DE → Prop) → Prop
abbrev DTGs := List D → DE → (DE → Prop) → Prop
structure DEnds where
  nx : DE → Prop
  rt : Sl → DE → Prop
  bk : DE → Prop := fun _ => False
  ct : DE → Prop := fun _ => False
abbrev DTS := DEnds → DE → Prop
abbrev Op1 := D → (D → Prop) → Prop
abbrev Op2 := D → D → (D → Prop) → Prop

/-! ### reading a slot -/
def rdW (s : Sl) (k : D → Prop) : Prop := match s with
  | .im d => k d
  | .own _ _ ds => k (.list ds)
  | _ => False
def look (δ : DE) (i : Nat) (k : Sl → Prop) : Prop := match δ[i]? with
  | none => False
  | some .e => False
  | some s => k s
def Sl.isOwn : Sl → Prop
  | .own _ _ _ => True
  | _ => False
/-! ### operations by values -/
def oAdd : Op2 := fun a b k => match a, b with
  | .int i, .int j => k (.int (i + j))
  | .str x, .str y => x.length + y.length ≤ sizeLine ∧ k (.str (x ++ y))
  | .list xs, .list ys => xs.length + ys.length ≤ sizeLine ∧ k (.list (xs ++ ys))
  | .tuple xs, .tuple ys => xs.length + ys.length ≤ sizeLine ∧ k (.tuple (xs ++ ys))
  | _, _ => False
def oSub : Op2 := fun a b k => match a, b with
  | .int i, .int j => k (.int (i - j))
  | _, _ => False
def oMul : Op2 := fun a b k => match a, b with
  | .int i, .int j => L2.CMulX i j ∧ k (.int (i * j))
  | .tuple xs, .int n => xs ≠ [] ∧ 2 ≤ n ∧ n ≤ 1000 ∧ xs.length ≤ 1000 ∧ k (.tuple (List.replicate n.toNat xs).flatten)
  | _, _ => False
def oDiv : Op2 := fun a b k => match a, b with
  | .int i, .int j => L2.CDivW i j ∧ k (.int (i / j))
  | _, _ => False
def oMod : Op2 := fun a b k => match a, b with
  | .int i, .int j => 0 < j ∧ k (.int (i % j))
  | _, _ => False
def oPow : Op2 := fun a b k => match a, b with
  | .int i, .int j => L2.CPow i j ∧ k (.int (i ^ j.toNat))
  | _, _ => False
def oEq : Op2 := fun a b k => match a, b with
  | .int i, .int j => k (.bool (decide (i = j)))
  | .str i, .str j => k (.bool (decide (i = j)))
  | .bool i, .bool j => k (.bool (decide (i = j)))
  | a, b => SeqAt.shaped a = true ∧ SeqAt.shaped b = true ∧ k (.bool (PyData.eqv a b))
def oNe : Op2 := fun a b k => match a, b with
  | .int i, .int j => k (.bool (!decide (i = j)))
  | .str i, .str j => k (.bool (!decide (i = j)))
  | .bool i, .bool j => k (.bool (!decide (i = j)))
  | a, b => SeqAt.shaped a = true ∧ SeqAt.shaped b = true ∧ k (.bool (!PyData.eqv a b))
def oLt : Op2 := fun a b k => match a, b with
  | .int i, .int j => k (.bool (decide (i < j)))
  | _, _ => False
def oLe : Op2 := fun a b k => match a, b with
  | .int i, .int j => k (.bool (decide (i ≤ j)))
  | _, _ => False
def oGt : Op2 := fun a b k => match a, b with
  | .int i, .int j => k (.bool (decide (j < i)))
  | _, _ => False
def oGe : Op2 := fun a b k => match a, b with
  | .int i, .int j => k (.bool (decide (j ≤ i)))
  | _, _ => False
def oIn : Op2 := fun a b k => match b with
  | .list ds => SeqAt.shaped a = true ∧ SeqAt.shaped (.list ds) = true ∧ k (.bool (ds.any fun z => PyData.eqv z a))
  | .tuple ds => SeqAt.shaped a = true ∧ SeqAt.shaped (.list ds) = true ∧ k (.bool (ds.any fun z => PyData.eqv z a))
  | .str z => ∃ c : Nat, a = .str ⟨#[c]⟩ ∧ k (.bool (decide (c ∈ z.cps.toList)))
  | _ => False
def oNotIn : Op2 := fun a b k => match b with
  | .list ds => SeqAt.shaped a = true ∧ SeqAt.shaped (.list ds) = true ∧ k (.bool (!ds.any fun z => PyData.eqv z a))
  | .tuple ds => SeqAt.shaped a = true ∧ SeqAt.shaped (.list ds) = true ∧ k (.bool (!ds.any fun z => PyData.eqv z a))
  | .str z => ∃ c : Nat, a = .str ⟨#[c]⟩ ∧ k (.bool (!decide (c ∈ z.cps.toList)))
  | _ => False
def isN : D → Bool
  | .none => true
  | _ => false
def oIsN : Op2 := fun a b k => match b with
  | .none => k (.bool (isN a))
  | _ => False
def oIx : Op2 := fun a b k => match a, b with
  | .list ds, .int i => ∃ d, L2.atI ds i = some d ∧ k d
  | .tuple ds, .int i => ∃ d, L2.atI ds i = some d ∧ k d
  | .str z, .int i => z.length ≤ sizeLine ∧ ∃ c, L2.atI z.cps.toList i = some c ∧ k (.str ⟨#[c]⟩)
  | _, _ => False
def oNeg : Op1 := fun a k => match a with
  | .int i => k (.int (-i))
  | _ => False
def cutD {α : Type} (xs : List α) (lo hi : Option Int) : List α := (xs.drop (HT.sIx xs.length 0 lo)).take (HT.sIx xs.length xs.length hi - HT.sIx xs.length 0 lo)
def oSl (a : D) (lo hi : Option Int) (k : D → Prop) : Prop := match a with
  | .list ds => k (.list (cutD ds lo hi))
  | .tuple ds => k (.tuple (cutD ds lo hi))
  | _ => False
/-! built-ins of one argument -/
def oAbs : Op1 := fun a k => match a with
  | .int i => k (.int (if i < 0 then -i else i))
  | _ => False
def oInt : Op1 := fun a k => match a with
  | .int i => k (.int i)
  | .bool b => k (.int (if b then 1 else 0))
  | _ => False
def oTuple : Op1 := fun a k => match a with
  | .list ds => k (.tuple ds)
  | .tuple ds => k (.tuple ds)
  | _ => False
def oAll : Op1 := fun a k => match a with
  | .list ds => ∃ bs : List Bool, ds = bs.map PyData.bool ∧ k (.bool (bs.all id))
  | _ => False
def oAny : Op1 := fun a k => match a with
  | .list ds => ∃ bs : List Bool, ds = bs.map PyData.bool ∧ k (.bool (bs.any id))
  | _ => False
def oSum : Op1 := fun a k => match a with
  | .list ds => ∃ ns : List Int, ds = ns.map PyData.int ∧ k (.int ns.sum)
  | _ => False
def oMax2 : Op2 := fun a b k => match a, b with
  | .int i, .int j => k (.int (if j > i then j else i))
  | _, _ => False
def oMin2 : Op2 := fun a b k => match a, b with
  | .int i, .int j => k (.int (if j < i then j else i))
  | _, _ => False
def oDivmod : Op2 := fun a b k => match a, b with
  | .int i, .int j => L2.CDivP i j ∧ k (.tuple [.int (i / j), .int (i % j)])
  | _, _ => False
/-- isinstance(x, T) with T one of int, bool, str, tuple -/
def isTy (T : String) : D → Bool
  | .int _ => T == "int"
  | .bool _ => T == "bool" || T == "int"
  | .str _ => T == "str"
  | .tuple _ => T == "tuple"
  | .list _ => T == "list"
  | _ => false
def oIsTy (T : String) : Op1 := fun a k => match a with
  | .dict _ => False
  | a => k (.bool (isTy T a))
def oReprB : Op1 := fun a k => match a with
  | .list [.bool a, .bool b] => k (.str ("[" ++ (if a then ("True" : Str) else "False") ++ ", " ++ (if b then ("True" : Str) else "False") ++ "]"))
  | _ => False

/-! ### expressions -/
def dVar (i : Nat) : DTE := fun δ P => look δ i fun s => P s δ
def dC (d : D) : DTE := fun δ P => P (.im d) δ
def dBin (f : Op2) (da db : DTE) : DTE := fun δ P => da δ fun x δ1 => ∃ a, x = .im a ∧ db δ1 fun y δ2 => rdW y fun b => f a b fun z => P (.im z) δ2
/-- the left one a name -/
def dBinV (f : Op2) (i : Nat) (db : DTE) : DTE := fun δ P => look δ i fun _ => db δ fun y δ2 => rdW y fun b => look δ2 i fun x => rdW x fun a => f a b fun z => P (.im z) δ2
/-- a name's item; the script's too -/
def dIxV (i : Nat) (db : DTE) : DTE := fun δ P => look δ i fun _ => db δ fun y δ2 => rdW y fun b => look δ2 i fun x => match x with
  | .sq ds => oIx (.list ds) b fun z => P (.im z) δ2
  | .im a => oIx a b fun z => P (.im z) δ2
  | .own _ _ ds => oIx (.list ds) b fun z => P (.im z) δ2
  | _ => False
/-- table[j][i], a list of one's own lists -/
def dIx2 (t : Nat) (dj di : DTE) : DTE := fun δ P => look δ t fun _ => dj δ fun y δ1 => ∃ zj, y = .im (.int zj) ∧ look δ1 t fun s1 => ∃ l rows r, s1 = .own2 l rows ∧ L2.atI rows zj = some r ∧ di δ1 fun x δ2 => ∃ zi, x = .im (.int zi) ∧ look δ2 t fun s => ∃ rows2 r2 d, s = .own2 l rows2 ∧ L2.atI rows2 zj = some r2 ∧ r2.1 = r.1 ∧ L2.atI r2.2 zi = some d ∧ P (.im d) δ2
def dUn (f : Op1) (da : DTE) : DTE := fun δ P => da δ fun x δ1 => rdW x fun a => f a fun z => P (.im z) δ1
def dNot (da : DTE) : DTE := fun δ P => da δ fun x δ1 => ∃ b, x = .im (.bool b) ∧ P (.im (.bool (!b))) δ1
def dAnd (da db : DTE) : DTE := fun δ P => da δ fun x δ1 => ∃ c, x = .im (.bool c) ∧ if c = true then db δ1 P else P (.im (.bool false)) δ1
def dOr (da db : DTE) : DTE := fun δ P => da δ fun x δ1 => ∃ c, x = .im (.bool c) ∧ if c = true then P (.im (.bool true)) δ1 else db δ1 P
def dChain (f g : Op2) (da db dc : DTE) : DTE := fun δ P => da δ fun x δ1 => ∃ a, x = .im a ∧ db δ1 fun y δ2 => ∃ b, y = .im b ∧ f a b fun z => ∃ k, z = .bool k ∧
  if k = true then dc δ2 fun w δ3 => rdW w fun c => g b c fun z => P (.im z) δ3 else P (.im (.bool false)) δ2
def dIfE (dt : DTT) (da db : DTE) : DTE := fun δ P => dt δ fun c δ1 => if c = true then da δ1 P else db δ1 P
def dNil : DTA := fun δ P => P [] δ
def dCons (da : DTE) (dr : DTA) : DTA := fun δ P => da δ fun s δ1 => s.pure ∧ dr δ1 fun ss δ2 => P (s :: ss) δ2
/-- a list just made, as an argument: own -/
def dConsF (df : DTF) (dr : DTA) : DTA := fun δ P => df δ fun ds δ1 => ∀ l, (∀ s ∈ δ1, l ∉ s.adr) → dr δ1 fun ss δ2 => P (.own true l ds :: ss) δ2
def datOf : List Sl → Option (List D)
  | [] => some []
  | .im d :: r => (datOf r).map (d :: ·)
  | _ => none
def dTup (da : DTA) : DTE := fun δ P => da δ fun ss δ1 => ∃ ds, datOf ss = some ds ∧ ds.length ≤ sizeLine ∧ P (.im (.tuple ds)) δ1
/-! lists just made -/
def fLst (da : DTA) : DTF := fun δ P => da δ fun ss δ1 => ∃ ds, datOf ss = some ds ∧ ds.length ≤ sizeLine ∧ P ds δ1
def fList (da : DTE) : DTF := fun δ P => da δ fun x δ1 => match x with
  | .im (.list ds) => P ds δ1
  | .im (.tuple ds) => P ds δ1
  | .own _ _ ds => P ds δ1
  | _ => False
def dFr (df : DTF) : DTE := fun δ P => df δ fun ds δ1 => P (.im (.list ds)) δ1
def dSl (da : DTE) (dl dh : DE → (Option Int → DE → Prop) → Prop) : DTE := fun δ P => da δ fun x δ1 => ∃ a, x = .im a ∧ dl δ1 fun lo δ2 => dh δ2 fun hi δ3 => oSl a lo hi fun z => P (.im z) δ3
def dNoP : DE → (Option Int → DE → Prop) → Prop := fun δ P => P none δ
def dP (da : DTE) : DE → (Option Int → DE → Prop) → Prop := fun δ P => da δ fun x δ1 => ∃ i, x = .im (.int i) ∧ P (some i) δ1
def dLen (da : DTE) : DTE := fun δ P => da δ fun x δ1 => match x with
  | .im (.list ds) => P (.im (.int ds.length)) δ1
  | .im (.tuple ds) => P (.im (.int ds.length)) δ1
  | .im (.str z) => z.length ≤ sizeLine ∧ P (.im (.int z.length)) δ1
  | .own _ _ ds => P (.im (.int ds.length)) δ1
  | .sq ds => P (.im (.int ds.length)) δ1
  | _ => False
/-- len(works) -/
def dLenW (i : Nat) : DTE := fun δ P => look δ i fun x => match x with
  | .wk (.tuple ps) _ _ => P (.im (.int ps.length)) δ
  | _ => False
def dB2 (f : Op2) (da db : DTE) : DTE := fun δ P => da δ fun x δ1 => ∃ a, x = .im a ∧ db δ1 fun y δ2 => ∃ b, y = .im b ∧ f a b fun z => P (.im z) δ2
/-- works.parts, works.pushed -/
def dParts (da : DTE) : DTE := fun δ P => da δ fun x δ1 => match x with
  | .wk p _ _ => P (.im p) δ1
  | _ => False
def dPushed (da : DTE) : DTE := fun δ P => da δ fun x δ1 => match x with
  | .wk _ _ u => P (.im u) δ1
  | _ => False
/-- a def's call; a def that is lent the list at slot i as its first argument -/
def dCall (pre : List Sl → Prop) (post : List Sl → D → Prop) (da : DTA) : DTE := fun δ P => da δ fun as δ1 => pre as ∧ ∀ r, post as r → P (.im r) δ1
def dCallK (i : Nat) (pre : List D → List Sl → Prop) (post : List D → List Sl → D → List D → Prop) (da : DTA) : DTE := fun δ P => look δ i fun _ => da δ fun as δ1 => look δ1 i fun s => match s with
  | .own f l k => pre k as ∧ ∀ r k', post k as r k' → P (.im r) (δ1.set i (.own f l k'))
  | _ => False
/-- f(b = e1, a = e2), the parameters being a, b -/
def dCallS (pre : List Sl → Prop) (post : List Sl → D → Prop) (da : DTA) : DTE := fun δ P => da δ fun as δ1 => match as with
  | [x, y] => pre [y, x] ∧ ∀ r, post [y, x] r → P (.im r) δ1
  | _ => False
/-- a def that hands back a list just made -/
def fCall (pre : List Sl → Prop) (post : List Sl → List D → Prop) (da : DTA) : DTF := fun δ P => da δ fun as δ1 => pre as ∧ ∀ r, post as r → P r δ1
/-- f(g(..)), f lent the list that g made -/
def dCallF (pre : List D → List Sl → Prop) (post : List D → List Sl → D → List D → Prop) (df : DTF) : DTE := fun δ P => df δ fun k δ1 => pre k [] ∧ ∀ r k', post k [] r k' → P (.im r) δ1
/-- Works(parts, ties) -/
def dMake (pre : D → D → Prop) (u : D → D → D) (da : DTA) : DTE := fun δ P => da δ fun as δ1 => match as with
  | [.im p, .im t] => pre p t ∧ P (.wk p t (u p t)) δ1
  | _ => False
/-- xs.pop(i), a list of one's own -/
def dPop (i : Nat) (da : DTE) : DTE := fun δ P => look δ i fun s0 => s0.isOwn ∧ da δ fun x δ1 => look δ1 i fun s => match s, x with
  | .own f l ds, .im (.int n) => 0 ≤ n ∧ n < 2 ^ 62 ∧ ∃ d, ds[n.toNat]? = some d ∧ P (.im d) (δ1.set i (.own f l (ds.eraseIdx n.toNat)))
  | _, _ => False
/-- t.index(x): texts -/
def dIndex (da db : DTE) : DTE := fun δ P => da δ fun x δ1 => ∃ ys : List Str, x = .im (.tuple (ys.map PyData.str)) ∧ db δ1 fun y δ2 => ∃ z, y = .im (.str z) ∧ ∃ j : Nat, ys[j]? = some z ∧ (∀ m, m < j → ys[m]? ≠ some z) ∧ P (.im (.int j)) δ2
def dSplit (da : DTE) (b : Str) : DTF := fun δ P => da δ fun x δ1 => ∃ a, x = .im (.str a) ∧ (b.length == 0) = false ∧ a.length + 2 ≤ sizeLine ∧ P ((PySem.Txt.split a b).map PyData.str) δ1
def dJoin (a : Str) (da : DTE) : DTE := fun δ P => da δ fun x δ1 => ∃ ys : List Str, (x = .im (.tuple (ys.map PyData.str)) ∨ x = .im (.list (ys.map PyData.str))) ∧ (ys.map (·.length)).sum + ys.length * a.length ≤ 16777216 ∧ P (.im (.str (PySem.Txt.join a ys))) δ1

/-! ### tests -/
def dTst (da : DTE) : DTT := fun δ P => da δ fun x δ1 => ∃ b, x = .im (.bool b) ∧ P b δ1
def dAndT (da db : DTT) : DTT := fun δ P => da δ fun c δ1 => if c = true then db δ1 P else P false δ1
def dOrT (da db : DTT) : DTT := fun δ P => da δ fun c δ1 => if c = true then P true δ1 else db δ1 P
def dNotT (da : DTT) : DTT := fun δ P => da δ fun c δ1 => P (!c) δ1
def dYes : DTT := fun δ P => P true δ

/-! ### what is walked -/
def iSeq (da : DTE) : DTI := fun δ P => da δ fun x δ1 => match x with
  | .im (.list ds) => P ds δ1
  | .im (.tuple ds) => P ds δ1
  | _ => False
/-- a text's signs -/
def charsD (z : Str) : List D := z.cps.toList.map fun c => PyData.str ⟨#[c]⟩
def iChars (da : DTE) : DTI := fun δ P => da δ fun x δ1 => match x with
  | .im (.str z) => P (charsD z) δ1
  | _ => False
def intsD (n : Nat) : List D := (List.range n).map fun i => PyData.int (i : Nat)
def iRange (da : DTE) : DTI := fun δ P => da δ fun x δ1 => ∃ n, x = .im (.int n) ∧ n < 2 ^ 62 ∧ -(2 ^ 62) ≤ n ∧ P (intsD n.toNat) δ1
def enumD : Nat → List D → List D
  | _, [] => []
  | i, d :: r => .tuple [.int (i : Nat), d] :: enumD (i + 1) r
def iEnum (da : DTE) : DTI := fun δ P => da δ fun x δ1 => match x with
  | .im (.list ds) => P (enumD 0 ds) δ1
  | .im (.tuple ds) => P (enumD 0 ds) δ1
  | _ => False
def zipD (xs ys : List D) : List D := (xs.zip ys).map fun p => .tuple [p.1, p.2]
def seqD : D → Option (List D)
  | .list ds => some ds
  | .tuple ds => some ds
  | _ => none
def iZip (da db : DTE) : DTI := fun δ P => da δ fun x δ1 => ∃ a xs, x = .im a ∧ seqD a = some xs ∧ db δ1 fun y δ2 => ∃ b ys, y = .im b ∧ seqD b = some ys ∧ P (zipD xs ys) δ2

/-! ### targets -/
def gN (i : Nat) : DTG := fun s δ P => P (δ.set i s)
def gsNil : DTGs := fun ds δ P => ds = [] ∧ P δ
def gsCons (g : DTG) (gs : DTGs) : DTGs := fun ds δ P => match ds with
  | d :: r => g (.im d) δ fun δ1 => gs r δ1 P
  | [] => False
def gTu (gs : DTGs) (n : Nat) : DTG := fun s δ P => match s with
  | .im (.tuple ds) => ds.length = n ∧ gs ds δ P
  | _ => False
/-- xs[j] = .., a list of one's own at slot i -/
def gSet (i : Nat) (dj : DTE) : DTG := fun s δ P => look δ i fun _ => dj δ fun y δ1 => look δ1 i fun t => match t, y, s with
  | .own f l ds, .im (.int z), .im d => ∃ j, L2.ixN ds.length z = some j ∧ P (δ1.set i (.own f l (ds.set j d)))
  | _, _, _ => False
/-- table[j][i] = .. -/
def gSet2 (t : Nat) (dj di : DTE) : DTG := fun s δ P => look δ t fun _ => dj δ fun y δ1 => ∃ zj, y = .im (.int zj) ∧ look δ1 t fun s1 => ∃ l rows r, s1 = .own2 l rows ∧ L2.atI rows zj = some r ∧ di δ1 fun x δ2 => ∃ zi, x = .im (.int zi) ∧ look δ2 t fun o => ∃ rows2 j r2 i d, o = .own2 l rows2 ∧ s = .im d ∧ L2.ixN rows2.length zj = some j ∧ rows2[j]? = some r2 ∧ r2.1 = r.1 ∧ L2.ixN r2.2.length zi = some i ∧ P (δ2.set t (.own2 l (rows2.set j (r2.1, r2.2.set i d))))

/-! ### statements -/
def dNext : DTS := fun n δ => n.nx δ
def dSeq (t u : DTS) : DTS := fun n δ => t { n with nx := u n } δ
def dAsg (de : DTE) (g : DTG) : DTS := fun n δ => de δ fun s δ1 => s.pure ∧ g s δ1 n.nx
/-- name = a list just made, to be changed -/
def dAsgO (df : DTF) (i : Nat) : DTS := fun n δ => df δ fun ds δ1 => ∀ l, (∀ s ∈ δ1, l ∉ s.adr) → n.nx (δ1.set i (.own true l ds))
def dPar (i j : Nat) (da : DTA) : DTS := fun n δ => da δ fun ss δ1 => ∃ s t, ss = [s, t] ∧ n.nx ((δ1.set i s).set j t)
def dPar3 (i j l : Nat) (da : DTA) : DTS := fun n δ => da δ fun ss δ1 => ∃ s t u, ss = [s, t, u] ∧ n.nx (((δ1.set i s).set j t).set l u)
def dDrop (de : DTE) : DTS := fun n δ => de δ fun _ δ1 => n.nx δ1
/-- xs.append(e), a list of one's own at slot i -/
def dApp (i : Nat) (de : DTE) : DTS := fun n δ => look δ i fun s0 => s0.isOwn ∧ de δ fun x δ1 => ∃ d, x = .im d ∧ look δ1 i fun s => match s with
  | .own f l ds => ds.length < sizeLine ∧ n.nx (δ1.set i (.own f l (ds ++ [d])))
  | _ => False
def dRet (de : DTE) : DTS := fun n δ => de δ fun s δ1 => s.pure ∧ n.rt s δ1
def dRetF (df : DTF) : DTS := fun n δ => df δ fun ds δ1 => ∀ l, (∀ s ∈ δ1, l ∉ s.adr) → n.rt (.own true l ds) δ1
def dIf (c : DTT) (t u : DTS) : DTS := fun n δ => c δ fun b δ1 => if b = true then t n δ1 else u n δ1
def dBrk : DTS := fun n δ => n.bk δ
def dNever : DTS := fun _ _ => False
def dFor (di : DTI) (g : DTG) (tb : DTS) : DTS := fun n δ => di δ fun items δ1 => ∃ Inv : Nat → DE → Prop, Inv 0 δ1 ∧
  (∀ i x δ', items[i]? = some x → Inv i δ' → g (.im x) δ' fun δ2 => tb { nx := Inv (i + 1), ct := Inv (i + 1), bk := n.nx, rt := n.rt } δ2) ∧ ∀ δ', Inv items.length δ' → n.nx δ'
def dWhile (c : DTT) (tb : DTS) : DTS := fun n δ => ∃ W : Nat → DE → Prop, (∃ m, W m δ) ∧ ∀ m δ, W m δ → c δ fun b δ1 => if b = true then tb { n with nx := fun δ' => ∃ m', m' < m ∧ W m' δ', ct := fun δ' => ∃ m', m' < m ∧ W m' δ', bk := n.nx } δ1 else n.nx δ1
/-- a list of one's own is not changed any more -/
def dFrz (i : Nat) (t : DTS) : DTS := fun n δ => look δ i fun s => match s with
  | .own true _ ds => t n (δ.set i (.im (.list ds)))
  | .own2 _ rows => t n (δ.set i (.im (.list (rows.map fun r => .list r.2))))
  | _ => False

/-! ### comprehensions -/
def wipeD (δ : DE) : List Nat → DE
  | [] => δ
  | i :: r => wipeD (δ.set i .e) r
def dLc (di : DTI) (g : DTG) (tt : DTT) (te : DTE) (vs : List Nat) : DTF := fun δ P => di δ fun items δ1 => items.length ≤ sizeLine ∧ ∃ Inv : Nat → List D → DE → Prop, Inv 0 [] (wipeD δ1 vs) ∧
  (∀ i x acc δ', items[i]? = some x → Inv i acc δ' → g (.im x) δ' fun δ2 => tt δ2 fun b δ3 => if b = true then te δ3 fun y δ4 => ∃ d, y = .im d ∧ Inv (i + 1) (acc ++ [d]) (wipeD δ4 vs) else Inv (i + 1) acc (wipeD δ3 vs)) ∧
  ∀ acc δ', Inv items.length acc δ' → P acc δ'
def dOne2 (df : DTF) : DTA := fun δ P => df δ fun ds δ1 => ∀ l rows, (rows.map fun r : Addr × List D => PyData.list r.2) = ds → P [.own2 l rows] δ1
/-- [list(v) for v in ..], tuples walked, v at slot v -/
def d2Lc (di : DTI) (v : Nat) : DTF := fun δ P => di δ fun items δ1 => items.length ≤ sizeLine ∧ v < δ1.length ∧ ∃ dss : List (List D), items = dss.map PyData.tuple ∧ P (dss.map PyData.list) (wipeD δ1 [v])
end Dl

end
section
set_option Elab.async false
set_option linter.all false
set_option maxRecDepth 100000
set_option maxHeartbeats 4000000
set_option autoImplicit false
/-! New tuples, told by their own object (no dict of its own): t.index(x) asks it. -/
namespace Dl
open PySem PySem.Spec PyProof.Rows L2
def PlT (o : Obj) : Prop := o.dict = none
/-- a tuple without a dict of its own: made here, or of the module -/
def TpA (K : PySem.W.Frag) (H : Hp) (a : Addr) (xs : List V) : Prop :=
  (∃ o, H a = some (.frz o (.tup xs)) ∧ PlT o) ∨
    ∃ (o : Obj) (its : Array Value) (n : Nat), K.lookup a = some o ∧ o.cls = .type "tuple" ∧ PlT o ∧ o.data = .seq its n ∧ its.size ≤ sizeLine ∧ Vals xs its.toList
theorem TpA.sq {K : PySem.W.Frag} {H : Hp} {a : Addr} {xs : List V} (h : TpA K H a xs) : SqT K H a xs := by
  rcases h with ⟨o, h, _⟩ | ⟨o, its, n, h1, h2, _, h3, h4, h5⟩
  · exact .inl (.inr ⟨o, h⟩)
  · exact .inr ⟨o, its, n, h1, h2, h3, h4, h5⟩
theorem TpA.ex {K : PySem.W.Frag} {H H' : Hp} {a : Addr} {xs : List V} (e : Evl.Ex H H') (h : TpA K H a xs) : TpA K H' a xs := by
  rcases h with ⟨o, h, p⟩ | h
  · exact .inl ⟨o, e _ _ h, p⟩
  · exact .inr h
section
variable {X : Cx} {e : Expr} {es : List Expr} {pos : Pos} {t : TA}
/-- a new plain tuple of these -/
def NewT (xs : List V) (H : Hp) (Q : VK) : Prop := ∀ p o, H p = none → PlT o → Q (.ref p) (upd H p (.frz o (.tup xs)))
theorem fz_ok {P : Program} {w : World} {H : Hp} {h : Heap} {p : Addr} {xs : List V} {us : List Value} (z : xs.length ≤ sizeLine) (r : Vals xs us) (e : h.get? p = some { cls := .type "tuple", data := .seq us.toArray }) :
    ObjOk P w H h p (.frz { cls := .type "tuple", data := .seq us.toArray } (.tup xs)) := ⟨e, z, us, r, ⟨_, e, rfl, _, rfl⟩⟩
theorem fz_ep {pins : List (Addr × Obj)} {σ : L2.St} {H : Hp} {s : Shared} {Q : VK} {xs : List V} {us : List Value} (I : Inv X pins σ H s) (z : xs.length ≤ sizeLine) (r : Vals xs us) (q : NewT xs H Q) :
    EP X pins σ Q (.ref s.heap.objs.size) { s with heap := s.heap.push { cls := .type "tuple", data := .seq us.toArray } } :=
  ⟨.ref s.heap.objs.size, _, I.laid (t' := s.toks) (fun b u e => Heap.get?_push_of_some _ e) (Nat.le_refl _) (fz_ok z r (Heap.get?_push_size _ rfl)), rfl, q _ _ (I.hok.fresh (Nat.le_refl _)) rfl⟩
def tTupF (t : TA) : TE := fun σ H Q => t σ H fun xs H1 => xs.length ≤ sizeLine ∧ NewT xs H1 Q
theorem pe_tupF {x1} (h : PA X es t) : PE X (.Tuple es x1 pos) (tTupF t) := by
  refine ⟨fun pins s σ H Q I hq => ?_⟩
  exact wpAny_Tuple_spliced (thn (h.run pos pins s σ H _ I hq) fun us s1 ⟨xs, H1, I1, r, z, q⟩ => ⟨by rw [← r.length]; exact z, fz_ep I1 z r q⟩)
def rSlF (K : PySem.W.Frag) : V → Option Int → Option Int → Hp → VK → Prop := fun x lo hi H Q => ∃ a xs, x = .ref a ∧ SqT K H a xs ∧
  (HT.sIx xs.length 0 lo = 0 ∧ HT.sIx xs.length xs.length hi = xs.length → Q (.ref a) H) ∧ (¬ (HT.sIx xs.length 0 lo = 0 ∧ HT.sIx xs.length xs.length hi = xs.length) → NewT (cutV xs lo hi) H Q)
theorem sl_tupF : SlR X (rSlF X.K) := by
  intro pins s σ H x v vl vu lo hi sl Q I rx hs pl pu h
  obtain ⟨a, xs, rfl, hx, q1, q2⟩ := h
  cases rx
  obtain ⟨its, r, ht, hz⟩ := I.tuple hx
  have hlen : its.toArray.size = xs.length := by rw [List.size_toArray]; exact r.length.symm
  refine ⟨"tuple", _, PyProof.Rows.slot_tuple_getitem.lookup, ht.typeIs, ?_⟩
  by_cases hw : HT.sIx xs.length 0 lo = 0 ∧ HT.sIx xs.length xs.length hi = xs.length
  · exact getItem_tuple_whole ht hs pl pu (by rw [hlen]; exact hw) ⟨.ref a, H, I, rfl, q1 hw⟩
  · refine HT.getItem_tuple_cut ht hs pl pu (by rw [hlen]; exact hw) ?_ (by rw [hlen]; exact hz)
    rw [hlen]
    exact fz_ep I (Nat.le_trans (cutV_length xs lo hi) hz) ((r.drop (HT.sIx xs.length 0 lo)).take (HT.sIx xs.length xs.length hi - HT.sIx xs.length 0 lo)) (q2 hw)
def rCatF (K : PySem.W.Frag) : R2 := fun x y H Q => ∃ a b xs ys, x = .ref a ∧ y = .ref b ∧ SqT K H a xs ∧ SqT K H b ys ∧ xs.length + ys.length ≤ sizeLine ∧
  (xs = [] → Q (.ref b) H) ∧ (xs ≠ [] → ys = [] → Q (.ref a) H) ∧ (xs ≠ [] → ys ≠ [] → NewT (xs ++ ys) H Q)
theorem op_catF : OpR X (binaryOp .Add) (rCatF X.K) := by
  intro pins s σ H x y v u Q I rx ry h
  obtain ⟨a, b, xs, ys, rfl, rfl, ha, hb, hz, q0, q1, q2⟩ := h
  cases rx
  cases ry
  obtain ⟨its, r1, p1, _⟩ := I.tuple ha
  obtain ⟨its2, r2, p2, _⟩ := I.tuple hb
  by_cases hx : xs = []
  · subst hx
    cases r1
    exact cat_tup0 p1 p2 ⟨.ref b, H, I, rfl, q0 rfl⟩
  · refine HT.cat_tup p1 p2 (fun z => hx (r1.nil_iff.mp z)) (fun z => ⟨.ref a, H, I, rfl, q1 hx (r2.nil_iff.mp z)⟩) (fun z => ?_) (by rw [← r1.length, ← r2.length]; exact hz)
    exact fz_ep I (by rw [List.length_append]; exact hz) (r1.append r2) (q2 hx fun w => z (r2.nil_iff.mpr w))
def rRepF (K : PySem.W.Frag) : R2 := fun x y H Q => ∃ l k xs, x = .ref l ∧ y = .int k ∧ SqT K H l xs ∧ xs ≠ [] ∧ 2 ≤ k ∧ k ≤ 1000 ∧ xs.length ≤ 1000 ∧ NewT (List.replicate k.toNat xs).flatten H Q
theorem op_repF : OpR X (binaryOp .Mult) (rRepF X.K) := by
  intro pins s σ H x y v u Q I rx ry h
  obtain ⟨l, k, xs, rfl, rfl, hT, hne, h1, h2, hz, q⟩ := h
  cases rx
  obtain ⟨t, rfl⟩ := ry
  obtain ⟨its, r, ⟨⟨cls, dd, data, sl⟩, ho, hc, n, hd⟩, hs⟩ := I.tuple hT
  simp only at hc hd
  subst hc hd
  have hle : its.length = xs.length := r.length.symm
  have hn : its ≠ [] := fun e => hne (by
    rw [e] at hle
    exact List.eq_nil_of_length_eq_zero hle.symm)
  have hi : its.toArray.isEmpty = false := by
    cases its with
    | nil => exact absurd rfl hn
    | cons a b => rfl
  have hsz0 : its.toArray.size = xs.length := by rw [List.size_toArray, hle]
  have hm : ((its.toArray.size : Nat) : Int) * k ≤ 1000000 := by
    rw [hsz0]
    have a1 : ((xs.length : Nat) : Int) * k ≤ 1000 * k := Int.mul_le_mul_of_nonneg_right (by omega) (by omega)
    omega
  have flen : (List.replicate k.toNat its).flatten.length ≤ sizeLine := by
    rw [PyProof.Rows.lm_len_rep_flat, hle, sizeLine_eq]
    have a1 : k.toNat * xs.length ≤ 1000 * 1000 := Nat.mul_le_mul (by omega) hz
    omega
  have c0 : (decide (k < -(2 ^ 63)) || decide (k ≥ 2 ^ 63)) = false := by
    rw [decide_eq_false (by omega), decide_eq_false (by omega)] <;> rfl
  have c1 : (its.toArray.isEmpty || k == 1) = false := by
    rw [hi, Bool.false_or]
    exact beq_eq_false_iff_ne.mpr (by omega)
  have c2 : (decide (k ≤ 0) || its.toArray.isEmpty) = false := by
    rw [hi, Bool.or_false]
    exact decide_eq_false (by omega)
  have c4 : Builtin.Tuple.tupleTooMany (((its.toArray.size : Nat) : Int) * k) = false := by
    unfold Builtin.Tuple.tupleTooMany
    rw [sizeLine_eq]
    exact decide_eq_false (by omega)
  refine wpAny_binaryOp_repeat_ref (T := "tuple") (U := "int") (by decide) ⟨_, ho, rfl⟩ (fun s' => typeIs_int s' k t) noFill_tuple_mul F.fills_int_mul F.slot_int_rmul repeat_tuple F.slot_int_index.lookup
    (call_meets F.slot_int_rmul (typeIs_int s k t) F.entry_int_rmul (F.args_int_rmul_2 _ _) (int_rmul_tuple k t l its.toArray n dd sl)
      ⟨ho, rfl, ⟨_, ho, rfl⟩, call_meets F.slot_tuple_mul ⟨_, ho, rfl⟩ F.entry_tuple_mul (F.args_tuple_mul_2 _ _) (tuple_mulW l its.toArray n dd sl k t c0 c1 c2 (by omega) c4 (by rw [size_rep, List.size_toArray]; exact flen)) ⟨ho, ?_⟩⟩)
  rw [size_rep]
  exact fz_ep I (by rw [PyProof.Rows.lm_len_rep_flat, sizeLine_eq]; have a1 : k.toNat * xs.length ≤ 1000 * 1000 := Nat.mul_le_mul (by omega) hz; omega) (r.rep k.toNat) q
theorem call_tupF : CallR X (.type "tuple") (fun xs H Q => ∃ p ys, xs = [.ref p] ∧ ((SqL X.K H p ys ∧ NewT ys H Q) ∨ (SqT X.K H p ys ∧ Q (.ref p) H))) := by
  intro pins s σ H xs us Q I r h
  obtain ⟨p, ys, rfl, h⟩ := h
  obtain ⟨u, rfl, rx⟩ := vals1 r
  cases rx
  rcases h with ⟨hq, q⟩ | ⟨hq, q⟩
  · obtain ⟨its, r', pl, hz⟩ := I.list hq
    have hlen := r'.length
    refine call_tuple_list pl.isList (fun h' kp => ?_) (by simp only [List.size_toArray] <;> omega)
    have I1 : Inv X pins σ H { s with heap := h' } := I.kept (t' := s.toks) kp
    exact fz_ep I1 hz r' q
  · obtain ⟨its, r', pl, hz⟩ := I.tuple hq
    exact call_tuple_same pl ⟨.ref p, H, I, rfl, q⟩
theorem call_divF : CallR X (.builtin "divmod") (fun xs H Q => ∃ i j, xs = [.int i, .int j] ∧ CDivP i j ∧ NewT [.int (i / j), .int (i % j)] H Q) := by
  intro pins s σ H xs us Q I r h
  obtain ⟨i, j, rfl, ⟨h1, h2⟩, q⟩ := h
  obtain ⟨u, w', rfl, ⟨t, rfl⟩, ⟨t', rfl⟩⟩ := vals2 r
  refine divmod_int (by omega) ?_ (.inl h2)
  rw [Int.fdiv_eq_ediv_of_nonneg i (by omega), Int.fmod_eq_emod_of_nonneg i (by omega)]
  have hn : H s.heap.objs.size = none := I.hok.fresh (Nat.le_refl _)
  refine ⟨.ref s.heap.objs.size, _, ?_, rfl, q _ { cls := .type "tuple", data := .seq [Value.int (i / j) s.toks, .int (i % j) (s.toks + 1)].toArray } hn rfl⟩
  exact I.laid (fun b o e => Heap.get?_push_of_some _ e) (Nat.le_refl _) (fz_ok (us := [.int (i / j) s.toks, .int (i % j) (s.toks + 1)]) (by simp only [List.length_cons, List.length_nil]; rw [sizeLine_eq]; decide) (.cons ⟨_, rfl⟩ (.cons ⟨_, rfl⟩ .nil)) (Heap.get?_push_size s.heap rfl))
/-- t.index(x), a text in a tuple of texts -/
def rTupIdx (K : PySem.W.Frag) : V → List V → Hp → VK → Prop := fun x xs H Q => ∃ p, ∃ ys : List Str, ∃ z j, x = .ref p ∧ xs = [.str z] ∧ SqT K H p (ys.map V.str) ∧ ys[j]? = some z ∧ (∀ m, m < j → ys[m]? ≠ some z) ∧ Q (.int (j : Nat)) H
def tIdx (K : PySem.W.Frag) (to : TE) (t : TA) : TE := fun σ H Q => to σ H fun x H1 => (∃ p xs, x = .ref p ∧ TpA K H1 p xs) ∧ t σ H1 fun xs H2 => rTupIdx K x xs H2 Q
theorem pe_idx {o : Expr} {apos cpos : Pos} {to : TE} (ho : PE X o to) (ha : PA X (e :: es) t)
    (hbase : attributeBase o "index" X.env (eval o X.env) = eval o X.env := by rfl)
    (hfew : ((backTo cpos (starEach (e :: es) X.env)).all (fun x => !x.1) && (backToKw cpos (keywordEach [] X.env)).all (fun x => x.1.isSome)
      && decide ((e :: es).length + ([] : List Keyword).length + (if ([] : List Keyword).isEmpty then 0 else 1) < 30)) = true := by rfl)
    (hline : (apos.endLine == cpos.line) = true := by rfl) (hs : starEach (e :: es) X.env = (false, eval e X.env) :: starEach es X.env := by rfl) (hplain : (backTo cpos (starEach es X.env)).any (·.1) = false := by rfl) :
    PE X (.Call (.Attribute o "index" apos) (e :: es) [] cpos) (tIdx X.K to t) := by
  refine ⟨fun pins s σ H Q I h => ?_⟩
  refine wpAny_Call_method_late hbase hfew hline rfl (thn (ho.run pins s σ H _ I h) fun v s1 ⟨x, H1, I1, r1, q1⟩ => ?_)
  obtain ⟨⟨p, xs0, rfl, ht⟩, q1⟩ := q1
  have r0 := r1
  cases r1
  have h2 : s1.TypeIs (.ref p) "tuple" ∧ ∀ a, Value.ref p = .ref a → ∃ ob, s1.heap.get? a = some ob ∧ ob.dict = none := by
    rcases ht with ⟨o, h, hd⟩ | ⟨o, its, n, h1, h2, hd, _⟩
    · obtain ⟨e1, _, us, r, o2, e2, hc, _⟩ := I1.hok p _ h
      rw [e1] at e2; cases e2
      exact ⟨⟨o, e1, hc⟩, fun a q => by cases q; exact ⟨o, e1, hd⟩⟩
    · exact ⟨⟨o, I1.kIn p o h1, h2⟩, fun a q => by cases q; exact ⟨o, I1.kIn p o h1, hd⟩⟩
  refine ⟨"tuple", "tuple.index", PySem.F.plainAttrs_tuple, PySem.F.slot_tuple_index, PySem.F.type_tuple_index, h2.1, h2.2, ?_⟩
  have hA := ha.run cpos pins s1 σ H1 _ I1 q1
  rw [hs] at hA ⊢
  refine Calls.callWith_builtin (by show (false || (backTo cpos (starEach es X.env)).any (·.1)) = false; rw [hplain] <;> rfl) (Calls.evalArgs_plain ?_)
  exact thn hA fun us s2 ⟨vs, H2, I2, r2, q2⟩ => mt_tup_index pins s2 σ H2 _ vs _ us Q I2 r0 r2 q2
end
end Dl

end
section
set_option Elab.async false
set_option linter.all false
set_option maxRecDepth 100000
set_option maxHeartbeats 4000000
set_option autoImplicit false
/-! The data layer: what it means over the hand layer's heaps. -/
namespace Dl
open PySem PySem.Spec PyProof.Rows L2
open Evl (Ex)

/-! ### data in the heap -/
mutual
inductive Is (K : PySem.W.Frag) (G : Hp) : V → D → Prop
  | non : Is K G .non .none
  | bl (b : Bool) : Is K G (.bl b) (.bool b)
  | int (i : Int) : Is K G (.int i) (.int i)
  | str (x : Str) : Is K G (.str x) (.str x)
  | lst {a : Addr} {xs : List V} {ds : List D} : G a = some (.lst xs) → IsAll K G xs ds → Is K G (.ref a) (.list ds)
  | tup {a : Addr} {xs : List V} {ds : List D} : TpA K G a xs → IsAll K G xs ds → Is K G (.ref a) (.tuple ds)
inductive IsAll (K : PySem.W.Frag) (G : Hp) : List V → List D → Prop
  | nil : IsAll K G [] []
  | cons {v : V} {vs : List V} {d : D} {ds : List D} : Is K G v d → IsAll K G vs ds → IsAll K G (v :: vs) (d :: ds)
end
section
variable {K : PySem.W.Frag} {G G' H : Hp}
mutual
theorem Is.mono (e : Ex G G') : ∀ (d : D) (v : V), Is K G v d → Is K G' v d
  | .none, _, h => by cases h; exact .non
  | .bool b, _, h => by cases h; exact .bl b
  | .int i, _, h => by cases h; exact .int i
  | .str x, _, h => by cases h; exact .str x
  | .list ds, _, h => by cases h with | lst a b => exact .lst (e _ _ a) (IsAll.mono e ds _ b)
  | .tuple ds, _, h => by cases h with | tup a b => exact .tup (TpA.ex e a) (IsAll.mono e ds _ b)
  | .dict _, _, h => by cases h
theorem IsAll.mono (e : Ex G G') : ∀ (ds : List D) (vs : List V), IsAll K G vs ds → IsAll K G' vs ds
  | [], _, h => by cases h; exact .nil
  | d :: ds, _, h => by cases h with | cons a b => exact .cons (Is.mono e d _ a) (IsAll.mono e ds _ b)
end
mutual
theorem Is.dp : ∀ (d : D) (v : V), Is K G v d → Dp K G v d
  | .none, _, h => by cases h; exact .non
  | .bool b, _, h => by cases h; exact .bl b
  | .int i, _, h => by cases h; exact .int i
  | .str x, _, h => by cases h; exact .str x
  | .list ds, _, h => by cases h with | lst a b => exact .lst (SqL.of a) (IsAll.dp ds _ b)
  | .tuple ds, _, h => by cases h with | tup a b => exact .tup a.sq (IsAll.dp ds _ b)
  | .dict _, _, h => by cases h
theorem IsAll.dp : ∀ (ds : List D) (vs : List V), IsAll K G vs ds → DpAll K G vs ds
  | [], _, h => by cases h; exact .nil
  | d :: ds, _, h => by cases h with | cons a b => exact .cons (Is.dp d _ a) (IsAll.dp ds _ b)
end
theorem IsAll.len : ∀ {vs : List V} {ds : List D}, IsAll K G vs ds → vs.length = ds.length
  | _, _, .nil => rfl
  | _, _, .cons _ b => congrArg Nat.succ (IsAll.len b)
theorem IsAll.get : ∀ {vs : List V} {ds : List D} {i : Nat} {d : D}, IsAll K G vs ds → ds[i]? = some d → ∃ v, vs[i]? = some v ∧ Is K G v d
  | _, _, i, _, .nil, e => by simp at e
  | _, _, 0, _, .cons a _, e => by simp at e; subst e; exact ⟨_, rfl, a⟩
  | _, _, i + 1, _, .cons _ b, e => by
    obtain ⟨v, h1, h2⟩ := IsAll.get (i := i) b (by simpa using e)
    exact ⟨v, by simpa using h1, h2⟩
theorem IsAll.getV : ∀ {vs : List V} {ds : List D} {i : Nat} {v : V}, IsAll K G vs ds → vs[i]? = some v → ∃ d, ds[i]? = some d ∧ Is K G v d
  | _, _, i, _, .nil, e => by simp at e
  | _, _, 0, _, .cons a _, e => by simp at e; subst e; exact ⟨_, rfl, a⟩
  | _, _, i + 1, _, .cons _ b, e => by
    obtain ⟨v, h1, h2⟩ := IsAll.getV (i := i) b (by simpa using e)
    exact ⟨v, by simpa using h1, h2⟩
theorem IsAll.app : ∀ {vs ws : List V} {ds es : List D}, IsAll K G vs ds → IsAll K G ws es → IsAll K G (vs ++ ws) (ds ++ es)
  | _, _, _, _, .nil, h => h
  | _, _, _, _, .cons a b, h => .cons a (IsAll.app b h)
theorem IsAll.take : ∀ {vs : List V} {ds : List D} (n : Nat), IsAll K G vs ds → IsAll K G (vs.take n) (ds.take n)
  | _, _, 0, _ => .nil
  | _, _, _ + 1, .nil => .nil
  | _, _, n + 1, .cons a b => .cons a (IsAll.take n b)
theorem IsAll.drop : ∀ {vs : List V} {ds : List D} (n : Nat), IsAll K G vs ds → IsAll K G (vs.drop n) (ds.drop n)
  | _, _, 0, h => h
  | _, _, _ + 1, .nil => .nil
  | _, _, n + 1, .cons _ b => IsAll.drop n b
theorem IsAll.set : ∀ {vs : List V} {ds : List D} (n : Nat) {v : V} {d : D}, Is K G v d → IsAll K G vs ds → IsAll K G (vs.set n v) (ds.set n d)
  | _, _, _, _, _, _, .nil => .nil
  | _, _, 0, _, _, h, .cons _ b => .cons h b
  | _, _, n + 1, _, _, h, .cons a b => .cons a (IsAll.set n h b)
theorem IsAll.erase : ∀ {vs : List V} {ds : List D} (n : Nat), IsAll K G vs ds → IsAll K G (vs.eraseIdx n) (ds.eraseIdx n)
  | _, _, _, .nil => .nil
  | _, _, 0, .cons _ b => b
  | _, _, n + 1, .cons a b => .cons a (IsAll.erase n b)
theorem IsAll.rep {vs : List V} {ds : List D} (h : IsAll K G vs ds) : ∀ n : Nat, IsAll K G (List.replicate n vs).flatten (List.replicate n ds).flatten
  | 0 => .nil
  | n + 1 => by
    rw [List.replicate_succ, List.replicate_succ, List.flatten_cons, List.flatten_cons]
    exact h.app (IsAll.rep h n)
theorem IsAll.strs : ∀ {ys : List Str} {vs : List V}, IsAll K G vs (ys.map PyData.str) → vs = ys.map V.str
  | [], _, .nil => rfl
  | _ :: _, _, .cons a b => by cases a; rw [IsAll.strs b]; rfl
theorem IsAll.of_strs : ∀ ys : List Str, IsAll K G (ys.map V.str) (ys.map PyData.str)
  | [] => .nil
  | y :: ys => .cons (.str y) (IsAll.of_strs ys)
theorem IsAll.bools : ∀ {ys : List Bool} {vs : List V}, IsAll K G vs (ys.map PyData.bool) → vs = ys.map V.bl
  | [], _, .nil => rfl
  | _ :: _, _, .cons a b => by cases a; rw [IsAll.bools b]; rfl
theorem IsAll.ints : ∀ {ys : List Int} {vs : List V}, IsAll K G vs (ys.map PyData.int) → vs = ys.map V.int
  | [], _, .nil => rfl
  | _ :: _, _, .cons a b => by cases a; rw [IsAll.ints b]; rfl
theorem cutV_eq (xs : List V) (lo hi : Option Int) : cutV xs lo hi = cutD xs lo hi := rfl
theorem IsAll.cut {vs : List V} {ds : List D} (h : IsAll K G vs ds) (lo hi : Option Int) : IsAll K G (cutV vs lo hi) (cutD ds lo hi) := by
  rw [cutV_eq]
  unfold cutD
  rw [h.len]
  exact (h.drop _).take _
theorem IsAll.atI {vs : List V} {ds : List D} {i : Int} {d : D} (h : IsAll K G vs ds) (e : L2.atI ds i = some d) : ∃ v, L2.atI vs i = some v ∧ Is K G v d := by
  unfold L2.atI at e ⊢
  rw [h.len]
  cases q : ixN ds.length i with
  | none => rw [q] at e; cases e
  | some j =>
    rw [q] at e
    obtain ⟨v, h1, h2⟩ := h.get (show ds[j]? = some d from e)
    exact ⟨v, h1, h2⟩
end

/-! ### states -/
structure Ent where
  G : Hp
  H : Hp
  S : Addr → Prop
  F : Addr → Prop
/-- a new piece of knowledge, nothing changed -/
structure XT (G H N H2 : Hp) : Prop where
  gn : Ex G N
  nh : Ex N H2
  hh : Ex H H2
  nw : ∀ b, N b ≠ none → G b ≠ none ∨ H b = none
theorem XT.refl {G H : Hp} (e : Ex G H) : XT G H G H := ⟨Ex.refl G, e, Ex.refl H, fun _ h => .inl h⟩
theorem Ex.nn {G H : Hp} (e : Ex G H) {b : Addr} (h : H b = none) : G b = none := Evl.fresh_back e h
theorem XT.trans {G H N H2 M H3 : Hp} (a : XT G H N H2) (b : XT N H2 M H3) : XT G H M H3 :=
  ⟨a.gn.trans b.gn, b.nh, a.hh.trans b.hh, fun c h => (b.nw c h).elim (fun z => a.nw c z) fun z => .inr (Ex.nn a.hh z)⟩
theorem upd_ex {G H : Hp} {p : Addr} {o : HO} (e : Ex G H) : Ex (upd G p o) (upd H p o) := fun a u h => by
  by_cases q : a = p
  · subst q; rw [upd_same] at h ⊢; exact h
  · rw [upd_ne q] at h ⊢; exact e a u h
theorem XT.new {G H : Hp} {p : Addr} {o : HO} (e : Ex G H) (h : H p = none) : XT G H (upd G p o) (upd H p o) :=
  ⟨Ex.new (Ex.nn e h), upd_ex e, Ex.new h, fun b hb => by
    by_cases q : b = p
    · subst q; exact .inr h
    · rw [upd_ne q] at hb; exact .inl hb⟩
/-- a new object that is not told -/
theorem XT.hid {G H : Hp} {p : Addr} {o : HO} (e : Ex G H) (h : H p = none) : XT G H G (upd H p o) :=
  ⟨Ex.refl G, e.trans (Ex.new h), Ex.new h, fun _ h => .inl h⟩

def SIs (K : PySem.W.Frag) (C : Addr) (G H : Hp) (v : V) : Sl → Prop
  | .e => True
  | .im d => Is K G v d
  | .own _ l ds => v = .ref l ∧ G l = none ∧ ∃ xs, H l = some (.lst xs) ∧ IsAll K G xs ds
  | .own2 l rows => v = .ref l ∧ G l = none ∧ H l = some (.lst (rows.map fun r => V.ref r.1)) ∧ (l :: rows.map (·.1)).Nodup ∧ ∀ r ∈ rows, G r.1 = none ∧ ∃ xs, H r.1 = some (.lst xs) ∧ IsAll K G xs r.2
  | .sq ds => ∃ a xs, v = .ref a ∧ SqL K G a xs ∧ IsAll K G xs ds
  | .val w => v = w
  | .wk p t u => ∃ a dx v1 v2 v3, v = .ref a ∧ G a = some (.ins C dx [("heads", v1), ("roads", v2), ("pushed", v3)]) ∧ Is K G v1 p ∧ Is K G v2 t ∧ Is K G v3 u
/-- made by this def -/
def _root_.Dl.Sl.isLoc : Sl → Prop
  | .own f _ _ => f = true
  | .own2 _ _ => True
  | _ => False
structure Cfg (K : PySem.W.Frag) (C : Addr) (E : Ent) (G H : Hp) (σ : L2.St) (δ : DE) : Prop where
  gg : Ex E.G G
  gh : Ex G H
  nw : ∀ b, G b ≠ none → E.G b ≠ none ∨ E.H b = none
  kp : ∀ b o, E.H b = some o → ¬ E.S b → H b = some o
  dm : ∀ b, H b = none → E.H b = none
  ow : ∀ s ∈ δ, ∀ b ∈ s.adr, E.S b ∨ E.H b = none
  sp : ∀ (i j : Nat) (s t : Sl) (b : Addr), δ[i]? = some s → δ[j]? = some t → b ∈ s.adr → b ∈ t.adr → i = j
  ln : σ.length = δ.length
  lf : ∀ s ∈ δ, s.isLoc → ∀ b ∈ s.adr, ¬ E.F b
  fd : ∀ b, E.F b → H b ≠ none
  vl : ∀ (i : Nat) (s : Sl), δ[i]? = some s → s ≠ .e → ∃ v, σ[i]? = some (some v) ∧ SIs K C G H v s
section
variable {K : PySem.W.Frag} {C : Addr} {E : Ent} {G H N H2 : Hp} {σ σ' : L2.St} {δ δ' : DE} {v : V} {s : Sl}
theorem SIs.xt (h : SIs K C G H v s) (x : XT G H N H2) : SIs K C N H2 v s := by
  have nn : ∀ b, G b = none → H b ≠ none → N b = none := fun b h1 h2 => by
    cases q : N b with
    | none => rfl
    | some o => exact ((x.nw b (by rw [q]; simp)).elim (fun z => z h1) fun z => h2 z).elim
  cases s with
  | e => trivial
  | im d => exact Is.mono x.gn d v h
  | own f l ds =>
    obtain ⟨e, g, xs, hl, a⟩ := h
    exact ⟨e, nn l g (by rw [hl]; simp), xs, x.hh _ _ hl, IsAll.mono x.gn ds xs a⟩
  | own2 l rows =>
    obtain ⟨e, g, hl, nd, a⟩ := h
    refine ⟨e, nn l g (by rw [hl]; simp), x.hh _ _ hl, nd, fun r hr => ?_⟩
    obtain ⟨g2, xs, h2, a2⟩ := a r hr
    exact ⟨nn _ g2 (by rw [h2]; simp), xs, x.hh _ _ h2, IsAll.mono x.gn _ xs a2⟩
  | sq ds =>
    obtain ⟨a, xs, e, h1, h2⟩ := h
    exact ⟨a, xs, e, Evl.ex_l x.gn h1, IsAll.mono x.gn _ _ h2⟩
  | val w => exact h
  | wk p t u =>
    obtain ⟨a, dx, v1, v2, v3, e, h0, h1, h2, h3⟩ := h
    exact ⟨a, dx, v1, v2, v3, e, x.gn _ _ h0, Is.mono x.gn _ _ h1, Is.mono x.gn _ _ h2, Is.mono x.gn _ _ h3⟩
/-- what is pure stays as long as the knowledge stays -/
theorem SIs.pu (h : SIs K C G H v s) (p : s.pure) (e : Ex G N) : SIs K C N H2 v s := by
  cases s with
  | e => trivial
  | im d => exact Is.mono e d v h
  | own f l ds => exact p.elim
  | own2 l rows => exact p.elim
  | sq ds =>
    obtain ⟨a, xs, q, h1, h2⟩ := h
    exact ⟨a, xs, q, Evl.ex_l e h1, IsAll.mono e _ _ h2⟩
  | val w => exact h
  | wk p t u =>
    obtain ⟨a, dx, v1, v2, v3, q, h0, h1, h2, h3⟩ := h
    exact ⟨a, dx, v1, v2, v3, q, e _ _ h0, Is.mono e _ _ h1, Is.mono e _ _ h2, Is.mono e _ _ h3⟩
/-- the slots' own lists -/
def adrs (δ : DE) (b : Addr) : Prop := ∃ s ∈ δ, b ∈ s.adr
/-- own lists as they stand -/
theorem SIs.there (h : SIs K C G H v s) {b : Addr} (hb : b ∈ s.adr) : H b ≠ none ∧ G b = none := by
  cases s with
  | own f l ds =>
    obtain ⟨_, g, xs, hl, _⟩ := h
    have e : b = l := by simpa [Sl.adr] using hb
    subst e
    exact ⟨by rw [hl]; simp, g⟩
  | own2 l rows =>
    obtain ⟨_, g, hl, nd, a⟩ := h
    rcases List.mem_cons.mp (show b ∈ l :: rows.map (·.1) from hb) with e | hm
    · subst e
      exact ⟨by rw [hl]; simp, g⟩
    · obtain ⟨r, hr, e⟩ := List.mem_map.mp hm
      obtain ⟨g2, xs, h2, _⟩ := a r hr
      subst e
      exact ⟨by rw [h2]; simp, g2⟩
  | e => cases hb
  | im d => cases hb
  | sq ds => cases hb
  | val w => cases hb
  | wk p t u => cases hb
theorem Cfg.there (c : Cfg K C E G H σ δ) {b : Addr} (h : adrs δ b) : H b ≠ none ∧ G b = none := by
  obtain ⟨s, hs, hb⟩ := h
  obtain ⟨i, hi⟩ := List.mem_iff_getElem?.mp hs
  obtain ⟨v, _, q⟩ := c.vl i s hi (fun e => by rw [e] at hb; cases hb)
  exact q.there hb
theorem Cfg.xt (c : Cfg K C E G H σ δ) (x : XT G H N H2) : Cfg K C E N H2 σ δ where
  gg := c.gg.trans x.gn
  gh := x.nh
  nw := fun b h => (x.nw b h).elim (fun z => c.nw b z) fun z => .inr (c.dm b z)
  kp := fun b o h n => x.hh b o (c.kp b o h n)
  dm := fun b h => c.dm b (Ex.nn x.hh h)
  ow := c.ow
  sp := c.sp
  ln := c.ln
  lf := c.lf
  fd := fun b h n => c.fd b h (Ex.nn x.hh n)
  vl := fun i s h n => let ⟨v, e, q⟩ := c.vl i s h n; ⟨v, e, q.xt x⟩
/-- the state as an entry of its own -/
def here (F : Addr → Prop) (G H : Hp) (δ : DE) : Ent := ⟨G, H, adrs δ, F⟩
/-- the same entry, more known -/
def up (E : Ent) (G : Hp) : Ent := ⟨G, E.H, E.S, E.F⟩
theorem Cfg.up (c : Cfg K C E G H σ δ) : Cfg K C (Dl.up E G) G H σ δ where
  gg := Ex.refl G
  gh := c.gh
  nw := fun _ h => .inl h
  kp := c.kp
  dm := c.dm
  ow := c.ow
  sp := c.sp
  ln := c.ln
  lf := c.lf
  fd := c.fd
  vl := c.vl
theorem Cfg.down (c : Cfg K C E G H σ δ) (d : Cfg K C (Dl.up E G) N H2 σ' δ') : Cfg K C E N H2 σ' δ' where
  gg := c.gg.trans d.gg
  gh := d.gh
  nw := fun b h => (d.nw b h).elim (fun z => c.nw b z) .inr
  kp := d.kp
  dm := d.dm
  ow := d.ow
  sp := d.sp
  ln := d.ln
  lf := d.lf
  fd := d.fd
  vl := d.vl
theorem Cfg.here (c : Cfg K C E G H σ δ) : Cfg K C (Dl.here E.F G H δ) G H σ δ where
  gg := Ex.refl G
  gh := c.gh
  nw := fun _ h => .inl h
  kp := fun _ _ h _ => h
  dm := fun _ h => h
  ow := fun s hs b hb => .inl ⟨s, hs, hb⟩
  sp := c.sp
  ln := c.ln
  lf := c.lf
  fd := c.fd
  vl := c.vl
theorem Cfg.trans (c : Cfg K C E G H σ δ) (d : Cfg K C (Dl.here E.F G H δ) N H2 σ' δ') : Cfg K C E N H2 σ' δ' where
  gg := c.gg.trans d.gg
  gh := d.gh
  nw := fun b h => (d.nw b h).elim (fun z => c.nw b z) fun z => .inr (c.dm b z)
  kp := fun b o h n => d.kp b o (c.kp b o h n) (fun ⟨s, hs, hb⟩ => (c.ow s hs b hb).elim n fun z => by rw [z] at h; cases h)
  dm := fun b h => c.dm b (d.dm b h)
  ow := fun s hs b hb => (d.ow s hs b hb).elim (fun ⟨t, ht, hb'⟩ => c.ow t ht b hb') fun z => .inr (c.dm b z)
  sp := d.sp
  ln := d.ln
  lf := d.lf
  fd := d.fd
  vl := d.vl
/-- an own list that no slot names stays -/
theorem Cfg.own_stay {F : Addr → Prop} (d : Cfg K C (Dl.here F G H δ) N H2 σ' δ') (h : SIs K C G H v s) (hn : ∀ b ∈ s.adr, ¬ adrs δ b) : SIs K C N H2 v s := by
  have st : ∀ b o, b ∈ s.adr → H b = some o → H2 b = some o := fun b o hb e => d.kp b o e (hn b hb)
  have nn : ∀ b, b ∈ s.adr → N b = none := fun b hb => by
    obtain ⟨h1, h2⟩ := h.there hb
    cases q : N b with
    | none => rfl
    | some o => exact ((d.nw b (by rw [q]; simp)).elim (fun z => z h2) fun z => h1 z).elim
  cases s with
  | e => trivial
  | im x => exact Is.mono d.gg x v h
  | own f l ds =>
    obtain ⟨e, g, xs, hl, a⟩ := h
    exact ⟨e, nn l (by simp [Sl.adr]), xs, st l _ (by simp [Sl.adr]) hl, IsAll.mono d.gg ds xs a⟩
  | own2 l rows =>
    obtain ⟨e, g, hl, nd, a⟩ := h
    refine ⟨e, nn l (by simp [Sl.adr]), st l _ (by simp [Sl.adr]) hl, nd, fun r hr => ?_⟩
    obtain ⟨g2, xs, h2, a2⟩ := a r hr
    have hm : r.1 ∈ (Sl.own2 l rows).adr := List.mem_cons_of_mem _ (List.mem_map.mpr ⟨r, hr, rfl⟩)
    exact ⟨nn _ hm, xs, st _ _ hm h2, IsAll.mono d.gg _ xs a2⟩
  | sq ds =>
    obtain ⟨a, xs, q, h1, h2⟩ := h
    exact ⟨a, xs, q, Evl.ex_l d.gg h1, IsAll.mono d.gg _ _ h2⟩
  | val w => exact h
  | wk p t u =>
    obtain ⟨a, dx, v1, v2, v3, q, h0, h1, h2, h3⟩ := h
    exact ⟨a, dx, v1, v2, v3, q, d.gg _ _ h0, Is.mono d.gg _ _ h1, Is.mono d.gg _ _ h2, Is.mono d.gg _ _ h3⟩
/-- a slot is set -/
theorem Cfg.put (c : Cfg K C E G H σ δ) (i : Nat) (h : SIs K C G H v s) (ho : ∀ b ∈ s.adr, (E.S b ∨ E.H b = none) ∧ ∀ j t, j ≠ i → δ[j]? = some t → b ∉ t.adr) (hlf : s.isLoc → ∀ b ∈ s.adr, ¬ E.F b) : Cfg K C E G H (σ.set i (some v)) (δ.set i s) where
  gg := c.gg
  gh := c.gh
  nw := c.nw
  kp := c.kp
  dm := c.dm
  ow := fun t ht b hb => by
    rcases List.mem_or_eq_of_mem_set ht with z | z
    · exact c.ow t z b hb
    · subst z; exact (ho b hb).1
  sp := fun j k t u b hj hk hb hb' => by
    by_cases q1 : j = i
    · subst q1
      by_cases q2 : k = j
      · exact q2.symm
      · rw [List.getElem?_set_ne (Ne.symm q2)] at hk
        by_cases hl : j < δ.length
        · rw [List.getElem?_set_self hl] at hj
          cases hj
          exact ((ho b hb).2 k u q2 hk hb').elim
        · rw [List.getElem?_eq_none (by simpa using hl)] at hj; cases hj
    · rw [List.getElem?_set_ne (Ne.symm q1)] at hj
      by_cases q2 : k = i
      · subst q2
        by_cases hl : k < δ.length
        · rw [List.getElem?_set_self hl] at hk
          cases hk
          exact ((ho b hb').2 j t q1 hj hb).elim
        · rw [List.getElem?_eq_none (by simpa using hl)] at hk; cases hk
      · rw [List.getElem?_set_ne (Ne.symm q2)] at hk
        exact c.sp j k t u b hj hk hb hb'
  ln := by rw [List.length_set, List.length_set]; exact c.ln
  lf := fun t ht hl b hb => by
    rcases List.mem_or_eq_of_mem_set ht with z | z
    · exact c.lf t z hl b hb
    · subst z; exact hlf hl b hb
  fd := c.fd
  vl := fun j t hj hn => by
    by_cases q : j = i
    · subst q
      by_cases hl : j < δ.length
      · rw [List.getElem?_set_self hl] at hj
        cases hj
        exact ⟨v, by rw [List.getElem?_set_self (by rw [c.ln]; exact hl)], h⟩
      · rw [List.getElem?_eq_none (by simpa using hl)] at hj; cases hj
    · rw [List.getElem?_set_ne (Ne.symm q)] at hj
      obtain ⟨w, e, z⟩ := c.vl j t hj hn
      exact ⟨w, by rw [List.getElem?_set_ne (Ne.symm q)]; exact e, z⟩
/-- a slot is forgotten -/
theorem Cfg.forget (c : Cfg K C E G H σ δ) (i : Nat) : Cfg K C E G H σ (δ.set i .e) where
  gg := c.gg
  gh := c.gh
  nw := c.nw
  kp := c.kp
  dm := c.dm
  ow := fun t ht b hb => by
    rcases List.mem_or_eq_of_mem_set ht with z | z
    · exact c.ow t z b hb
    · subst z; cases hb
  sp := fun j k t u b hj hk hb hb' => by
    have g : ∀ {m : Nat} {r : Sl}, (δ.set i .e)[m]? = some r → b ∈ r.adr → δ[m]? = some r := fun {m r} hm hr => by
      by_cases q : m = i
      · subst q
        by_cases hl : m < δ.length
        · rw [List.getElem?_set_self hl] at hm
          cases hm
          cases hr
        · rw [List.getElem?_eq_none (by simpa using hl)] at hm; cases hm
      · rw [List.getElem?_set_ne (Ne.symm q)] at hm; exact hm
    exact c.sp j k t u b (g hj hb) (g hk hb') hb hb'
  ln := by rw [List.length_set]; exact c.ln
  lf := fun t ht hl b hb => by
    rcases List.mem_or_eq_of_mem_set ht with z | z
    · exact c.lf t z hl b hb
    · subst z; cases hb
  fd := c.fd
  vl := fun j t hj hn => by
    by_cases q : j = i
    · subst q
      by_cases hl : j < δ.length
      · rw [List.getElem?_set_self hl] at hj
        cases hj
        exact (hn rfl).elim
      · rw [List.getElem?_eq_none (by simpa using hl)] at hj; cases hj
    · rw [List.getElem?_set_ne (Ne.symm q)] at hj
      exact c.vl j t hj hn
theorem Cfg.wipe (c : Cfg K C E G H σ δ) : ∀ vs : List Nat, Cfg K C E G H σ (wipeD δ vs) := by
  intro vs
  induction vs generalizing δ with
  | nil => exact c
  | cons i r ih => exact ih (c.forget i)
/-- an own list changes -/
theorem Cfg.mut (c : Cfg K C E G H σ δ) {i : Nat} {f : Bool} {l : Addr} {ds ds' : List D} {xs' : List V} (hi : δ[i]? = some (.own f l ds)) (ha : IsAll K G xs' ds') : Cfg K C E G (upd H l (.lst xs')) σ (δ.set i (.own f l ds')) := by
  have hil : i < δ.length := (List.getElem?_eq_some_iff.mp hi).1
  obtain ⟨v, ev, rfl, gl, xs, hl, _⟩ := c.vl i _ hi (fun q => by cases q)
  have hS : E.S l ∨ E.H l = none := c.ow _ (List.mem_of_getElem? hi) l (by simp [Sl.adr])
  have ng : ∀ b o, G b = some o → b ≠ l := fun b o e q => by rw [q, gl] at e; cases e
  have nl : ∀ j t, j ≠ i → δ[j]? = some t → l ∉ t.adr := fun j t hj ht hb => hj (c.sp j i t _ l ht hi hb (by simp [Sl.adr]))
  refine ⟨c.gg, fun b o e => by rw [upd_ne (ng b o e)]; exact c.gh b o e, c.nw, fun b o e n => ?_, fun b e => ?_, fun t ht b hb => ?_, fun j k t u b hj hk hb hb' => ?_, by rw [List.length_set]; exact c.ln, fun t ht hlo b hb => ?_, fun b hb => ?_, fun j t hj hn => ?_⟩
  · by_cases q : b = l
    · subst q
      rcases hS with z | z
      · exact (n z).elim
      · rw [z] at e; cases e
    · rw [upd_ne q]; exact c.kp b o e n
  · by_cases q : b = l
    · subst q; rw [upd_same] at e; cases e
    · rw [upd_ne q] at e; exact c.dm b e
  · rcases List.mem_or_eq_of_mem_set ht with z | z
    · exact c.ow t z b hb
    · subst z
      have e : b = l := by simpa [Sl.adr] using hb
      subst e; exact hS
  · have g : ∀ {m : Nat} {r : Sl}, (δ.set i (.own f l ds'))[m]? = some r → b ∈ r.adr → ∃ r', δ[m]? = some r' ∧ b ∈ r'.adr := fun {m r} hm hr => by
      by_cases q : m = i
      · subst q
        rw [List.getElem?_set_self hil] at hm
        cases hm
        exact ⟨_, hi, hr⟩
      · rw [List.getElem?_set_ne (Ne.symm q)] at hm; exact ⟨r, hm, hr⟩
    obtain ⟨r1, a1, a2⟩ := g hj hb
    obtain ⟨r2, b1, b2⟩ := g hk hb'
    exact c.sp j k r1 r2 b a1 b1 a2 b2
  · rcases List.mem_or_eq_of_mem_set ht with z | z
    · exact c.lf t z hlo b hb
    · subst z
      exact c.lf _ (List.mem_of_getElem? hi) hlo b hb
  · by_cases q : b = l
    · subst q; rw [upd_same]; simp
    · rw [upd_ne q]; exact c.fd b hb
  · by_cases q : j = i
    · subst q
      rw [List.getElem?_set_self hil] at hj
      cases hj
      exact ⟨_, ev, rfl, gl, xs', upd_same, ha⟩
    · rw [List.getElem?_set_ne (Ne.symm q)] at hj
      obtain ⟨w, e, z⟩ := c.vl j t hj hn
      refine ⟨w, e, ?_⟩
      have nb := nl j t q hj
      cases t with
      | e => trivial
      | im d => exact z
      | own f2 l2 d2 =>
        obtain ⟨e1, g1, x1, h1, a1⟩ := z
        exact ⟨e1, g1, x1, by rw [upd_ne (fun q => nb (by rw [← q]; simp [Sl.adr]))]; exact h1, a1⟩
      | own2 l2 rows =>
        obtain ⟨e1, g1, h1, nd, a1⟩ := z
        refine ⟨e1, g1, by rw [upd_ne (fun q => nb (by rw [← q]; simp [Sl.adr]))]; exact h1, nd, fun r hr => ?_⟩
        obtain ⟨g2, x2, h2, a2⟩ := a1 r hr
        exact ⟨g2, x2, by rw [upd_ne (fun q => nb (by rw [← q]; exact List.mem_cons_of_mem _ (List.mem_map.mpr ⟨r, hr, rfl⟩)))]; exact h2, a2⟩
      | sq d2 => exact z
      | val w => exact z
      | wk p t u => exact z
end

/-! ### the readings -/
section
variable (K : PySem.W.Frag) (C : Addr)
def teOf (de : DTE) : TE := fun σ H Q => ∃ E G δ P, Cfg K C E G H σ δ ∧ de δ P ∧ ∀ v N H2 s δ', Cfg K C E N H2 σ δ' → SIs K C N H2 v s → P s δ' → Q v H2
/-- a list just made: new, not known -/
def tfOf (df : DTF) : TE := fun σ H Q => ∃ E G δ P, Cfg K C E G H σ δ ∧ df δ P ∧ ∀ l xs N H2 ds δ', Cfg K C E N H2 σ δ' → H2 l = some (.lst xs) → N l = none → E.H l = none → ¬ E.F l → ¬ adrs δ' l → IsAll K N xs ds → P ds δ' → Q (.ref l) H2
def ttOf (dt : DTT) : TT := fun σ H Q => ∃ E G δ P, Cfg K C E G H σ δ ∧ dt δ P ∧ ∀ b N H2 δ', Cfg K C E N H2 σ δ' → P b δ' → Q b H2
def taOf (da : DTA) : TA := fun σ H Q => ∃ E G δ P, Cfg K C E G H σ δ ∧ da δ P ∧ ∀ vs N H2 ss δ', Cfg K C E N H2 σ δ' → Paired (SIs K C N H2) vs ss → (∀ s ∈ ss, ∀ b ∈ s.adr, E.H b = none ∧ ¬ E.F b ∧ ¬ adrs δ' b) → (ss.Pairwise fun s t => ∀ b ∈ s.adr, b ∉ t.adr) → P ss δ' → Q vs H2
def toOf (dl : DE → (Option Int → DE → Prop) → Prop) : TO := fun σ H Q => ∃ E G δ P, Cfg K C E G H σ δ ∧ dl δ P ∧ ∀ o N H2 δ', Cfg K C E N H2 σ δ' → P o δ' → Q o H2
def tgOf (vs : List Nat) (dg : DTG) : TG := fun v σ H Q => ∃ E G δ s P, Cfg K C E G H σ δ ∧ SIs K C G H v s ∧ (∀ b ∈ s.adr, E.H b = none ∧ ¬ E.F b ∧ ¬ adrs δ b) ∧ dg s δ P ∧ ∀ σ' N H2 δ', (σ'.length = σ.length ∧ ∀ i, i ∉ vs → σ'[i]? = σ[i]?) → Cfg K C E N H2 σ' δ' → P δ' → Q σ' H2
def tgsOf (ws : List Nat) (dg : DTGs) : TGs := fun vs σ H Q => ∃ E G δ ds P, Cfg K C E G H σ δ ∧ IsAll K G vs ds ∧ dg ds δ P ∧ ∀ σ' N H2 δ', (σ'.length = σ.length ∧ ∀ i, i ∉ ws → σ'[i]? = σ[i]?) → Cfg K C E N H2 σ' δ' → P δ' → Q σ' H2
/-- a walk over data -/
structure WalkD (N : Hp) (J : It) (items : List D) : Prop where
  goes : ∀ i H, Ex N H → i < items.length → J.go i H
  stops : ∀ H, Ex N H → J.stop items.length H
  yields : ∀ i H x H', Ex N H → i < items.length → J.yld i H x H' → ∀ G, Ex N G → Ex G H → ∃ G' d, XT G H G' H' ∧ items[i]? = some d ∧ Is K G' x d
def tiOf (di : DTI) : TI := fun σ H R => ∃ E G δ P, Cfg K C E G H σ δ ∧ di δ P ∧ ∀ J N H2 items δ', Cfg K C E N H2 σ δ' → WalkD K N J items → P items δ' → R J H2
def tsOf (ds : DTS) : TS := fun D σ H => ∃ E G δ n, Cfg K C E G H σ δ ∧ (∀ b, E.S b → E.F b) ∧ ds n δ ∧ (∀ δ' σ' N H2, n.nx δ' → Cfg K C E N H2 σ' δ' → D.nx σ' H2) ∧
  (∀ v s δ' σ' N H2, n.rt s δ' → Cfg K C E N H2 σ' δ' → SIs K C N H2 v s → (∀ b ∈ s.adr, E.H b = none ∨ E.S b) → D.rt v H2) ∧ (∀ δ' σ' N H2, n.bk δ' → Cfg K C E N H2 σ' δ' → D.bk σ' H2) ∧ ∀ δ' σ' N H2, n.ct δ' → Cfg K C E N H2 σ' δ' → D.ct σ' H2
end
def PDe (X : Cx) (C : Addr) (e : Expr) (de : DTE) : Prop := PE X e (teOf X.K C de)
def PDf (X : Cx) (C : Addr) (e : Expr) (df : DTF) : Prop := PE X e (tfOf X.K C df)
def PDt (X : Cx) (C : Addr) (e : Expr) (dt : DTT) : Prop := PT X e (ttOf X.K C dt)
def PDw (X : Cx) (C : Addr) (e : Expr) (dt : DTT) : Prop := PW X e (ttOf X.K C dt)
def PDts (X : Cx) (C : Addr) (e : List Expr) (dt : DTT) : Prop := PTs X e (ttOf X.K C dt)
def PDa (X : Cx) (C : Addr) (es : List Expr) (da : DTA) : Prop := PA X es (taOf X.K C da)
def PDo (X : Cx) (C : Addr) (e : Option Expr) (dl : DE → (Option Int → DE → Prop) → Prop) : Prop := PO X e (toOf X.K C dl)
def PDg (X : Cx) (C : Addr) (e : Expr) (vs : List Nat) (dg : DTG) : Prop := PG X e (tgOf X.K C vs dg)
def PDgs (X : Cx) (C : Addr) (es : List Expr) (vs : List Nat) (dg : DTGs) : Prop := PGs X es (tgsOf X.K C vs dg)
def PDi (X : Cx) (C : Addr) (tg e : Expr) (di : DTI) : Prop := PI X tg e (tiOf X.K C di)
def PDs (X : Cx) (C : Addr) (st : Stmt) (ds : DTS) : Prop := PS X st (tsOf X.K C ds)
def PDss (X : Cx) (C : Addr) (sts : List Stmt) (ds : DTS) : Prop := PSs X sts (tsOf X.K C ds)
section
variable {X : Cx} {e : Expr}
theorem PE.weak {t t' : TE} (h : PE X e t) (w : ∀ σ H Q, t' σ H Q → t σ H Q) : PE X e t' := ⟨fun pins s σ H Q I q => h.run pins s σ H Q I (w σ H Q q)⟩
theorem PT.weak {t t' : TT} (h : PT X e t) (w : ∀ σ H Q, t' σ H Q → t σ H Q) : PT X e t' := ⟨fun pins s σ H Q I q => h.run pins s σ H Q I (w σ H Q q)⟩
theorem PW.weak {t t' : TT} (h : PW X e t) (w : ∀ σ H Q, t' σ H Q → t σ H Q) : PW X e t' := ⟨fun wh pins s σ H Q I q => h.run wh pins s σ H Q I (w σ H Q q)⟩
theorem PTs.weak {es : List Expr} {t t' : TT} (h : PTs X es t) (w : ∀ σ H Q, t' σ H Q → t σ H Q) : PTs X es t' := ⟨fun pins s σ H Q I q => h.run pins s σ H Q I (w σ H Q q)⟩
theorem PA.weak {es : List Expr} {t t' : TA} (h : PA X es t) (w : ∀ σ H Q, t' σ H Q → t σ H Q) : PA X es t' := ⟨fun pos pins s σ H Q I q => h.run pos pins s σ H Q I (w σ H Q q)⟩
theorem PO.weak {o : Option Expr} {t t' : TO} (h : PO X o t) (w : ∀ σ H Q, t' σ H Q → t σ H Q) : PO X o t' := ⟨fun pins s σ H Q I q => h.run pins s σ H Q I (w σ H Q q)⟩
theorem PG.weak {t t' : TG} (h : PG X e t) (w : ∀ v σ H Q, t' v σ H Q → t v σ H Q) : PG X e t' := ⟨fun pins s σ H v u Q I r q => h.run pins s σ H v u Q I r (w v σ H Q q)⟩
theorem PGs.weak {es : List Expr} {t t' : TGs} (h : PGs X es t) (w : ∀ v σ H Q, t' v σ H Q → t v σ H Q) : PGs X es t' := ⟨fun pins s σ H v u Q I r q => h.run pins s σ H v u Q I r (w v σ H Q q)⟩
theorem PI.weak {tg : Expr} {t t' : TI} (h : PI X tg e t) (w : ∀ σ H Q, t' σ H Q → t σ H Q) : PI X tg e t' := ⟨fun pins s σ H Q I q => h.run pins s σ H Q I (w σ H Q q)⟩
theorem PS.weak {st : Stmt} {t t' : TS} (h : PS X st t) (w : ∀ D σ H, t' D σ H → t D σ H) : PS X st t' := ⟨fun pins s σ H D I q => h.run pins s σ H D I (w D σ H q)⟩
theorem PSs.weak {st : List Stmt} {t t' : TS} (h : PSs X st t) (w : ∀ D σ H, t' D σ H → t D σ H) : PSs X st t' := ⟨fun pins s σ H D I q => h.run pins s σ H D I (w D σ H q)⟩
end
end Dl

end
section
set_option Elab.async false
set_option linter.all false
set_option maxRecDepth 100000
set_option maxHeartbeats 4000000
set_option autoImplicit false
/-! The data layer: operations. -/
namespace Dl
open PySem PySem.Spec PyProof.Rows L2
open Evl (Ex)
section
variable {K : PySem.W.Frag} {C : Addr} {E : Ent} {G H N H2 : Hp} {σ σ' : L2.St} {δ δ' : DE} {v x y : V} {s : Sl} {a b d : D}
/-- a value that reads as data: data, or an own list -/
def Rdd (K : PySem.W.Frag) (G H : Hp) (x : V) (a : D) : Prop := Is K G x a ∨ ∃ l xs ds, a = .list ds ∧ x = .ref l ∧ H l = some (.lst xs) ∧ IsAll K G xs ds
theorem Rdd.dp (h : Rdd K G H x a) (e : Ex G H) : Dp K H x a := by
  rcases h with h | ⟨l, xs, ds, rfl, rfl, hl, ha⟩
  · exact Is.dp _ _ (Is.mono e _ _ h)
  · exact .lst (SqL.of hl) (IsAll.dp _ _ (IsAll.mono e _ _ ha))
theorem Rdd.int {i : Int} (h : Rdd K G H x (.int i)) : x = .int i := by
  rcases h with h | ⟨l, xs, ds, e, _⟩
  · cases h; rfl
  · cases e
theorem Rdd.str {i : Str} (h : Rdd K G H x (.str i)) : x = .str i := by
  rcases h with h | ⟨l, xs, ds, e, _⟩
  · cases h; rfl
  · cases e
theorem Rdd.bl {i : Bool} (h : Rdd K G H x (.bool i)) : x = .bl i := by
  rcases h with h | ⟨l, xs, ds, e, _⟩
  · cases h; rfl
  · cases e
theorem Rdd.lst {ds : List D} (h : Rdd K G H x (.list ds)) (e : Ex G H) : ∃ l xs, x = .ref l ∧ H l = some (.lst xs) ∧ IsAll K G xs ds := by
  rcases h with h | ⟨l, xs, ds', q, h1, h2, h3⟩
  · cases h with | lst h1 h2 => exact ⟨_, _, rfl, e _ _ h1, h2⟩
  · cases q; exact ⟨l, xs, h1, h2, h3⟩
theorem Rdd.tup {ds : List D} (h : Rdd K G H x (.tuple ds)) (e : Ex G H) : ∃ l xs, x = .ref l ∧ SqT K H l xs ∧ TpA K G l xs ∧ IsAll K G xs ds := by
  rcases h with h | ⟨l, xs, ds', q, h1, h2, h3⟩
  · cases h with | tup h1 h2 => exact ⟨_, _, rfl, Evl.ex_t e h1.sq, h1, h2⟩
  · cases q
theorem Rdd.xt (h : Rdd K G H x a) (t : XT G H N H2) : Rdd K N H2 x a := by
  rcases h with h | ⟨l, xs, ds, rfl, rfl, hl, ha⟩
  · exact .inl (Is.mono t.gn _ _ h)
  · exact .inr ⟨l, xs, ds, rfl, rfl, t.hh _ _ hl, IsAll.mono t.gn _ _ ha⟩
theorem rdW_out {k : D → Prop} (h : SIs K C G H v s) (r : rdW s k) : ∃ a, Rdd K G H v a ∧ k a := by
  cases s with
  | im d => exact ⟨d, .inl h, r⟩
  | own f l ds =>
    obtain ⟨e, g, xs, hl, ha⟩ := h
    exact ⟨.list ds, .inr ⟨l, xs, ds, rfl, e, hl, ha⟩, r⟩
  | e => exact r.elim
  | own2 l rows => exact r.elim
  | sq ds => exact r.elim
  | val w => exact r.elim
  | wk p t u => exact r.elim
theorem look_out {i : Nat} {k : Sl → Prop} (r : look δ i k) : ∃ s, δ[i]? = some s ∧ s ≠ .e ∧ k s := by
  unfold look at r
  cases q : δ[i]? with
  | none => rw [q] at r; exact r.elim
  | some s =>
    rw [q] at r
    cases s with
    | e => exact r.elim
    | im d => exact ⟨_, rfl, (fun z => by cases z), r⟩
    | own f l ds => exact ⟨_, rfl, (fun z => by cases z), r⟩
    | own2 l ds => exact ⟨_, rfl, (fun z => by cases z), r⟩
    | sq ds => exact ⟨_, rfl, (fun z => by cases z), r⟩
    | val ds => exact ⟨_, rfl, (fun z => by cases z), r⟩
    | wk p t u => exact ⟨_, rfl, (fun z => by cases z), r⟩
/-- a slot's value -/
theorem Cfg.look {i : Nat} {k : Sl → Prop} (c : Cfg K C E G H σ δ) (r : Dl.look δ i k) : ∃ s v, δ[i]? = some s ∧ σ[i]? = some (some v) ∧ SIs K C G H v s ∧ k s := by
  obtain ⟨s, h1, h2, h3⟩ := look_out r
  obtain ⟨v, e, q⟩ := c.vl i s h1 h2
  exact ⟨s, v, h1, e, q, h3⟩
/-- new lists, new tuples -/
theorem Is.newL {p : Addr} {xs : List V} {ds : List D} (e : Ex G H) (h : H p = none) (a : IsAll K G xs ds) : Is K (upd G p (.lst xs)) (.ref p) (.list ds) :=
  .lst upd_same (IsAll.mono (Evl.Ex.new (Ex.nn e h)) _ _ a)
theorem Is.newT {p : Addr} {o : Obj} {xs : List V} {ds : List D} (e : Ex G H) (h : H p = none) (hp : PlT o) (a : IsAll K G xs ds) : Is K (upd G p (.frz o (.tup xs))) (.ref p) (.tuple ds) :=
  .tup (.inl ⟨o, upd_same, hp⟩) (IsAll.mono (Evl.Ex.new (Ex.nn e h)) _ _ a)
end
/-! ### two-place operations -/
def rOf (K : PySem.W.Frag) (f : Op2) : R2 := fun x y H Q => ∃ G a b k, Ex G H ∧ Rdd K G H x a ∧ Rdd K G H y b ∧ f a b k ∧ ∀ v N H2 d, XT G H N H2 → Is K N v d → k d → Q v H2
def uOf (K : PySem.W.Frag) (f : Op1) : V → Hp → VK → Prop := fun x H Q => ∃ G a k, Ex G H ∧ Rdd K G H x a ∧ f a k ∧ ∀ v N H2 d, XT G H N H2 → Is K N v d → k d → Q v H2
section
variable {X : Cx} {C : Addr} {f : Op2}
/-- an operation on ints -/
theorem op_ints {g : Value → Value → Sem Value} {r : R2} (h : OpR X g r) (h1 : ∀ a b k, f a b k → ∃ i j, a = .int i ∧ b = .int j ∧ ∃ z w, (∀ G, Is X.K G w z) ∧ k z ∧ ∀ H (Q : VK), Q w H → r (.int i) (.int j) H Q) : OpR X g (rOf X.K f) := by
  intro pins s σ H x y v u Q I rx ry q
  obtain ⟨G, a, b, k, gh, ra, rb, hf, kk⟩ := q
  obtain ⟨i, j, rfl, rfl, z, w, e, hk, hr⟩ := h1 a b k hf
  cases ra.int
  cases rb.int
  exact h pins s σ H _ _ v u Q I rx ry (hr H Q (kk w G H z (XT.refl gh) (e G) hk))
theorem sd_add : OpR X (binaryOp .Add) (rOf X.K oAdd) := by
  intro pins s σ H x y v u Q I rx ry q
  obtain ⟨G, a, b, k, gh, ra, rb, hf, kk⟩ := q
  cases a <;> cases b <;> try exact hf.elim
  · rename_i i j
    cases ra.int
    cases rb.int
    exact op_add pins s σ H _ _ v u Q I rx ry ⟨i, j, rfl, rfl, kk _ G H _ (XT.refl gh) (.int _) hf⟩
  · rename_i i j
    cases ra.str
    cases rb.str
    exact op_add_str pins s σ H _ _ v u Q I rx ry ⟨i, j, rfl, rfl, hf.1, kk _ G H _ (XT.refl gh) (.str _) hf.2⟩
  · rename_i ds es
    obtain ⟨l, xs, rfl, hl, ha⟩ := ra.lst gh
    obtain ⟨m, ys, rfl, hm, hb⟩ := rb.lst gh
    exact op_cat pins s σ H _ _ v u Q I rx ry ⟨l, m, xs, ys, rfl, rfl, hl, hm, by rw [ha.len, hb.len]; exact hf.1, fun p hp => kk _ _ _ _ (XT.new gh hp) (Is.newL gh hp (ha.app hb)) hf.2⟩
  · rename_i ds es
    obtain ⟨l, xs, rfl, hl, hl', ha⟩ := ra.tup gh
    obtain ⟨m, ys, rfl, hm, hm', hb⟩ := rb.tup gh
    refine op_catF pins s σ H _ _ v u Q I rx ry ⟨l, m, xs, ys, rfl, rfl, hl, hm, by rw [ha.len, hb.len]; exact hf.1, fun e => ?_, fun _ e => ?_, fun _ _ p o hp ho => ?_⟩
    · subst e
      cases ha
      exact kk _ G H _ (XT.refl gh) (.tup hm' hb) hf.2
    · subst e
      cases hb
      have h2 := hf.2
      rw [List.append_nil] at h2
      exact kk _ G H _ (XT.refl gh) (.tup hl' ha) h2
    · exact kk _ _ _ _ (XT.new gh hp) (Is.newT gh hp ho (ha.app hb)) hf.2
theorem sd_sub : OpR X (binaryOp .Sub) (rOf X.K oSub) := op_ints op_sub fun a b k h => by
  cases a <;> cases b <;> try exact h.elim
  rename_i i j
  exact ⟨i, j, rfl, rfl, _, _, (fun _ => .int _), h, fun H Q q => ⟨i, j, rfl, rfl, q⟩⟩
theorem sd_mul : OpR X (binaryOp .Mult) (rOf X.K oMul) := by
  intro pins s σ H x y v u Q I rx ry q
  obtain ⟨G, a, b, k, gh, ra, rb, hf, kk⟩ := q
  cases a <;> cases b <;> try exact hf.elim
  · rename_i i j
    cases ra.int
    cases rb.int
    exact op_mulX pins s σ H _ _ v u Q I rx ry ⟨i, j, rfl, rfl, hf.1, kk _ G H _ (XT.refl gh) (.int _) hf.2⟩
  · rename_i ds n
    obtain ⟨l, xs, rfl, hl, hl', ha⟩ := ra.tup gh
    cases rb.int
    obtain ⟨h1, h2, h3, h4, h5⟩ := hf
    exact op_repF pins s σ H _ _ v u Q I rx ry ⟨l, n, xs, rfl, rfl, hl, (fun e => h1 (by subst e; cases ha; rfl)), h2, h3, (by rw [ha.len]; exact h4), fun p o hp ho => kk _ _ _ _ (XT.new gh hp) (Is.newT gh hp ho (ha.rep _)) h5⟩
theorem sd_div : OpR X (binaryOp .FloorDiv) (rOf X.K oDiv) := op_ints op_fdivW fun a b k h => by
  cases a <;> cases b <;> try exact h.elim
  rename_i i j
  exact ⟨i, j, rfl, rfl, _, _, (fun _ => .int _), h.2, fun H Q q => ⟨i, j, rfl, rfl, h.1, q⟩⟩
theorem sd_mod : OpR X (binaryOp .Mod) (rOf X.K oMod) := op_ints op_mod fun a b k h => by
  cases a <;> cases b <;> try exact h.elim
  rename_i i j
  exact ⟨i, j, rfl, rfl, _, _, (fun _ => .int _), h.2, fun H Q q => ⟨i, j, rfl, rfl, h.1, q⟩⟩
theorem sd_pow : OpR X (binaryOp .Pow) (rOf X.K oPow) := op_ints op_pow fun a b k h => by
  cases a <;> cases b <;> try exact h.elim
  rename_i i j
  exact ⟨i, j, rfl, rfl, _, _, (fun _ => .int _), h.2, fun H Q q => ⟨i, j, rfl, rfl, h.1, q⟩⟩
theorem sd_lt : OpR X (compareOp .Lt) (rOf X.K oLt) := op_ints op_lt fun a b k h => by
  cases a <;> cases b <;> try exact h.elim
  rename_i i j
  exact ⟨i, j, rfl, rfl, _, _, (fun _ => .bl _), h, fun H Q q => ⟨i, j, rfl, rfl, q⟩⟩
theorem sd_le : OpR X (compareOp .LtE) (rOf X.K oLe) := op_ints op_le fun a b k h => by
  cases a <;> cases b <;> try exact h.elim
  rename_i i j
  exact ⟨i, j, rfl, rfl, _, _, (fun _ => .bl _), h, fun H Q q => ⟨i, j, rfl, rfl, q⟩⟩
theorem sd_gt : OpR X (compareOp .Gt) (rOf X.K oGt) := op_ints op_gt fun a b k h => by
  cases a <;> cases b <;> try exact h.elim
  rename_i i j
  exact ⟨i, j, rfl, rfl, _, _, (fun _ => .bl _), h, fun H Q q => ⟨i, j, rfl, rfl, q⟩⟩
theorem sd_ge : OpR X (compareOp .GtE) (rOf X.K oGe) := op_ints op_ge fun a b k h => by
  cases a <;> cases b <;> try exact h.elim
  rename_i i j
  exact ⟨i, j, rfl, rfl, _, _, (fun _ => .bl _), h, fun H Q q => ⟨i, j, rfl, rfl, q⟩⟩
theorem sd_eq (hu : X.A.units + 64 < cLine) : OpR X (compareOp .Eq) (rOf X.K oEq) := by
  intro pins s σ H x y v u Q I rx ry q
  obtain ⟨G, a, b, k, gh, ra, rb, hf, kk⟩ := q
  unfold oEq at hf
  split at hf
  · rename_i i j
    cases ra.int
    cases rb.int
    refine op_eq pins s σ H _ _ v u Q I rx ry ⟨rfl, ?_⟩
    rw [dec_int, Bool.beq_eq_decide_eq]
    exact kk _ G H _ (XT.refl gh) (.bl _) hf
  · rename_i i j
    cases ra.str
    cases rb.str
    refine op_eq pins s σ H _ _ v u Q I rx ry ⟨rfl, ?_⟩
    rw [dec_str, Bool.beq_eq_decide_eq]
    exact kk _ G H _ (XT.refl gh) (.bl _) hf
  · rename_i i j
    cases ra.bl
    cases rb.bl
    refine op_eq pins s σ H _ _ v u Q I rx ry ⟨rfl, ?_⟩
    rw [dec_bl, Bool.beq_eq_decide_eq]
    exact kk _ G H _ (XT.refl gh) (.bl _) hf
  · obtain ⟨s1, s2, h⟩ := hf
    exact op_eqD hu pins s σ H _ _ v u Q I rx ry ⟨a, b, ra.dp gh, rb.dp gh, s1, s2, kk _ G H _ (XT.refl gh) (.bl _) h⟩
theorem sd_ne (hu : X.A.units + 64 < cLine) : OpR X (compareOp .NotEq) (rOf X.K oNe) := by
  intro pins s σ H x y v u Q I rx ry q
  obtain ⟨G, a, b, k, gh, ra, rb, hf, kk⟩ := q
  unfold oNe at hf
  split at hf
  · rename_i i j
    cases ra.int
    cases rb.int
    refine op_ne pins s σ H _ _ v u Q I rx ry ⟨rfl, ?_⟩
    rw [dec_int, Bool.beq_eq_decide_eq]
    exact kk _ G H _ (XT.refl gh) (.bl _) hf
  · rename_i i j
    cases ra.str
    cases rb.str
    refine op_ne pins s σ H _ _ v u Q I rx ry ⟨rfl, ?_⟩
    rw [dec_str, Bool.beq_eq_decide_eq]
    exact kk _ G H _ (XT.refl gh) (.bl _) hf
  · rename_i i j
    cases ra.bl
    cases rb.bl
    refine op_ne pins s σ H _ _ v u Q I rx ry ⟨rfl, ?_⟩
    rw [dec_bl, Bool.beq_eq_decide_eq]
    exact kk _ G H _ (XT.refl gh) (.bl _) hf
  · obtain ⟨s1, s2, h⟩ := hf
    exact op_neD hu pins s σ H _ _ v u Q I rx ry ⟨a, b, ra.dp gh, rb.dp gh, s1, s2, kk _ G H _ (XT.refl gh) (.bl _) h⟩
theorem sd_in (hu : X.A.units + 65 < cLine) : OpR X (compareOp .In) (rOf X.K oIn) := by
  intro pins s σ H x y v u Q I rx ry q
  obtain ⟨G, a, b, k, gh, ra, rb, hf, kk⟩ := q
  cases b <;> try exact hf.elim
  · rename_i z
    obtain ⟨c, rfl, h⟩ := hf
    cases ra.str
    cases rb.str
    exact op_in_sign pins s σ H _ _ v u Q I rx ry ⟨c, z, rfl, rfl, kk _ G H _ (XT.refl gh) (.bl _) h⟩
  · rename_i ds
    exact op_inD hu pins s σ H _ _ v u Q I rx ry ⟨a, ds, ra.dp gh, rb.dp gh, hf.1, hf.2.1, kk _ G H _ (XT.refl gh) (.bl _) hf.2.2⟩
  · rename_i ds
    obtain ⟨as, r1⟩ := Dp.reads I a x v (ra.dp gh) rx
    obtain ⟨bs, r2⟩ := Dp.reads I (.tuple ds) y u (rb.dp gh) ry
    exact SeqAt.in_tuple_reads r2 r1 (by have h := SeqAt.canLay_of_shaped hf.2.1; exact h) (SeqAt.canLay_of_shaped hf.1) (room_in_shaped hf.1 hu) ⟨.bl _, H, I, rfl, kk _ G H _ (XT.refl gh) (.bl _) hf.2.2⟩
theorem sd_notIn (hu : X.A.units + 65 < cLine) : OpR X (compareOp .NotIn) (rOf X.K oNotIn) := by
  intro pins s σ H x y v u Q I rx ry q
  obtain ⟨G, a, b, k, gh, ra, rb, hf, kk⟩ := q
  cases b <;> try exact hf.elim
  · rename_i z
    obtain ⟨c, rfl, h⟩ := hf
    cases ra.str
    cases rb.str
    exact op_notIn_sign pins s σ H _ _ v u Q I rx ry ⟨c, z, rfl, rfl, kk _ G H _ (XT.refl gh) (.bl _) h⟩
  · rename_i ds
    exact op_notInD hu pins s σ H _ _ v u Q I rx ry ⟨a, ds, ra.dp gh, rb.dp gh, hf.1, hf.2.1, kk _ G H _ (XT.refl gh) (.bl _) hf.2.2⟩
  · rename_i ds
    obtain ⟨as, r1⟩ := Dp.reads I a x v (ra.dp gh) rx
    obtain ⟨bs, r2⟩ := Dp.reads I (.tuple ds) y u (rb.dp gh) ry
    exact SeqAt.notIn_tuple_reads r2 r1 (by have h := SeqAt.canLay_of_shaped hf.2.1; exact h) (SeqAt.canLay_of_shaped hf.1) (room_in_shaped hf.1 hu) ⟨.bl _, H, I, rfl, kk _ G H _ (XT.refl gh) (.bl _) hf.2.2⟩
theorem sd_isN : OpR X (compareOp .Is) (rOf X.K oIsN) := by
  intro pins s σ H x y v u Q I rx ry q
  obtain ⟨G, a, b, k, gh, ra, rb, hf, kk⟩ := q
  cases b <;> try exact hf.elim
  have hy : y = .non := by
    rcases rb with h | ⟨l, xs, ds, e, _⟩
    · cases h; rfl
    · cases e
  subst hy
  refine op_isN pins s σ H _ _ v u Q I rx ry ⟨rfl, ?_⟩
  have e : decide (x = .non) = isN a := by
    rcases ra with h | ⟨l, xs, ds, e, e2, _⟩
    · cases h <;> simp [isN]
    · subst e e2; simp [isN]
  rw [e]
  exact kk _ G H _ (XT.refl gh) (.bl _) hf
theorem sd_ix : IxR X (rOf X.K oIx) := by
  intro ve se pins s σ H x y v u Q I rx ry q hs
  obtain ⟨G, a, b, k, gh, ra, rb, hf, kk⟩ := q
  cases a <;> cases b <;> try exact hf.elim
  · rename_i z i
    cases ra.str
    cases rb.int
    obtain ⟨hz, c, e, h⟩ := hf
    exact ix_str ve se pins s σ H _ _ v u Q I rx ry ⟨z, i, c, rfl, rfl, hz, e, kk _ G H _ (XT.refl gh) (.str _) h⟩ hs
  · rename_i ds i
    obtain ⟨l, xs, rfl, hl, ha⟩ := ra.lst gh
    cases rb.int
    obtain ⟨d, e, h⟩ := hf
    obtain ⟨w, e2, hw⟩ := ha.atI e
    exact ix_list ve se pins s σ H _ _ v u Q I rx ry ⟨l, xs, i, w, rfl, rfl, SqL.of hl, e2, kk _ G H _ (XT.refl gh) hw h⟩ hs
  · rename_i ds i
    obtain ⟨l, xs, rfl, hl, hl', ha⟩ := ra.tup gh
    cases rb.int
    obtain ⟨d, e, h⟩ := hf
    obtain ⟨w, e2, hw⟩ := ha.atI e
    exact ix_tup ve se pins s σ H _ _ v u Q I rx ry ⟨l, xs, i, w, rfl, rfl, hl, e2, kk _ G H _ (XT.refl gh) hw h⟩ hs
theorem sd_neg : UnR X (unaryOp .USub) (uOf X.K oNeg) := by
  intro pins s σ H x v Q I rx q
  obtain ⟨G, a, k, gh, ra, hf, kk⟩ := q
  cases a <;> try exact hf.elim
  rename_i i
  cases ra.int
  exact un_neg pins s σ H _ v Q I rx ⟨i, rfl, kk _ G H _ (XT.refl gh) (.int _) hf⟩
end
end Dl

end
section
set_option Elab.async false
set_option linter.all false
set_option maxRecDepth 100000
set_option maxHeartbeats 4000000
set_option autoImplicit false
/-! The data layer: expressions. -/
namespace Dl
open PySem PySem.Spec PyProof.Rows L2
open Evl (Ex)
section
variable {K : PySem.W.Frag} {C : Addr} {f g : Op2} {da db dc : DTE} {σ : L2.St} {H : Hp} {Q : VK}
theorem bin_weak (h : teOf K C (dBin f da db) σ H Q) : tOp (rOf K f) (teOf K C da) (teOf K C db) σ H Q := by
  obtain ⟨E, G, δ, P, c, h, k⟩ := h
  refine ⟨E, G, δ, _, c, h, fun v N H1 s δ1 c1 s1 h1 => ?_⟩
  obtain ⟨a, rfl, h1⟩ := h1
  refine ⟨here E.F N H1 δ1, N, δ1, _, c1.here, h1, fun w N2 H2 t δ2 c2 s2 h2 => ?_⟩
  obtain ⟨b, rb, hf⟩ := rdW_out s2 h2
  exact ⟨N2, a, b, _, c2.gh, .inl (Is.mono c2.gg _ _ s1), rb, hf, fun v' N3 H3 d x i3 p => k v' N3 H3 (.im d) δ2 ((c1.trans c2).xt x) i3 p⟩
theorem binV_weak {i : Nat} (h : teOf K C (dBinV f i db) σ H Q) : tOp (rOf K f) (tVar i) (teOf K C db) σ H Q := by
  obtain ⟨E, G, δ, P, c, h, k⟩ := h
  obtain ⟨s0, v, e0, ev, _, h⟩ := c.look h
  refine ⟨v, ev, E, G, δ, _, c, h, fun w N2 H2 t δ2 c2 s2 h2 => ?_⟩
  obtain ⟨b, rb, h3⟩ := rdW_out s2 h2
  obtain ⟨s, v', _, ev', sv, h4⟩ := c2.look h3
  rw [ev] at ev'
  cases ev'
  obtain ⟨a, ra, hf⟩ := rdW_out sv h4
  exact ⟨N2, a, b, _, c2.gh, ra, rb, hf, fun v' N3 H3 d x i3 p => k v' N3 H3 (.im d) δ2 (c2.xt x) i3 p⟩
theorem un_weak {f : Op1} (h : teOf K C (dUn f da) σ H Q) : tUn (uOf K f) (teOf K C da) σ H Q := by
  obtain ⟨E, G, δ, P, c, h, k⟩ := h
  refine ⟨E, G, δ, _, c, h, fun v N H1 s δ1 c1 s1 h1 => ?_⟩
  obtain ⟨a, ra, hf⟩ := rdW_out s1 h1
  exact ⟨N, a, _, c1.gh, ra, hf, fun v' N3 H3 d x i3 p => k v' N3 H3 (.im d) δ1 (c1.xt x) i3 p⟩
theorem chain_weak (h : teOf K C (dChain f g da db dc) σ H Q) : tChain (rOf K f) (rOf K g) (teOf K C da) (teOf K C db) (teOf K C dc) σ H Q := by
  obtain ⟨E, G, δ, P, c, h, k⟩ := h
  refine ⟨E, G, δ, _, c, h, fun v N H1 s δ1 c1 s1 h1 => ?_⟩
  obtain ⟨a, rfl, h1⟩ := h1
  refine ⟨here E.F N H1 δ1, N, δ1, _, c1.here, h1, fun w N2 H2 t δ2 c2 s2 h2 => ?_⟩
  obtain ⟨b, rfl, hf⟩ := h2
  refine ⟨N2, a, b, _, c2.gh, .inl (Is.mono c2.gg _ _ s1), .inl s2, hf, fun v' N3 H3 d x i3 p => ?_⟩
  obtain ⟨z, rfl, p⟩ := p
  cases i3
  refine ⟨z, rfl, ?_⟩
  have c3 := (c1.trans c2).xt x
  cases z with
  | true =>
    refine iteT ⟨here E.F N3 H3 δ2, N3, δ2, _, c3.here, p, fun v4 N4 H4 t4 δ4 c4 s4 h4 => ?_⟩
    obtain ⟨cc, rc, hg⟩ := rdW_out s4 h4
    exact ⟨N4, b, cc, _, c4.gh, .inl (Is.mono (x.gn.trans c4.gg) _ _ s2), rc, hg, fun v5 N5 H5 d5 x5 i5 p5 => k v5 N5 H5 (.im d5) δ4 ((c3.trans c4).xt x5) i5 p5⟩
  | false => exact iteF (k _ N3 H3 (.im (.bool false)) δ2 c3 (Is.bl _) p)
end
section
variable {X : Cx} {C : Addr} {a b e : Expr} {es : List Expr} {da db dc : DTE} {dr : DTA} {pos : Pos}
theorem pd_var (i : Nat) {x : Str} (hN : X.N[i]? = some x := by rfl) (hv : Vis X.env.scope x := by first | exact Or.inl rfl | exact Or.inr (Or.inl rfl) | exact Or.inr (Or.inr rfl)) (hd : (x == ("__debug__" : Str)) = false := by decide)
    (hcd : (x == ("__classdict__" : Str)) = false := by decide) : PDe X C (.Name x pos) (dVar i) := PE.weak (pe_var hN hv hd hcd) fun σ H Q h => by
  obtain ⟨E, G, δ, P, c, h, k⟩ := h
  obtain ⟨s, v, e0, ev, sv, h⟩ := c.look h
  exact ⟨v, ev, k v G H s δ c sv h⟩
theorem pd_c {v : V} {d : D} (h : PE X e (tC v)) (hi : ∀ G, Is X.K G v d) : PDe X C e (dC d) := PE.weak h fun σ H Q h => by
  obtain ⟨E, G, δ, P, c, h, k⟩ := h
  exact k v G H (.im d) δ c (hi G) h
theorem pd_int {i : Int} {j : Nat} : PDe X C (.Constant (.int i) j pos) (dC (.int i)) := pd_c pe_int fun _ => .int i
theorem pd_bl {i : Bool} {j : Nat} : PDe X C (.Constant (.bool i) j pos) (dC (.bool i)) := pd_c pe_bl fun _ => .bl i
theorem pd_str {i : Str} {j : Nat} : PDe X C (.Constant (.str i) j pos) (dC (.str i)) := pd_c pe_str fun _ => .str i
theorem pd_non {j : Nat} : PDe X C (.Constant .none j pos) (dC .none) := pd_c pe_non fun _ => .non
theorem pd_glob {x : Str} {v : V} {u : Value} {d : D} (hm : X.mg x = some u) (r : RelV v u) (hi : ∀ G, Is X.K G v d) (hg : Gl X x := by rfl) (hd : (x == ("__debug__" : Str)) = false := by decide) : PDe X C (.Name x pos) (dC d) := pd_c (pe_glob hg hm r hd) hi
theorem pd_op {op : Operator} {f : Op2} (ho : OpR X (binaryOp op) (rOf X.K f)) (ha : PDe X C a da) (hb : PDe X C b db) : PDe X C (.BinOp a op b pos) (dBin f da db) := PE.weak (pe_op ho ha hb) fun _ _ _ h => bin_weak h
theorem pd_opV {op : Operator} {f : Op2} (ho : OpR X (binaryOp op) (rOf X.K f)) (i : Nat) (hb : PDe X C b db) {x : Str} {px : Pos} (hN : X.N[i]? = some x := by rfl) (hv : Vis X.env.scope x := by first | exact Or.inl rfl | exact Or.inr (Or.inl rfl) | exact Or.inr (Or.inr rfl)) (hd : (x == ("__debug__" : Str)) = false := by decide)
    (hcd : (x == ("__classdict__" : Str)) = false := by decide) : PDe X C (.BinOp (.Name x px) op b pos) (dBinV f i db) := PE.weak (pe_op ho (pe_var hN hv hd hcd) hb) fun _ _ _ h => binV_weak h
theorem pd_cmp {op : CmpOp} {f : Op2} (ho : OpR X (compareOp op) (rOf X.K f)) (ha : PDe X C a da) (hb : PDe X C b db) (hm : behindInMarks op b = false := by rfl) : PDe X C (.Compare a [op] [b] pos) (dBin f da db) := PE.weak (pe_cmpR ho ha hb hm) fun _ _ _ h => bin_weak h
theorem pd_cmpV {op : CmpOp} {f : Op2} (ho : OpR X (compareOp op) (rOf X.K f)) (i : Nat) (hb : PDe X C b db) {x : Str} {px : Pos} (hm : behindInMarks op b = false := by rfl) (hN : X.N[i]? = some x := by rfl) (hv : Vis X.env.scope x := by first | exact Or.inl rfl | exact Or.inr (Or.inl rfl) | exact Or.inr (Or.inr rfl)) (hd : (x == ("__debug__" : Str)) = false := by decide)
    (hcd : (x == ("__classdict__" : Str)) = false := by decide) : PDe X C (.Compare (.Name x px) [op] [b] pos) (dBinV f i db) := PE.weak (pe_cmpR ho (pe_var hN hv hd hcd) hb hm) fun _ _ _ h => binV_weak h
theorem pd_ix (ha : PDe X C a da) (hb : PDe X C b db) (hs : PlainIx b := by exact fun _ _ => rfl) : PDe X C (.Subscript a b pos) (dBin oIx da db) := PE.weak (pe_ix sd_ix ha hb hs) fun _ _ _ h => bin_weak h
/-- what may be read by an index: data, an own list, the script -/
def rIxQ (K : PySem.W.Frag) : R2 := fun x y H Q => rOf K oIx x y H Q ∨ ∃ l xs i v, x = .ref l ∧ y = .int i ∧ SqL K H l xs ∧ L2.atI xs i = some v ∧ Q v H
theorem sd_ixQ : IxR X (rIxQ X.K) := IxR.or sd_ix (fun ve se pins s σ H x y v u Q I rx ry q hs => by
  obtain ⟨l, xs, i, w, h1, h2, h3, h4, h5⟩ := q
  exact ix_list ve se pins s σ H x y v u Q I rx ry ⟨l, xs, i, w, h1, h2, h3, h4, h5⟩ hs)
theorem pd_ixV (i : Nat) (hb : PDe X C b db) {x : Str} {px : Pos} (hs : PlainIx b := by exact fun _ _ => rfl) (hN : X.N[i]? = some x := by rfl) (hv : Vis X.env.scope x := by first | exact Or.inl rfl | exact Or.inr (Or.inl rfl) | exact Or.inr (Or.inr rfl)) (hd : (x == ("__debug__" : Str)) = false := by decide)
    (hcd : (x == ("__classdict__" : Str)) = false := by decide) : PDe X C (.Subscript (.Name x px) b pos) (dIxV i db) := PE.weak (pe_ix sd_ixQ (pe_var hN hv hd hcd) hb hs) fun σ H Q h => by
  obtain ⟨E, G, δ, P, c, h, k⟩ := h
  obtain ⟨s0, v, e0, ev, _, h⟩ := c.look h
  refine ⟨v, ev, E, G, δ, _, c, h, fun w N2 H2 t δ2 c2 s2 h2 => ?_⟩
  obtain ⟨b, rb, h3⟩ := rdW_out s2 h2
  obtain ⟨s, v', _, ev', sv, h4⟩ := c2.look h3
  rw [ev] at ev'
  cases ev'
  cases s with
  | e => exact h4.elim
  | own2 _ _ => exact h4.elim
  | wk _ _ _ => exact h4.elim
  | val _ => exact h4.elim
  | im a => exact .inl ⟨N2, a, b, _, c2.gh, .inl sv, rb, h4, fun v' N3 H3 d x i3 p => k v' N3 H3 (.im d) δ2 (c2.xt x) i3 p⟩
  | own f l ds =>
    obtain ⟨q, g, xs, hl, ha⟩ := sv
    exact .inl ⟨N2, .list ds, b, _, c2.gh, .inr ⟨l, xs, ds, rfl, q, hl, ha⟩, rb, h4, fun v' N3 H3 d x i3 p => k v' N3 H3 (.im d) δ2 (c2.xt x) i3 p⟩
  | sq ds =>
    obtain ⟨l, xs, q, hl, ha⟩ := sv
    cases b <;> try exact h4.elim
    rename_i j
    obtain ⟨d, e1, h5⟩ := h4
    obtain ⟨z, e2, hz⟩ := ha.atI e1
    exact .inr ⟨l, xs, j, z, q, rb.int, Evl.ex_l c2.gh hl, e2, k z N2 H2 (.im d) δ2 c2 hz h5⟩
theorem pd_un {op : UnaryOp} {f : Op1} (ho : UnR X (unaryOp op) (uOf X.K f)) (ha : PDe X C a da) : PDe X C (.UnaryOp op a pos) (dUn f da) := PE.weak (pe_un ho ha) fun _ _ _ h => un_weak h
theorem pd_not (ha : PDe X C a da) : PDe X C (.UnaryOp .Not a pos) (dNot da) := PE.weak (pe_not ha) fun σ H Q h => by
  obtain ⟨E, G, δ, P, c, h, k⟩ := h
  refine ⟨E, G, δ, _, c, h, fun v N H1 s δ1 c1 s1 h1 => ?_⟩
  obtain ⟨b, rfl, h1⟩ := h1
  cases s1
  exact ⟨b, rfl, k _ N H1 (.im (.bool (!b))) δ1 c1 (Is.bl _) h1⟩
theorem pd_one {op} (h : PDe X C a da) : PDe X C (.BoolOp op [a] pos) da := pe_one h
theorem pd_and {rest : List Expr} (ha : PDe X C a da) (hb : PDe X C (.BoolOp .And (b :: rest) pos) db) : PDe X C (.BoolOp .And (a :: b :: rest) pos) (dAnd da db) := PE.weak (pe_and ha hb) fun σ H Q h => by
  obtain ⟨E, G, δ, P, c, h, k⟩ := h
  refine ⟨E, G, δ, _, c, h, fun v N H1 s δ1 c1 s1 h1 => ?_⟩
  obtain ⟨z, rfl, h1⟩ := h1
  cases s1
  refine ⟨z, rfl, ?_⟩
  cases z with
  | true => exact iteT ⟨E, N, δ1, P, c1, h1, k⟩
  | false => exact iteF (k _ N H1 (.im (.bool false)) δ1 c1 (Is.bl _) h1)
theorem pd_or {rest : List Expr} (ha : PDe X C a da) (hb : PDe X C (.BoolOp .Or (b :: rest) pos) db) : PDe X C (.BoolOp .Or (a :: b :: rest) pos) (dOr da db) := PE.weak (pe_or ha hb) fun σ H Q h => by
  obtain ⟨E, G, δ, P, c, h, k⟩ := h
  refine ⟨E, G, δ, _, c, h, fun v N H1 s δ1 c1 s1 h1 => ?_⟩
  obtain ⟨z, rfl, h1⟩ := h1
  cases s1
  refine ⟨z, rfl, ?_⟩
  cases z with
  | true => exact iteT (k _ N H1 (.im (.bool true)) δ1 c1 (Is.bl _) h1)
  | false => exact iteF ⟨E, N, δ1, P, c1, h1, k⟩
theorem pd_chain {c : Expr} {op op' : CmpOp} {f g : Op2} (ho : OpR X (compareOp op) (rOf X.K f)) (ho' : OpR X (compareOp op') (rOf X.K g)) (ha : PDe X C a da) (hb : PDe X C b db) (hc : PDe X C c dc) (hm : lastMarks [op, op'] [b, c] = false := by with_unfolding_all rfl) : PDe X C (.Compare a [op, op'] [b, c] pos) (dChain f g da db dc) :=
  PE.weak (pe_chain ho ho' ha hb hc hm) fun _ _ _ h => chain_weak h
/-! ### tests -/
theorem pdt_chain {c : Expr} {op op' : CmpOp} {f g : Op2} (ho : OpR X (compareOp op) (rOf X.K f)) (ho' : OpR X (compareOp op') (rOf X.K g)) (ha : PDe X C a da) (hb : PDe X C b db) (hc : PDe X C c dc) (hm : lastMarks [op, op'] [b, c] = false := by with_unfolding_all rfl) : PDt X C (.Compare a [op, op'] [b, c] pos) (dTst (dChain f g da db dc)) :=
  PT.weak (pt_chain ho ho' ha hb hc hm) fun σ H Q h => by
    obtain ⟨E, G, δ, P, c, h, k⟩ := h
    refine chain_weak ⟨E, G, δ, _, c, h, fun v N H2 s δ' c' sv p => ?_⟩
    obtain ⟨z, rfl, p⟩ := p
    cases sv
    exact ⟨z, rfl, k z N H2 δ' c' p⟩
theorem pdt_val (h : PDe X C e da) (he : ∀ whole, isTrue e X.env whole = (do let v ← whole; standAt e.pos; holding [v] (truthy v)) := by intro _; rfl) : PDt X C e (dTst da) := PT.weak (pt_val h he) fun σ H Q h => by
  obtain ⟨E, G, δ, P, c, h, k⟩ := h
  refine ⟨E, G, δ, _, c, h, fun v N H1 s δ1 c1 s1 h1 => ?_⟩
  obtain ⟨z, rfl, h1⟩ := h1
  cases s1
  exact ⟨z, rfl, k _ N H1 δ1 c1 h1⟩
theorem pdt_cmp {op : CmpOp} {f : Op2} (ho : OpR X (compareOp op) (rOf X.K f)) (ha : PDe X C a da) (hb : PDe X C b db) (hm : behindInMarks op b = false := by rfl) : PDt X C (.Compare a [op] [b] pos) (dTst (dBin f da db)) := PT.weak (pt_cmpR ho ha hb hm) fun σ H Q h => by
  obtain ⟨E, G, δ, P, c, h, k⟩ := h
  refine bin_weak ⟨E, G, δ, _, c, h, fun v N H2 s δ' c' sv p => ?_⟩
  obtain ⟨z, rfl, p⟩ := p
  cases sv
  exact ⟨z, rfl, k z N H2 δ' c' p⟩
theorem pdt_cmpV {op : CmpOp} {f : Op2} (ho : OpR X (compareOp op) (rOf X.K f)) (i : Nat) (hb : PDe X C b db) {x : Str} {px : Pos} (hm : behindInMarks op b = false := by rfl) (hN : X.N[i]? = some x := by rfl) (hv : Vis X.env.scope x := by first | exact Or.inl rfl | exact Or.inr (Or.inl rfl) | exact Or.inr (Or.inr rfl)) (hd : (x == ("__debug__" : Str)) = false := by decide)
    (hcd : (x == ("__classdict__" : Str)) = false := by decide) : PDt X C (.Compare (.Name x px) [op] [b] pos) (dTst (dBinV f i db)) := PT.weak (pt_cmpR ho (pe_var hN hv hd hcd) hb hm) fun σ H Q h => by
  obtain ⟨E, G, δ, P, c, h, k⟩ := h
  refine binV_weak ⟨E, G, δ, _, c, h, fun v N H2 s δ' c' sv p => ?_⟩
  obtain ⟨z, rfl, p⟩ := p
  cases sv
  exact ⟨z, rfl, k z N H2 δ' c' p⟩
variable {ta tb : DTT}
theorem pdw_and1 (ha : PDt X C a ta) : PDw X C (.BoolOp .And [a] pos) ta := pw_and1 ha
theorem pdw_or1 (ha : PDt X C a ta) : PDw X C (.BoolOp .Or [a] pos) ta := pw_or1 ha
theorem pdw_and {rest : List Expr} (ha : PDt X C a ta) (hb : PDw X C (.BoolOp .And (b :: rest) pos) tb) : PDw X C (.BoolOp .And (a :: b :: rest) pos) (dAndT ta tb) := PW.weak (pw_and ha hb) fun σ H Q h => by
  obtain ⟨E, G, δ, P, c, h, k⟩ := h
  refine ⟨E, G, δ, _, c, h, fun z N H1 δ1 c1 h1 => ?_⟩
  cases z with
  | true => exact iteT ⟨E, N, δ1, P, c1, h1, k⟩
  | false => exact iteF (k _ N H1 δ1 c1 h1)
theorem pdw_or {rest : List Expr} (ha : PDt X C a ta) (hb : PDw X C (.BoolOp .Or (b :: rest) pos) tb) : PDw X C (.BoolOp .Or (a :: b :: rest) pos) (dOrT ta tb) := PW.weak (pw_or ha hb) fun σ H Q h => by
  obtain ⟨E, G, δ, P, c, h, k⟩ := h
  refine ⟨E, G, δ, _, c, h, fun z N H1 δ1 c1 h1 => ?_⟩
  cases z with
  | true => exact iteT (k _ N H1 δ1 c1 h1)
  | false => exact iteF ⟨E, N, δ1, P, c1, h1, k⟩
theorem pdt_w (h : PDw X C e ta) : PDt X C e ta := PW.pt h
theorem pdt_not (ha : PDt X C a ta) : PDt X C (.UnaryOp .Not a pos) (dNotT ta) := PT.weak (pt_not ha) fun σ H Q h => by
  obtain ⟨E, G, δ, P, c, h, k⟩ := h
  exact ⟨E, G, δ, _, c, h, fun z N H1 δ1 c1 h1 => k _ N H1 δ1 c1 h1⟩
theorem pd_ifE {c : Expr} (hc : PDt X C c ta) (ha : PDe X C a da) (hb : PDe X C b db) : PDe X C (.IfExp c a b pos) (dIfE ta da db) := PE.weak (pe_ifExp hc ha hb) fun σ H Q h => by
  obtain ⟨E, G, δ, P, c, h, k⟩ := h
  refine ⟨E, G, δ, _, c, h, fun z N H1 δ1 c1 h1 => ?_⟩
  cases z with
  | true => exact iteT ⟨E, N, δ1, P, c1, h1, k⟩
  | false => exact iteF ⟨E, N, δ1, P, c1, h1, k⟩
/-! ### arguments, displays -/
theorem Sl.pure_adr {s : Sl} (h : s.pure) : s.adr = [] := by
  cases s <;> first | rfl | exact h.elim
theorem pda_nil : PDa X C [] dNil := PA.weak pa_nil fun σ H Q h => by
  obtain ⟨E, G, δ, P, c, h, k⟩ := h
  exact k [] G H [] δ c .nil (fun _ z => by cases z) .nil h
theorem pda_cons (ha : PDe X C e da) (hr : PDa X C es dr) (hs : starEach (e :: es) X.env = (false, eval e X.env) :: starEach es X.env := by rfl) : PDa X C (e :: es) (dCons da dr) := PA.weak (pa_cons ha hr hs) fun σ H Q h => by
  obtain ⟨E, G, δ, P, c, h, k⟩ := h
  refine ⟨E, G, δ, _, c, h, fun v N H1 s δ1 c1 s1 h1 => ?_⟩
  obtain ⟨hp, h1⟩ := h1
  refine ⟨here E.F N H1 δ1, N, δ1, _, c1.here, h1, fun vs N2 H2 ss δ2 c2 s2 fr pw h2 => ?_⟩
  refine k (v :: vs) N2 H2 (s :: ss) δ2 (c1.trans c2) (.cons (s1.pu hp c2.gg) s2) (fun t ht b hb => ?_) (.cons (fun t _ b hb => by rw [Sl.pure_adr hp] at hb; cases hb) pw) h2
  rcases List.mem_cons.mp ht with e1 | ht
  · subst e1
    rw [Sl.pure_adr hp] at hb
    cases hb
  · exact ⟨c1.dm b (fr t ht b hb).1, (fr t ht b hb).2⟩
theorem pda_consF {df : DTF} (ha : PDf X C e df) (hr : PDa X C es dr) (hs : starEach (e :: es) X.env = (false, eval e X.env) :: starEach es X.env := by rfl) : PDa X C (e :: es) (dConsF df dr) := PA.weak (pa_cons ha hr hs) fun σ H Q h => by
  obtain ⟨E, G, δ, P, c, h, k⟩ := h
  refine ⟨E, G, δ, _, c, h, fun l xs N H1 ds δ1 c1 hl nl el nf na ia h1 => ?_⟩
  refine ⟨here E.F N H1 δ1, N, δ1, _, c1.here, h1 l (fun s hs hb => na ⟨s, hs, hb⟩), fun vs N2 H2 ss δ2 c2 s2 fr pw h2 => ?_⟩
  have own : SIs X.K C N H1 (.ref l) (.own true l ds) := ⟨rfl, nl, xs, hl, ia⟩
  have na2 : ¬ adrs δ2 l := fun ⟨s, hs, hb⟩ => by
    rcases c2.ow s hs l hb with z | z
    · exact na z
    · have z' : H1 l = none := z
      rw [hl] at z'; cases z'
  refine k (.ref l :: vs) N2 H2 (.own true l ds :: ss) δ2 (c1.trans c2) (.cons (c2.own_stay own (fun b hb => by
      have e : b = l := by simpa [Sl.adr] using hb
      subst e; exact na)) s2) (fun t ht b hb => ?_) (.cons (fun t ht b hb hb' => ?_) pw) h2
  · rcases List.mem_cons.mp ht with e1 | ht
    · subst e1
      have e : b = l := by simpa [Sl.adr] using hb
      subst e
      exact ⟨el, nf, na2⟩
    · exact ⟨c1.dm b (fr t ht b hb).1, (fr t ht b hb).2⟩
  · have e : b = l := by simpa [Sl.adr] using hb
    subst e
    have z : H1 b = none := (fr t ht b hb').1
    rw [hl] at z; cases z
theorem dat_all {K : PySem.W.Frag} {G H : Hp} : ∀ {vs : List V} {ss : List Sl} {ds : List D}, Paired (SIs K C G H) vs ss → datOf ss = some ds → IsAll K G vs ds
  | _, [], ds, .nil, e => by cases e; exact .nil
  | _, .im d :: ss, ds, .cons a r, e => by
    cases q : datOf ss with
    | none => simp [datOf, q] at e
    | some es =>
      have e' : d :: es = ds := by simpa [datOf, q] using e
      subst e'
      exact .cons a (dat_all r q)
  | _, .e :: ss, ds, .cons a r, e => by simp [datOf] at e
  | _, .own _ _ _ :: ss, ds, .cons a r, e => by simp [datOf] at e
  | _, .own2 _ _ :: ss, ds, .cons a r, e => by simp [datOf] at e
  | _, .sq _ :: ss, ds, .cons a r, e => by simp [datOf] at e
  | _, .val _ :: ss, ds, .cons a r, e => by simp [datOf] at e
  | _, .wk _ _ _ :: ss, ds, .cons a r, e => by simp [datOf] at e
theorem pd_tup {x1} (h : PDa X C es dr) : PDe X C (.Tuple es x1 pos) (dTup dr) := PE.weak (pe_tupF h) fun σ H Q h => by
  obtain ⟨E, G, δ, P, c, h, k⟩ := h
  refine ⟨E, G, δ, _, c, h, fun vs N H1 ss δ1 c1 s1 _ _ h1 => ?_⟩
  obtain ⟨ds, e1, hl, h1⟩ := h1
  have ia := dat_all s1 e1
  exact ⟨by rw [ia.len]; exact hl, fun p o hp ho => k _ _ _ (.im (.tuple ds)) δ1 (c1.xt (XT.new c1.gh hp)) (Is.newT c1.gh hp ho ia) h1⟩
theorem pdf_lst (h : PDa X C es dr) : PDf X C (.List es pos) (fLst dr) := PE.weak (pe_lst h) fun σ H Q h => by
  obtain ⟨E, G, δ, P, c, h, k⟩ := h
  refine ⟨E, G, δ, _, c, h, fun vs N H1 ss δ1 c1 s1 _ _ h1 => ?_⟩
  obtain ⟨ds, e1, hl, h1⟩ := h1
  have ia := dat_all s1 e1
  refine ⟨by rw [ia.len]; exact hl, fun p hp => ?_⟩
  have c2 := c1.xt (XT.hid (o := .lst vs) c1.gh hp)
  exact k p vs N _ ds δ1 c2 upd_same (Ex.nn c1.gh hp) (c1.dm p hp) (fun z => c1.fd p z hp) (fun z => (c1.there z).1 hp) ia h1
/-- a list just made is data -/
theorem pd_fr {df : DTF} (h : PDf X C e df) : PDe X C e (dFr df) := PE.weak h fun σ H Q h => by
  obtain ⟨E, G, δ, P, c, h, k⟩ := h
  refine ⟨E, G, δ, _, c, h, fun l xs N H1 ds δ1 c1 hl nl el nf na ia h1 => ?_⟩
  have x : Ex N (upd N l (.lst xs)) := Ex.new nl
  have y : Ex (upd N l (.lst xs)) H1 := fun b o hb => by
    by_cases q : b = l
    · subst q; rw [upd_same] at hb; rw [← hb]; exact hl
    · rw [upd_ne q] at hb; exact c1.gh b o hb
  refine k (.ref l) (upd N l (.lst xs)) H1 (.im (.list ds)) δ1 ⟨c1.gg.trans x, y, fun b hb => ?_, c1.kp, c1.dm, c1.ow, c1.sp, c1.ln, c1.lf, c1.fd, fun i s hi hn => ?_⟩ (.lst upd_same (IsAll.mono x _ _ ia)) h1
  · by_cases q : b = l
    · subst q; exact .inr el
    · rw [upd_ne q] at hb; exact c1.nw b hb
  · obtain ⟨v, ev, sv⟩ := c1.vl i s hi hn
    refine ⟨v, ev, ?_⟩
    have hs : ∀ b ∈ s.adr, b ≠ l := fun b hb q => na ⟨s, List.mem_of_getElem? hi, q ▸ hb⟩
    have nn : ∀ b, b ∈ s.adr → N b = none → upd N l (.lst xs) b = none := fun b hb hz => by rw [upd_ne (hs b hb)]; exact hz
    cases s with
    | e => trivial
    | im d => exact Is.mono x _ _ sv
    | own f2 l2 d2 =>
      obtain ⟨e1, g1, x1, h1, a1⟩ := sv
      exact ⟨e1, nn _ (by simp [Sl.adr]) g1, x1, h1, IsAll.mono x _ _ a1⟩
    | own2 l2 rows =>
      obtain ⟨e1, g1, h1, nd, a1⟩ := sv
      refine ⟨e1, nn _ (by simp [Sl.adr]) g1, h1, nd, fun r hr => ?_⟩
      obtain ⟨g2, x2, h2, a2⟩ := a1 r hr
      exact ⟨nn _ (List.mem_cons_of_mem _ (List.mem_map.mpr ⟨r, hr, rfl⟩)) g2, x2, h2, IsAll.mono x _ _ a2⟩
    | sq d2 =>
      obtain ⟨a, xs, q, h1, h2⟩ := sv
      exact ⟨a, xs, q, Evl.ex_l x h1, IsAll.mono x _ _ h2⟩
    | val w => exact sv
    | wk p t u =>
      obtain ⟨a, dx, v1, v2, v3, q, h0, h1, h2, h3⟩ := sv
      exact ⟨a, dx, v1, v2, v3, q, x _ _ h0, Is.mono x _ _ h1, Is.mono x _ _ h2, Is.mono x _ _ h3⟩
end
end Dl

end
section
set_option Elab.async false
set_option linter.all false
set_option maxRecDepth 100000
set_option maxHeartbeats 4000000
set_option autoImplicit false
/-! enumerate and zip over lists and tuples in any mix; the pairs are plain tuples. -/
namespace PySem
open Sem (wp)
open AutoSeq1 (wpAny_loadPart')
theorem dl_enumNewT (l : Addr) (items : Array Value) (n : Nat) (dct : Option Addr) (sl : Array (Option Value)) :
    Meets (Builtin.«enumerate.__new__» ⟨[.type "enumerate", .ref l], []⟩) (fun _ R s => s.heap.get? l = some { cls := .type "tuple", dict := dct, data := .seq items n, slots := sl } ∧
      R (.ok (.ret (.ref (s.heap.push { cls := .type "tuple_iterator", data := .fields #[.ref l, .int 0 0] }).objs.size)))
        { s with heap := (s.heap.push { cls := .type "tuple_iterator", data := .fields #[.ref l, .int 0 0] }).push { cls := .type "enumerate", data := .fields #[.none, .bool false, .ref s.heap.objs.size, rawInt 0, .none, .none] } }) :=
  .of_wp fun prog w A R s h => by
    obtain ⟨hp, g, d, tk, os⟩ := s; obtain ⟨hl, h⟩ := h
    have hsub := sub_enumerate
    have hL : Heap.IsTuple (Shared.heap ⟨hp, g, d, tk, os⟩) l items := ⟨_, hl, rfl, n, rfl⟩
    wp_walk using wpAny_loadPart' hl
    refine wpAny_stack_any fun st => wpAny_pure ?_
    split
    · rename_i c _ _ _ _ _
      cases (c == Value.type "enumerate")
      · wp_walk using wpAny_loadPart' hl, wpAny_pyIter_tuple hL
        exact ⟨_, rfl, h⟩
      · wp_walk using wpAny_loadPart' hl, wpAny_pyIter_tuple hL
        exact ⟨_, rfl, h⟩
    · wp_walk using wpAny_loadPart' hl, wpAny_pyIter_tuple hL
      exact ⟨_, rfl, h⟩
theorem dl_enumT {prog : Program} {w : World} {A : Around} {E : Value → Shared → Prop} {s : Shared} {l : Addr} {items : Array Value} {Q : Value → Shared → Prop} (hL : s.heap.IsTuple l items)
    (h : ∀ h', IsEnum h' (s.heap.objs.size + 1) s.heap.objs.size 0 .none → h'.IsTupleIter s.heap.objs.size l 0 → h'.objs.size = s.heap.objs.size + 2 →
      (∀ b o, s.heap.get? b = some o → h'.get? b = some o) → Q (.ref (s.heap.objs.size + 1)) { s with heap := h' }) :
    wpAny (model prog w) A (call (.type "enumerate") [.ref l]) Q E s := by
  obtain ⟨⟨c, dct, dt, sl⟩, hl, hc, n, hd⟩ := hL
  replace hc : c = .type "tuple" := hc
  replace hd : dt = .seq items n := hd
  subst hc hd
  refine callType_new F.called_enumerate (by decide) (F.typeCall_enumerate_1 _) (F.newCall_enumerate_1 _) (fun obj => F.args_object_init_2 obj _) F.entry_enumerate_new
    (dl_enumNewT l items n dct sl) ⟨hl, ?_⟩
  have hz : (s.heap.push { cls := .type "tuple_iterator", data := .fields #[.ref l, .int 0 0] }).objs.size = s.heap.objs.size + 1 := Heap.size_push ..
  show _ ∧ _
  rw [hz]
  have he : IsEnum ((s.heap.push { cls := .type "tuple_iterator", data := .fields #[.ref l, .int 0 0] }).push
      { cls := .type "enumerate", data := .fields #[.none, .bool false, .ref s.heap.objs.size, rawInt 0, .none, .none] }) (s.heap.objs.size + 1) s.heap.objs.size 0 .none := by
    have := Heap.get?_push_size (s.heap.push { cls := .type "tuple_iterator", data := .fields #[.ref l, .int 0 0] })
      (o := { cls := .type "enumerate", data := .fields #[.none, .bool false, .ref s.heap.objs.size, rawInt 0, .none, .none] }) rfl
    rw [hz] at this; exact this
  refine ⟨⟨_, he, rfl⟩, h _ he ⟨_, Heap.get?_push_of_some _ (Heap.get?_push_size _ rfl), rfl, rfl⟩ (by rw [Heap.size_push, hz]) fun b o x => Heap.get?_push_of_some _ (Heap.get?_push_of_some _ x)⟩
end PySem
namespace Dl
open PySem PySem.Spec PyProof.Rows L2
/-- a list (k) or a tuple -/
def SqK (k : Bool) (K : PySem.W.Frag) (H : Hp) (a : Addr) (xs : List V) : Prop := match k with
  | true => SqL K H a xs
  | false => SqT K H a xs
def ItK (k : Bool) (h : Heap) (it a : Addr) (i : Nat) : Prop := match k with
  | true => h.IsListIter it a i
  | false => h.IsTupleIter it a i
def SeK (k : Bool) (h : Heap) (a : Addr) (its : Array Value) : Prop := match k with
  | true => h.IsList a its
  | false => h.IsTuple a its
section
variable {X : Cx} {pins : List (Addr × Obj)} {σ : L2.St} {H : Hp} {s : Shared} {k : Bool} {a it : Addr} {xs ys : List V} {i : Nat} {h h' : Heap}
theorem seK (I : Inv X pins σ H s) (q : SqK k X.K H a xs) : ∃ its : List Value, Vals xs its ∧ SeK k s.heap a its.toArray ∧ xs.length ≤ sizeLine := by
  cases k with
  | true =>
    obtain ⟨its, r, p, z⟩ := I.list q
    exact ⟨its, r, p.isList, z⟩
  | false =>
    obtain ⟨its, r, p, z⟩ := I.tuple q
    exact ⟨its, r, p, z⟩
theorem sqK_inj (I : Inv X pins σ H s) (q : SqK k X.K H a xs) (q' : SqK k X.K H a ys) : xs = ys := by
  cases k with
  | true => exact I.list_inj q q'
  | false => exact I.tuple_inj q q'
theorem SeK.lt {its : Array Value} (q : SeK k h a its) : a < h.objs.size := by
  cases k with
  | true => obtain ⟨o, e, _⟩ := q; exact Heap.lt_size e
  | false => obtain ⟨o, e, _⟩ := q; exact Heap.lt_size e
theorem ItK.obj (q : ItK k h it a i) : ∃ o, h.get? it = some o ∧ ∀ v, o.data ≠ .cell v := by
  cases k with
  | true => obtain ⟨o, e, c, d⟩ := q; exact ⟨o, e, fun v z => by rw [d] at z; cases z⟩
  | false => obtain ⟨o, e, c, d⟩ := q; exact ⟨o, e, fun v z => by rw [d] at z; cases z⟩
theorem ItK.at (q : ItK k h it a i) (e : ∀ o, h.get? it = some o → h'.get? it = some o) : ItK k h' it a i := by
  cases k with
  | true => obtain ⟨o, e1, c⟩ := q; exact ⟨o, e o e1, c⟩
  | false => obtain ⟨o, e1, c⟩ := q; exact ⟨o, e o e1, c⟩
theorem SeK.at {its : Array Value} (q : SeK k h a its) (e : ∀ o, h.get? a = some o → h'.get? a = some o) : SeK k h' a its := by
  cases k with
  | true => obtain ⟨o, e1, c⟩ := q; exact ⟨o, e o e1, c⟩
  | false => obtain ⟨o, e1, c⟩ := q; exact ⟨o, e o e1, c⟩
theorem it_ne {its : Array Value} (q : ItK k h it a i) (z : SeK k h a its) : a ≠ it := by
  intro e
  cases k with
  | true =>
    obtain ⟨o, e1, c, _⟩ := q
    obtain ⟨o2, e2, c2, _⟩ := z
    rw [e, e1] at e2
    cases e2
    rw [c] at c2
    exact absurd c2 (by decide)
  | false =>
    obtain ⟨o, e1, c, _⟩ := q
    obtain ⟨o2, e2, c2, _⟩ := z
    rw [e, e1] at e2
    cases e2
    rw [c] at c2
    exact absurd c2 (by decide)
theorem drawsK {P : Program} {w : World} {A : Around} (hh : A.handled = none) (k : Bool) (it a : Addr) (hne : a ≠ it) (items : Array Value) :
    Draws P w A it [it, a] items.size (fun i v => items[i]? = some v) (fun i h => ItK k h it a i ∧ SeK k h a items) := by
  cases k with
  | true => exact Draws.list hh it a hne items
  | false => exact Draws.tuple hh it a hne items
end
/-- a new plain pair -/
def YldP (f g : V → Prop) : Nat → Hp → V → Hp → Prop := fun _ H v H' => ∃ T o x y, v = .ref T ∧ H T = none ∧ PlT o ∧ H' = upd H T (.frz o (.tup [x, y])) ∧ f x ∧ g y
def IteA (k : Bool) (K : PySem.W.Frag) (a : Addr) : It :=
  ⟨fun i H => ∃ (xs : List V) (x : V), SqK k K H a xs ∧ xs[i]? = some x, fun i H v H' => YldP (fun x => x = .int (i : Nat)) (fun x => ∀ xs, SqK k K H a xs → xs[i]? = some x) i H v H', fun i H => ∃ xs : List V, SqK k K H a xs ∧ xs.length = i⟩
theorem turn_enumA {P : Program} {w : World} {K : PySem.W.Frag} {elts : List Expr} {kk : Nat} {tpos : Pos} (k : Bool) (a e it : Addr) :
    Turn P w K (.Tuple elts kk tpos) (IteA k K a) [e, it] e (fun i h => (∃ old, IsEnum h e it ((i : Nat) : Int) old) ∧ ItK k h it a i ∧ e ≠ it ∧ e ≠ a) where
  mem := by simp
  obj := fun i h st b hb => by
    obtain ⟨⟨old, he⟩, hi, _⟩ := st
    have e' : b = e ∨ b = it := by simpa using hb
    rcases e' with z | z
    · rw [z]; exact ⟨_, he, fun v q => nomatch q⟩
    · rw [z]; exact hi.obj
  keep := fun i h h' st k => let ⟨⟨old, he⟩, hi, hne⟩ := st; ⟨⟨old, k e (by simp) _ he⟩, hi.at fun o q => k it (by simp) o q, hne⟩
  item := by
    intro X hP hw hK hc i pins s σ H E I hf st hg
    subst hP hw hK
    obtain ⟨⟨old, he⟩, hit, hne, hea⟩ := st
    obtain ⟨xs, x, hq, hx⟩ := hg
    obtain ⟨its, rv, p, hz⟩ := seK I hq
    obtain ⟨u, hu, ru⟩ := rv.get hx
    have hel : e < s.heap.objs.size := Heap.lt_size he
    have hil : it < s.heap.objs.size := by obtain ⟨_, q, _⟩ := hit.obj; exact Heap.lt_size q
    have hh : X.A.in1.handled = none := I.ok.hd hc
    have hlt : i < its.toArray.size := by rw [List.size_toArray, ← rv.length]; exact (List.getElem?_eq_some_iff.mp hx).1
    refine wpAny_pyNext_enum_itemC (drawsK hh k it a (it_ne hit p) its.toArray) he ⟨hit, p⟩ hlt hne (by simp [hne, hea]) fun u' h' tk hP ho hit' hT hsz hk => ?_
    have eu : u' = u := by
      have h1 : its[i]? = some u' := by simpa using hP
      rw [hu] at h1; exact (Option.some.inj h1).symm
    subst eu
    refine ⟨_, rfl, wpAny_letOwnedTupleGo_enum (s := { s with heap := h', toks := tk + 1 }) ho fun h'' he' sb => ?_⟩
    have hT2 : h''.get? s.heap.objs.size = some { cls := .type "tuple", data := .seq #[.int i tk, u'] } := (sb.2 _ (Nat.ne_of_gt hel)).trans hT
    have new : ObjOk X.prog X.w (upd H s.heap.objs.size (.frz { cls := .type "tuple", data := .seq #[.int i tk, u'] } (.tup [.int (i : Nat), x]))) h'' s.heap.objs.size (.frz { cls := .type "tuple", data := .seq #[.int i tk, u'] } (.tup [.int (i : Nat), x])) :=
      ⟨hT2, by show 2 ≤ sizeLine; decide, [.int i tk, u'], .cons ⟨_, rfl⟩ (.cons ru .nil), ⟨_, hT2, rfl, _, rfl⟩⟩
    have I1 : Inv X pins σ (upd H s.heap.objs.size (.frz { cls := .type "tuple", data := .seq #[.int i tk, u'] } (.tup [.int (i : Nat), x]))) { s with heap := h'', toks := tk + 1 } :=
      I.turnedNew (ch := [e, it]) (fun b ob hb q => (sb.2 b (fun z => hb (by simp [z]))).trans (hk b ob (fun z => hb (by simp [z])) (fun z => hb (by simp [z])) q)) hf (Nat.le_refl _) new
    refine ⟨.ref s.heap.objs.size, _, I1, rfl, ⟨_, _, _, x, rfl, I.hok.fresh (Nat.le_refl _), (show PlT { cls := .type "tuple", data := .seq #[.int i tk, u'] } from rfl), rfl, rfl, fun ys hy => by rw [sqK_inj I hy hq]; exact hx⟩, ⟨⟨u', ?_⟩, hit'.1.at fun o q => (sb.2 it (Ne.symm hne)).trans q, hne, hea⟩, fun b hb => ?_⟩
    · have e1 : ((i + 1 : Nat) : Int) = (i : Int) + 1 := by omega
      rw [e1]; exact he'
    · have hb' : b < s.heap.objs.size := by
        have e' : b = e ∨ b = it := by simpa using hb
        rcases e' with z | z
        · rw [z]; exact hel
        · rw [z]; exact hil
      rw [upd_ne (Nat.ne_of_lt hb')]
      exact (hf b hb).1
  done := by
    intro X hP hw hK hc i pins s σ H E I hf st hg
    subst hP hw hK
    obtain ⟨⟨old, he⟩, hit, hne, hea⟩ := st
    obtain ⟨xs, hq, hx⟩ := hg
    obtain ⟨its, rv, p, hz⟩ := seK I hq
    obtain ⟨f0, f1, f2, f3, f4, f5⟩ := hf it (by simp)
    have hl := rv.length
    have hh : X.A.in1.handled = none := I.ok.hd hc
    have hn : its.toArray.size = i := by rw [List.size_toArray, ← hl]; exact hx
    have D := drawsK (P := X.prog) (w := X.w) hh k it a (it_ne hit p) its.toArray
    rw [hn] at D
    exact wpAny_pyNext_enum_endD D he ⟨hit, p⟩ fun h' eb => ⟨rfl, I.turned (t' := s.toks) (fun b o hb q => eb b o hb q) f0 f1 f3 f4 f5⟩
  self := fun A i s Q E st h => let ⟨⟨_, he⟩, _⟩ := st; wpAny_pyIter_enum he h
def iEnumA (K : PySem.W.Frag) (ta : TA) : TI := fun σ H R => ta σ H fun vs H1 => ∃ k a xs, vs = [.ref a] ∧ SqK k K H1 a xs ∧ R (IteA k K a) H1
theorem pi_enumA {X : Cx} {e : Expr} {ta : TA} {p pos tpos : Pos} {elts : List Expr} {kk : Nat} (hg : Gl X "enumerate") (hm : X.mg "enumerate" = none) (ha : PA X [e] ta) (hs : starEach [e] X.env = [(false, eval e X.env)] := by rfl) :
    PI X (.Tuple elts kk tpos) (.Call (.Name "enumerate" p) [e] [] pos) (iEnumA X.K ta) := by
  refine ⟨fun pins s σ H R I h => ?_⟩
  refine Call_ (ld_blt I hg hm boot_enumerate (PyProof.Rows.callWith_type1 (thn (ha.run pos pins s σ H _ I h) fun us s1 ⟨vs, H1, I1, r1, q1⟩ => ?_) hs rfl))
  obtain ⟨k, a, xs, ex, hq, q⟩ := q1
  subst ex
  cases r1 with
  | cons r rr =>
    cases rr
    cases r
    obtain ⟨its, rv, p', hz⟩ := seK I1 hq
    have hal := p'.lt
    have fin : ∀ h' : Heap, IsEnum h' (s1.heap.objs.size + 1) s1.heap.objs.size 0 .none → ItK k h' s1.heap.objs.size a 0 → (∀ b o, s1.heap.get? b = some o → h'.get? b = some o) →
        wpAny (model X.prog X.w) X.A (pyIter (.ref (s1.heap.objs.size + 1))) (PIE X pins σ (.Tuple elts kk tpos) R) X.xe { s1 with heap := h' } := fun h' he hit hk => by
      refine wpAny_pyIter_enum he ?_
      have I2 : Inv X pins σ H1 { s1 with heap := h' } := I1.kept (t' := s1.toks) hk
      refine ⟨s1.heap.objs.size + 1, [s1.heap.objs.size + 1, s1.heap.objs.size], _, _, H1, rfl, I2, turn_enumA k a (s1.heap.objs.size + 1) s1.heap.objs.size, ⟨⟨.none, he⟩, hit, Nat.succ_ne_self _, Nat.ne_of_gt (Nat.lt_succ_of_lt hal)⟩, fun b hb => ?_, q⟩
      have e' : b = s1.heap.objs.size + 1 ∨ b = s1.heap.objs.size := by simpa using hb
      have hle : s1.heap.objs.size ≤ b := by
        rcases e' with z | z
        · rw [z]; exact Nat.le_add_right _ _
        · rw [z]; exact Nat.le_refl _
      exact I1.fpOk hle (I1.hok.fresh hle)
    cases k with
    | true => exact call_enumerate_list p' fun h' he hit hsz hk => fin h' he hit hk
    | false => exact PySem.dl_enumT p' fun h' he hit hsz hk => fin h' he hit hk

/-! ### zip -/
def ItzA (k m : Bool) (K : PySem.W.Frag) (a b : Addr) : It :=
  ⟨fun i H => ∃ (xs ys : List V) (x y : V), SqK k K H a xs ∧ SqK m K H b ys ∧ xs[i]? = some x ∧ ys[i]? = some y,
    fun i H v H' => YldP (fun x => ∀ xs, SqK k K H a xs → xs[i]? = some x) (fun y => ∀ ys, SqK m K H b ys → ys[i]? = some y) i H v H',
    fun i H => ∃ xs ys : List V, SqK k K H a xs ∧ SqK m K H b ys ∧ i ≤ xs.length ∧ i ≤ ys.length ∧ (i = xs.length ∨ i = ys.length)⟩
theorem turn_zipA {P : Program} {w : World} {K : PySem.W.Frag} {elts : List Expr} {kk : Nat} {tpos : Pos} {k m : Bool} {a b z TI TO i1 i2 : Addr} (S : ZipSep2 z TI TO i1 i2 [i1, a] [i2, b]) :
    Turn P w K (.Tuple elts kk tpos) (ItzA k m K a b) [z, TI, TO, i1, i2] z (fun i h => IsZip h z TI TO .none ∧ IsTupOf2 h TI (.ref i1) (.ref i2) ∧ (∃ x y, IsTupOf2 h TO x y) ∧ ItK k h i1 a i ∧ ItK m h i2 b i) where
  mem := by simp
  obj := fun i h st c hc => by
    obtain ⟨hz, hTI, ⟨x, y, hTO⟩, h1, h2⟩ := st
    have e' : c = z ∨ c = TI ∨ c = TO ∨ c = i1 ∨ c = i2 := by simpa using hc
    rcases e' with q | q | q | q | q
    · rw [q]; exact ⟨_, hz, fun v q => nomatch q⟩
    · rw [q]; exact ⟨_, hTI, fun v q => nomatch q⟩
    · rw [q]; exact ⟨_, hTO, fun v q => nomatch q⟩
    · rw [q]; exact h1.obj
    · rw [q]; exact h2.obj
  keep := fun i h h' st k => by
    obtain ⟨hz, hTI, ⟨x, y, hTO⟩, h1, h2⟩ := st
    exact ⟨k z (by simp) _ hz, k TI (by simp) _ hTI, ⟨x, y, k TO (by simp) _ hTO⟩, h1.at fun o q => k i1 (by simp) o q, h2.at fun o q => k i2 (by simp) o q⟩
  item := by
    intro X hP hw hK hc i pins s σ H E I hf st hg
    subst hP hw hK
    obtain ⟨hz, hTI, ⟨x0, y0, hTO⟩, h1, h2⟩ := st
    obtain ⟨xs, ys, x, y, hqx, hqy, hx, hy⟩ := hg
    obtain ⟨its, rv, p, _⟩ := seK I hqx
    obtain ⟨its2, rv2, p2, _⟩ := seK I hqy
    obtain ⟨u, hu, ru⟩ := rv.get hx
    obtain ⟨u2, hu2, ru2⟩ := rv2.get hy
    have hzl : z < s.heap.objs.size := Heap.lt_size hz
    have hh : X.A.in1.handled = none := I.ok.hd hc
    have hlt1 : i < its.toArray.size := by rw [List.size_toArray, ← rv.length]; exact (List.getElem?_eq_some_iff.mp hx).1
    have hlt2 : i < its2.toArray.size := by rw [List.size_toArray, ← rv2.length]; exact (List.getElem?_eq_some_iff.mp hy).1
    refine wpAny_pyNext_zipD2_item S (drawsK hh k i1 a (it_ne h1 p) its.toArray) (drawsK hh m i2 b (it_ne h2 p2) its2.toArray) hz hTI hTO ⟨h1, p⟩ ⟨h2, p2⟩ hlt1 hlt2 fun v1 v2 h' tk y1 y2 z' TO' h1' h2' hT hsz hk => ?_
    have eu : v1 = u := by
      have q1 : its[i]? = some v1 := by simpa using y1
      rw [hu] at q1; exact (Option.some.inj q1).symm
    have eu2 : v2 = u2 := by
      have q1 : its2[i]? = some v2 := by simpa using y2
      rw [hu2] at q1; exact (Option.some.inj q1).symm
    subst eu eu2
    refine ⟨_, rfl, wpAny_letOwnedTupleGo_zip (s := { s with heap := h', toks := tk }) z' fun h'' z'' sb => ?_⟩
    have hT2 : h''.get? s.heap.objs.size = some { cls := .type "tuple", data := .seq #[v1, v2] } := (sb.2 _ (Nat.ne_of_gt hzl)).trans hT
    have new : ObjOk X.prog X.w (upd H s.heap.objs.size (.frz { cls := .type "tuple", data := .seq #[v1, v2] } (.tup [x, y]))) h'' s.heap.objs.size (.frz { cls := .type "tuple", data := .seq #[v1, v2] } (.tup [x, y])) :=
      ⟨hT2, by show 2 ≤ sizeLine; decide, [v1, v2], .cons ru (.cons ru2 .nil), ⟨_, hT2, rfl, _, rfl⟩⟩
    have I1 : Inv X pins σ (upd H s.heap.objs.size (.frz { cls := .type "tuple", data := .seq #[v1, v2] } (.tup [x, y]))) { s with heap := h'', toks := tk } :=
      I.turnedNew (t' := tk) (ch := [z, TI, TO, i1, i2]) (fun c o hb q => (sb.2 c (fun q' => hb (by simp [q']))).trans (hk c o (fun q' => hb (by simp [q'])) (fun q' => hb (by simp [q'])) (fun q' => hb (by simp [q'])) (fun q' => hb (by simp [q'])) q)) hf (Nat.le_refl _) new
    refine ⟨.ref s.heap.objs.size, _, I1, rfl, ⟨_, _, x, y, rfl, I.hok.fresh (Nat.le_refl _), (show PlT { cls := .type "tuple", data := .seq #[v1, v2] } from rfl), rfl, fun l hl => by rw [sqK_inj I hl hqx]; exact hx, fun l hl => by rw [sqK_inj I hl hqy]; exact hy⟩, ⟨z'', ?_, ⟨v1, v2, ?_⟩, ?_, ?_⟩, fun c hcm => ?_⟩
    · exact (sb.2 _ S.TIz).trans (hk _ _ S.TIz S.TITO S.TIi1 S.TIi2 hTI)
    · exact (sb.2 _ S.TOz).trans TO'
    · exact h1'.1.at fun o q => (sb.2 _ (Ne.symm S.zi1)).trans q
    · exact h2'.1.at fun o q => (sb.2 _ (Ne.symm S.zi2)).trans q
    · have hlt : c < s.heap.objs.size := by
        have e' : c = z ∨ c = TI ∨ c = TO ∨ c = i1 ∨ c = i2 := by simpa using hcm
        rcases e' with q | q | q | q | q
        · rw [q]; exact hzl
        · rw [q]; exact Heap.lt_size hTI
        · rw [q]; exact Heap.lt_size hTO
        · rw [q]; obtain ⟨_, e1, _⟩ := h1.obj; exact Heap.lt_size e1
        · rw [q]; obtain ⟨_, e2, _⟩ := h2.obj; exact Heap.lt_size e2
      rw [upd_ne (Nat.ne_of_lt hlt)]
      exact (hf c hcm).1
  done := by
    intro X hP hw hK hc i pins s σ H E I hf st hg
    subst hP hw hK
    obtain ⟨hz, hTI, ⟨x0, y0, hTO⟩, h1, h2⟩ := st
    obtain ⟨xs, ys, hqx, hqy, l1, l2, hend⟩ := hg
    obtain ⟨its, rv, p, _⟩ := seK I hqx
    obtain ⟨its2, rv2, p2, _⟩ := seK I hqy
    have e1 : its.toArray.size = xs.length := by rw [List.size_toArray]; exact rv.length.symm
    have e2 : its2.toArray.size = ys.length := by rw [List.size_toArray]; exact rv2.length.symm
    have hh : X.A.in1.handled = none := I.ok.hd hc
    exact wpAny_pyNext_zipD2_end S (drawsK hh k i1 a (it_ne h1 p) its.toArray) (drawsK hh m i2 b (it_ne h2 p2) its2.toArray) hz hTI hTO ⟨h1, p⟩ ⟨h2, p2⟩ (by omega) (by omega) (by omega) fun h' tk hk => ⟨rfl, I.turnedL (t' := tk) (ch := [z, TI, TO, i1, i2]) (fun c o hb q =>
      hk c o (fun q' => hb (by simp [q'])) (fun q' => hb (by simp [q'])) (fun q' => hb (by simp [q'])) (fun q' => hb (by simp [q'])) q) hf⟩
  self := fun A i s Q E st h => wpAny_pyIter_zip st.1 h
def itObj (k : Bool) (a : Addr) : Obj := match k with
  | true => { cls := .type "list_iterator", data := .fields #[.ref a, .int 0 0] }
  | false => { cls := .type "tuple_iterator", data := .fields #[.ref a, .int 0 0] }
theorem begK (k : Bool) (a : Addr) (its : Array Value) : Begins (.ref a) (itObj k a) fun h => SeK k h a its := by
  cases k with
  | true => exact begins_list a its
  | false => exact begins_tuple a its
theorem itK_of {k : Bool} {h : Heap} {it a : Addr} (e : h.get? it = some (itObj k a)) : ItK k h it a 0 := by
  cases k with
  | true => exact ⟨_, e, rfl, rfl⟩
  | false => exact ⟨_, e, rfl, rfl⟩
def iZipB (K : PySem.W.Frag) (ta : TA) : TI := fun σ H R => ta σ H fun vs H1 => ∃ k m a b xs ys, vs = [.ref a, .ref b] ∧ SqK k K H1 a xs ∧ SqK m K H1 b ys ∧ R (ItzA k m K a b) H1
theorem pi_zipB {X : Cx} {e e2 : Expr} {ta : TA} {p pos tpos : Pos} {elts : List Expr} {kk : Nat} (hg : Gl X "zip") (hm : X.mg "zip" = none) (ha : PA X [e, e2] ta)
    (hs : starEach [e, e2] X.env = (false, eval e X.env) :: starEach [e2] X.env := by rfl) (hpl : (backTo pos (starEach [e2] X.env)).any (·.1) = false := by rfl) :
    PI X (.Tuple elts kk tpos) (.Call (.Name "zip" p) [e, e2] [] pos) (iZipB X.K ta) := by
  refine ⟨fun pins s σ H R I h => ?_⟩
  refine Call_ (ld_blt I hg hm PyProof.Rows.boot_zip (PyProof.Rows.callWith_type1 (thn (ha.run pos pins s σ H _ I h) fun us s1 ⟨vs, H1, I1, r1, q1⟩ => ?_) hs hpl))
  obtain ⟨k, m, a, b, xs, ys, ex, hqx, hqy, q⟩ := q1
  subst ex
  cases r1 with
  | cons r rr =>
    cases rr with
    | cons r' rr =>
      cases rr
      cases r
      cases r'
      obtain ⟨its, rv, p1, _⟩ := seK I1 hqx
      obtain ⟨its2, rv2, p2, _⟩ := seK I1 hqy
      have hal := p1.lt
      have hbl := p2.lt
      refine zip_begins2 (begK k a its.toArray) (begK m b its2.toArray) p1 p2 fun h' hz hTI hTO h1 h2 hsz hk => wpAny_pyIter_zip hz ?_
      have I2 : Inv X pins σ H1 { s1 with heap := h' } := I1.kept (t' := s1.toks) hk
      have S : ZipSep2 (s1.heap.objs.size + 4) (s1.heap.objs.size + 2) (s1.heap.objs.size + 3) s1.heap.objs.size (s1.heap.objs.size + 1) [s1.heap.objs.size, a] [s1.heap.objs.size + 1, b] :=
        zip_sep2 (N := s1.heap.objs.size) (fp1 := [a]) (fp2 := [b]) (fun c hc => by simp at hc; subst hc; exact hal) (fun c hc => by simp at hc; subst hc; exact hbl)
      refine ⟨s1.heap.objs.size + 4, [s1.heap.objs.size + 4, s1.heap.objs.size + 2, s1.heap.objs.size + 3, s1.heap.objs.size, s1.heap.objs.size + 1], _, _, H1, rfl, I2, turn_zipA S, ⟨hz, hTI, ⟨_, _, hTO⟩, itK_of h1, itK_of h2⟩, fun c hcm => ?_, q⟩
      have e' : c = s1.heap.objs.size + 4 ∨ c = s1.heap.objs.size + 2 ∨ c = s1.heap.objs.size + 3 ∨ c = s1.heap.objs.size ∨ c = s1.heap.objs.size + 1 := by simpa using hcm
      have hle : s1.heap.objs.size ≤ c := by
        rcases e' with z | z | z | z | z
        · rw [z]; exact Nat.le_add_right _ _
        · rw [z]; exact Nat.le_add_right _ _
        · rw [z]; exact Nat.le_add_right _ _
        · rw [z]; exact Nat.le_refl _
        · rw [z]; exact Nat.le_add_right _ _
      exact I1.fpOk hle (I1.hok.fresh hle)
/-- a list or a tuple, walked -/
def ItlA (k : Bool) (K : PySem.W.Frag) (a : Addr) : It := match k with
  | true => Itl K a
  | false => Itt K a
def iAny (K : PySem.W.Frag) (tl : TE) : TI := fun σ H R => tl σ H fun x H1 => ∃ k a, x = .ref a ∧ (∃ xs, SqK k K H1 a xs) ∧ R (ItlA k K a) H1
theorem pi_any {X : Cx} {tg l : Expr} {tl : TE} (hl : PE X l tl) : PI X tg l (iAny X.K tl) := by
  refine ⟨fun pins s σ H R I h => ?_⟩
  refine thn (hl.run pins s σ H _ I h) fun v s1 ⟨x, H1, I1, r1, q1⟩ => ?_
  obtain ⟨k, a, e, ⟨xs, hq⟩, q⟩ := q1
  subst e
  cases r1
  cases k with
  | true =>
    obtain ⟨its, rv, p, hz⟩ := I1.list hq
    refine wpAny_pyIter_list p.isList ?_
    refine ⟨s1.heap.objs.size, [s1.heap.objs.size], _, _, H1, rfl, I1.kept (t' := s1.toks) fun b o e => Heap.get?_push_of_some _ e, turn_list a _, ⟨_, Heap.get?_push_size _ rfl, rfl, rfl⟩, fun b hb => ?_, q⟩
    have e : b = s1.heap.objs.size := by simpa using hb
    subst e
    exact I1.fpOk (Nat.le_refl _) (I1.hok.fresh (Nat.le_refl _))
  | false =>
    obtain ⟨its, rv, p, hz⟩ := I1.tuple hq
    refine wpAny_pyIter_tuple (show s1.heap.IsTuple a its.toArray from p) ?_
    refine ⟨s1.heap.objs.size, [s1.heap.objs.size], _, _, H1, rfl, I1.kept (t' := s1.toks) fun b o e => Heap.get?_push_of_some _ e, turn_tuple a _, ⟨_, Heap.get?_push_size _ rfl, rfl, rfl⟩, fun b hb => ?_, q⟩
    have e : b = s1.heap.objs.size := by simpa using hb
    subst e
    exact I1.fpOk (Nat.le_refl _) (I1.hok.fresh (Nat.le_refl _))
end Dl

end
section
set_option Elab.async false
set_option linter.all false
set_option maxRecDepth 100000
set_option maxHeartbeats 4000000
set_option autoImplicit false
/-! The data layer: built-ins, slices, what is walked, targets. -/
namespace Dl
open PySem PySem.Spec PyProof.Rows L2
open Evl (Ex)
/-! ### built-ins by values -/
def c1Of (K : PySem.W.Frag) (f : Op1) : List V → Hp → VK → Prop := fun xs H Q => ∃ x, xs = [x] ∧ uOf K f x H Q
def c2Of (K : PySem.W.Frag) (f : Op2) : List V → Hp → VK → Prop := fun xs H Q => ∃ x y, xs = [x, y] ∧ rOf K f x y H Q
section
variable {X : Cx}
theorem sd_abs : CallR X (.builtin "abs") (c1Of X.K oAbs) := by
  intro pins s σ H xs us Q I r q
  obtain ⟨x, rfl, G, a, k, gh, ra, hf, kk⟩ := q
  cases a <;> try exact hf.elim
  rename_i i
  cases ra.int
  exact call_abs pins s σ H _ us Q I r ⟨i, rfl, kk _ G H _ (XT.refl gh) (.int _) hf⟩
theorem sd_int : CallR X (.type "int") (c1Of X.K oInt) := by
  intro pins s σ H xs us Q I r q
  obtain ⟨x, rfl, G, a, k, gh, ra, hf, kk⟩ := q
  cases a <;> try exact hf.elim
  · rename_i i
    cases ra.bl
    exact call_int1 pins s σ H _ us Q I r (.inr ⟨i, rfl, kk _ G H _ (XT.refl gh) (.int _) hf⟩)
  · rename_i i
    cases ra.int
    exact call_int1 pins s σ H _ us Q I r (.inl ⟨i, rfl, kk _ G H _ (XT.refl gh) (.int _) hf⟩)
theorem sd_tuple : CallR X (.type "tuple") (c1Of X.K oTuple) := by
  intro pins s σ H xs us Q I r q
  obtain ⟨x, rfl, G, a, k, gh, ra, hf, kk⟩ := q
  cases a <;> try exact hf.elim
  · rename_i ds
    obtain ⟨l, xs, rfl, hl, ha⟩ := ra.lst gh
    exact call_tupF pins s σ H _ us Q I r ⟨l, xs, rfl, .inl ⟨SqL.of hl, fun p o hp ho => kk _ _ _ _ (XT.new gh hp) (Is.newT gh hp ho ha) hf⟩⟩
  · rename_i ds
    obtain ⟨l, xs, rfl, hl, hl', ha⟩ := ra.tup gh
    exact call_tupF pins s σ H _ us Q I r ⟨l, xs, rfl, .inr ⟨hl, kk _ G H _ (XT.refl gh) (.tup hl' ha) hf⟩⟩
theorem sd_all (hc : X.calm = true) : CallR X (.builtin "all") (c1Of X.K oAll) := by
  intro pins s σ H xs us Q I r q
  obtain ⟨x, rfl, G, a, k, gh, ra, hf, kk⟩ := q
  cases a <;> try exact hf.elim
  rename_i ds
  obtain ⟨bs, rfl, hf⟩ := hf
  obtain ⟨l, xs, rfl, hl, ha⟩ := ra.lst gh
  rw [ha.bools] at hl
  exact cr_all hc pins s σ H _ us Q I r ⟨l, bs, rfl, SqL.of hl, kk _ G H _ (XT.refl gh) (.bl _) hf⟩
theorem sd_any (hc : X.calm = true) : CallR X (.builtin "any") (c1Of X.K oAny) := by
  intro pins s σ H xs us Q I r q
  obtain ⟨x, rfl, G, a, k, gh, ra, hf, kk⟩ := q
  cases a <;> try exact hf.elim
  rename_i ds
  obtain ⟨bs, rfl, hf⟩ := hf
  obtain ⟨l, xs, rfl, hl, ha⟩ := ra.lst gh
  rw [ha.bools] at hl
  exact cr_any hc pins s σ H _ us Q I r ⟨l, bs, rfl, SqL.of hl, kk _ G H _ (XT.refl gh) (.bl _) hf⟩
theorem sd_sum (hc : X.calm = true) : CallR X (.builtin "sum") (c1Of X.K oSum) := by
  intro pins s σ H xs us Q I r q
  obtain ⟨x, rfl, G, a, k, gh, ra, hf, kk⟩ := q
  cases a <;> try exact hf.elim
  rename_i ds
  obtain ⟨bs, rfl, hf⟩ := hf
  obtain ⟨l, xs, rfl, hl, ha⟩ := ra.lst gh
  rw [ha.ints] at hl
  exact cr_sum hc pins s σ H _ us Q I r ⟨l, bs, rfl, SqL.of hl, kk _ G H _ (XT.refl gh) (.int _) hf⟩
theorem sd_max2 (hc : X.calm = true) : CallR X (.builtin "max") (c2Of X.K oMax2) := by
  intro pins s σ H xs us Q I r q
  obtain ⟨x, y, rfl, G, a, b, k, gh, ra, rb, hf, kk⟩ := q
  cases a <;> cases b <;> try exact hf.elim
  rename_i i j
  cases ra.int
  cases rb.int
  exact call_max2 hc pins s σ H _ us Q I r ⟨i, j, rfl, kk _ G H _ (XT.refl gh) (.int _) hf⟩
theorem sd_min2 (hc : X.calm = true) : CallR X (.builtin "min") (c2Of X.K oMin2) := by
  intro pins s σ H xs us Q I r q
  obtain ⟨x, y, rfl, G, a, b, k, gh, ra, rb, hf, kk⟩ := q
  cases a <;> cases b <;> try exact hf.elim
  rename_i i j
  cases ra.int
  cases rb.int
  exact call_min2 hc pins s σ H _ us Q I r ⟨i, j, rfl, kk _ G H _ (XT.refl gh) (.int _) hf⟩
theorem sd_divmod : CallR X (.builtin "divmod") (c2Of X.K oDivmod) := by
  intro pins s σ H xs us Q I r q
  obtain ⟨x, y, rfl, G, a, b, k, gh, ra, rb, hf, kk⟩ := q
  cases a <;> cases b <;> try exact hf.elim
  rename_i i j
  cases ra.int
  cases rb.int
  exact call_divF pins s σ H _ us Q I r ⟨i, j, rfl, hf.1, fun p o hp ho => kk _ _ _ _ (XT.new gh hp) (Is.newT gh hp ho (.cons (.int _) (.cons (.int _) .nil))) hf.2⟩
theorem kit_tab : ∀ T ∈ ["int", "bool", "str", "tuple", "list"], kitB "NoneType" T = some false ∧ kitB "int" T = some (T == "int") ∧ kitB "bool" T = some (T == "bool" || T == "int") ∧ kitB "str" T = some (T == "str") ∧ kitB "tuple" T = some (T == "tuple") ∧ kitB "list" T = some (T == "list") := by decide +kernel
theorem sd_isTy {T : String} (hT : T ∈ ["int", "bool", "str", "tuple", "list"]) : CallR X (.builtin "isinstance") (fun xs H Q => ∃ x, xs = [x, .ty T] ∧ uOf X.K (oIsTy T) x H Q) := by
  intro pins s σ H xs us Q I r q
  obtain ⟨x, rfl, G, a, k, gh, ra, hf, kk⟩ := q
  obtain ⟨k0, k1, k2, k3, k4, k5⟩ := kit_tab T hT
  have fin : ∀ (t : Value) (b : Bool), TyX X.K H x t → PySem.W.kitOne X.K t (.type T) = some b → k (.bool b) → wpAny (model X.prog X.w) X.A (call (.builtin "isinstance") us) (EP X pins σ Q) X.xe s := fun t b ty e hb =>
    call_isi pins s σ H _ us Q I r ⟨x, .ty T, t, .type T, b, rfl, .ty T, ty, e, kk _ G H _ (XT.refl gh) (.bl _) hb⟩
  cases a with
  | dict _ => exact hf.elim
  | none =>
    have e : x = .non := by
      rcases ra with h | ⟨l, xs, ds, e, _⟩
      · cases h; rfl
      · cases e
    subst e
    exact fin _ _ (.base .non) (kit_ty k0) hf
  | bool b =>
    cases ra.bl
    exact fin _ _ (.base (.bl b)) (kit_ty k2) hf
  | int i =>
    cases ra.int
    exact fin _ _ (.base (.int i)) (kit_ty k1) hf
  | str z =>
    cases ra.str
    exact fin _ _ (.base (.str z)) (kit_ty k3) hf
  | list ds =>
    obtain ⟨l, xs, rfl, hl, ha⟩ := ra.lst gh
    exact fin _ _ (.base (.lst hl)) (kit_ty k5) hf
  | tuple ds =>
    rcases ra with h | ⟨l, xs, ds, e, _⟩
    · cases h with
      | tup h1 h2 =>
        rcases h1 with ⟨o, h1, _⟩ | ⟨o, its, n, h1, h2, _⟩
        · exact fin _ _ (.fTuple (gh _ _ h1)) (kit_ty k4) hf
        · exact fin _ _ (.kTuple h1 h2) (kit_ty k4) hf
    · cases e
end
section
variable {X : Cx} {C : Addr} {a b e o : Expr} {es : List Expr} {da db dc : DTE} {dr : DTA} {pos p : Pos} {x : Str} {id T : String}
theorem c1_weak {K : PySem.W.Frag} {f : Op1} {σ : L2.St} {H : Hp} {Q : VK} (h : teOf K C (dUn f da) σ H Q) : tCB (c1Of K f) (tCons (teOf K C da) tNil) σ H Q := by
  obtain ⟨E, G, δ, P, c, h, k⟩ := h
  refine ⟨E, G, δ, _, c, h, fun v N H1 s δ1 c1 s1 h1 => ?_⟩
  obtain ⟨a, ra, hf⟩ := rdW_out s1 h1
  exact ⟨v, rfl, N, a, _, c1.gh, ra, hf, fun v' N3 H3 d x i3 p => k v' N3 H3 (.im d) δ1 (c1.xt x) i3 p⟩
theorem c2_weak {K : PySem.W.Frag} {f : Op2} {σ : L2.St} {H : Hp} {Q : VK} (h : teOf K C (dB2 f da db) σ H Q) : tCB (c2Of K f) (tCons (teOf K C da) (tCons (teOf K C db) tNil)) σ H Q := by
  obtain ⟨E, G, δ, P, c, h, k⟩ := h
  refine ⟨E, G, δ, _, c, h, fun v N H1 s δ1 c1 s1 h1 => ?_⟩
  obtain ⟨a, rfl, h1⟩ := h1
  refine ⟨here E.F N H1 δ1, N, δ1, _, c1.here, h1, fun w N2 H2 t δ2 c2 s2 h2 => ?_⟩
  obtain ⟨b, rfl, hf⟩ := h2
  exact ⟨v, w, rfl, N2, a, b, _, c2.gh, .inl (Is.mono c2.gg _ _ s1), .inl s2, hf, fun v' N3 H3 d x i3 p => k v' N3 H3 (.im d) δ2 ((c1.trans c2).xt x) i3 p⟩
theorem pd_b1 {f : Op1} (hc : CallR X (.builtin id) (c1Of X.K f)) (hm : X.mg x = none) (ha : PDe X C a da) (hv : bootBuiltins x = some (.builtin id) := by decide +kernel) (hg : Gl X x := by rfl) (hn : x ≠ "__name__" := by decide) (hdb : (x == ("__debug__" : Str)) = false := by decide)
    (he : starEach [a] X.env = (false, eval a X.env) :: starEach [] X.env := by rfl) (hpl : (backTo pos (starEach [] X.env)).any (·.1) = false := by rfl) : PDe X C (.Call (.Name x p) [a] [] pos) (dUn f da) := PE.weak (pe_callB hc hg hm hv (pa_cons ha pa_nil he) hn hdb he hpl) fun _ _ _ h => c1_weak h
theorem pd_t1 {f : Op1} (hc : CallR X (.type T) (c1Of X.K f)) (hm : X.mg x = none) (ha : PDe X C a da) (hv : bootBuiltins x = some (.type T) := by decide +kernel) (hg : Gl X x := by rfl) (hn : x ≠ "__name__" := by decide) (hdb : (x == ("__debug__" : Str)) = false := by decide)
    (he : starEach [a] X.env = (false, eval a X.env) :: starEach [] X.env := by rfl) (hpl : (backTo pos (starEach [] X.env)).any (·.1) = false := by rfl) : PDe X C (.Call (.Name x p) [a] [] pos) (dUn f da) := PE.weak (pe_callTy hc hg hm hv (pa_cons ha pa_nil he) hn hdb he hpl) fun _ _ _ h => c1_weak h
theorem pd_b2 {f : Op2} (hc : CallR X (.builtin id) (c2Of X.K f)) (hm : X.mg x = none) (ha : PDe X C a da) (hb : PDe X C b db) (hv : bootBuiltins x = some (.builtin id) := by decide +kernel) (hg : Gl X x := by rfl) (hn : x ≠ "__name__" := by decide) (hdb : (x == ("__debug__" : Str)) = false := by decide)
    (he : starEach [a, b] X.env = (false, eval a X.env) :: starEach [b] X.env := by rfl) (hs2 : starEach [b] X.env = (false, eval b X.env) :: starEach [] X.env := by rfl) (hpl : (backTo pos (starEach [b] X.env)).any (·.1) = false := by rfl) : PDe X C (.Call (.Name x p) [a, b] [] pos) (dB2 f da db) :=
  PE.weak (pe_callB hc hg hm hv (pa_cons ha (pa_cons hb pa_nil hs2) he) hn hdb he hpl) fun _ _ _ h => c2_weak h
theorem pd_isTy {T : String} {y : Str} {py : Pos} (hT : T ∈ ["int", "bool", "str", "tuple", "list"]) (hm : X.mg "isinstance" = none) (hmt : X.mg y = none) (ha : PDe X C a da) (hvt : bootBuiltins y = some (.type T) := by decide +kernel) (hgt : Gl X y := by rfl) (hnt : y ≠ "__name__" := by decide) (hdt : (y == ("__debug__" : Str)) = false := by decide)
    (hg : Gl X "isinstance" := by rfl) (he : starEach [a, .Name y py] X.env = (false, eval a X.env) :: starEach [.Name y py] X.env := by rfl) (hs2 : starEach [.Name y py] X.env = (false, eval (.Name y py) X.env) :: starEach [] X.env := by rfl) (hpl : (backTo pos (starEach [.Name y py] X.env)).any (·.1) = false := by rfl) :
    PDe X C (.Call (.Name "isinstance" p) [a, .Name y py] [] pos) (dUn (oIsTy T) da) :=
  PE.weak (pe_callB (sd_isTy hT) hg hm (by decide +kernel) (pa_cons ha (pa_cons (pe_bltn hgt hmt hvt (show RelV (.ty T) (.type T) from rfl) hnt hdt) pa_nil hs2) he) (by decide) (by decide) he hpl) fun σ H Q h => by
    obtain ⟨E, G, δ, P, c, h, k⟩ := h
    refine ⟨E, G, δ, _, c, h, fun v N H1 s δ1 c1 s1 h1 => ?_⟩
    obtain ⟨a, ra, hf⟩ := rdW_out s1 h1
    exact ⟨v, rfl, N, a, _, c1.gh, ra, hf, fun v' N3 H3 d x i3 p => k v' N3 H3 (.im d) δ1 (c1.xt x) i3 p⟩
theorem pd_len (hm : X.mg "len" = none) (ha : PDe X C a da) (hg : Gl X "len" := by rfl)
    (he : starEach [a] X.env = (false, eval a X.env) :: starEach [] X.env := by rfl) (hpl : (backTo pos (starEach [] X.env)).any (·.1) = false := by rfl) : PDe X C (.Call (.Name "len" p) [a] [] pos) (dLen da) :=
  PE.weak (pe_callB (CallR.or call_len_seq call_len_str) hg hm PySem.boot_len (pa_cons ha pa_nil he) (by decide) (by decide) he hpl) fun σ H Q h => by
    obtain ⟨E, G, δ, P, c, h, k⟩ := h
    refine ⟨E, G, δ, _, c, h, fun v N H1 s δ1 c1 s1 h1 => ?_⟩
    have seq : ∀ (ds : List D) (xs : List V) (l : Addr), (SqL X.K H1 l xs ∨ SqT X.K H1 l xs) → IsAll X.K N xs ds → v = .ref l → P (.im (.int ds.length)) δ1 → (∃ p ys, [v] = [V.ref p] ∧ (SqL X.K H1 p ys ∨ SqT X.K H1 p ys) ∧ Q (.int ys.length) H1) := fun ds xs l q ia e hp =>
      ⟨l, xs, by rw [e], q, by rw [ia.len]; exact k (.int ds.length) N H1 (.im (.int ds.length)) δ1 c1 (Is.int _) hp⟩
    cases s with
    | e => exact h1.elim
    | own2 l r => exact h1.elim
    | wk p t u => exact h1.elim
    | val w => exact h1.elim
    | own f l ds =>
      obtain ⟨e, g, xs, hl, ia⟩ := s1
      exact .inl (seq ds xs l (.inl (SqL.of hl)) ia e h1)
    | sq ds =>
      obtain ⟨l, xs, e, hl, ia⟩ := s1
      exact .inl (seq ds xs l (.inl (Evl.ex_l c1.gh hl)) ia e h1)
    | im d =>
      cases d <;> try exact h1.elim
      · rename_i z
        cases s1
        exact .inr ⟨z, rfl, h1.1, k (.int z.length) N H1 (.im (.int z.length)) δ1 c1 (Is.int _) h1.2⟩
      · rename_i ds
        cases s1 with
        | lst hl ia => exact .inl (seq ds _ _ (.inl (SqL.of (c1.gh _ _ hl))) ia rfl h1)
      · rename_i ds
        cases s1 with
        | tup hl ia => exact .inl (seq ds _ _ (.inr (Evl.ex_t c1.gh hl.sq)) ia rfl h1)
theorem pdf_list (hm : X.mg "list" = none) (ha : PDe X C a da) (hg : Gl X "list" := by rfl)
    (he : starEach [a] X.env = (false, eval a X.env) :: starEach [] X.env := by rfl) (hpl : (backTo pos (starEach [] X.env)).any (·.1) = false := by rfl) : PDf X C (.Call (.Name "list" p) [a] [] pos) (fList da) :=
  PE.weak (pe_callTy call_list_of hg hm (by decide +kernel) (pa_cons ha pa_nil he) (by decide) (by decide) he hpl) fun σ H Q h => by
    obtain ⟨E, G, δ, P, c, h, k⟩ := h
    refine ⟨E, G, δ, _, c, h, fun v N H1 s δ1 c1 s1 h1 => ?_⟩
    have fin : ∀ (ds : List D) (xs : List V) (l : Addr), (SqL X.K H1 l xs ∨ SqT X.K H1 l xs) → IsAll X.K N xs ds → v = .ref l → P ds δ1 → (∃ p ys, [v] = [V.ref p] ∧ (SqL X.K H1 p ys ∨ SqT X.K H1 p ys) ∧ ∀ l, H1 l = none → Q (.ref l) (upd H1 l (.lst ys))) := fun ds xs l q ia e hp =>
      ⟨l, xs, by rw [e], q, fun m hm => k m xs N _ ds δ1 (c1.xt (XT.hid c1.gh hm)) upd_same (Ex.nn c1.gh hm) (c1.dm m hm) (fun z => c1.fd m z hm) (fun z => (c1.there z).1 hm) ia hp⟩
    cases s with
    | e => exact h1.elim
    | own2 l r => exact h1.elim
    | wk p t u => exact h1.elim
    | val w => exact h1.elim
    | sq ds => exact h1.elim
    | own f l ds =>
      obtain ⟨e, g, xs, hl, ia⟩ := s1
      exact fin ds xs l (.inl (SqL.of hl)) ia e h1
    | im d =>
      cases d <;> try exact h1.elim
      · rename_i ds
        cases s1 with
        | lst hl ia => exact fin ds _ _ (.inl (SqL.of (c1.gh _ _ hl))) ia rfl h1
      · rename_i ds
        cases s1 with
        | tup hl ia => exact fin ds _ _ (.inr (Evl.ex_t c1.gh hl.sq)) ia rfl h1
/-! ### slices -/
variable {dl dh : DE → (Option Int → DE → Prop) → Prop} {lo hi : Option Expr} {p2 : Pos}
theorem pdo_none : PDo X C none dNoP := PO.weak po_none fun σ H Q h => by
  obtain ⟨E, G, δ, P, c, h, k⟩ := h
  exact k none G H δ c h
theorem pdo_some (h : PDe X C e da) : PDo X C (some e) (dP da) := PO.weak (po_some h) fun σ H Q h => by
  obtain ⟨E, G, δ, P, c, h, k⟩ := h
  refine ⟨E, G, δ, _, c, h, fun v N H1 s δ1 c1 s1 h1 => ?_⟩
  obtain ⟨i, rfl, h1⟩ := h1
  cases s1
  exact ⟨i, rfl, k (some i) N H1 δ1 c1 h1⟩
theorem pd_slice (he : PDe X C e da) (hl : PDo X C lo dl) (hu : PDo X C hi dh) : PDe X C (.Subscript e (.Slice lo hi none p2) pos) (dSl da dl dh) := PE.weak (pe_slice (SlR.or sl_list sl_tupF) he hl hu) fun σ H Q h => by
  obtain ⟨E, G, δ, P, c, h, k⟩ := h
  refine ⟨E, G, δ, _, c, h, fun v N H1 s δ1 c1 s1 h1 => ?_⟩
  obtain ⟨a, rfl, h1⟩ := h1
  refine ⟨here E.F N H1 δ1, N, δ1, _, c1.here, h1, fun l N2 H2 δ2 c2 h2 => ?_⟩
  refine ⟨here E.F N2 H2 δ2, N2, δ2, _, c2.here, h2, fun u N3 H3 δ3 c3 h3 => ?_⟩
  have s3 : Is X.K N3 v a := Is.mono (c2.gg.trans c3.gg) _ _ s1
  have c0 := (c1.trans c2).trans c3
  cases a <;> try exact h3.elim
  · rename_i ds
    cases s3 with
    | lst h4 ia => exact .inl ⟨_, _, rfl, SqL.of (c3.gh _ _ h4), fun p hp => k _ _ _ (.im (.list (cutD ds l u))) δ3 (c0.xt (XT.new c3.gh hp)) (Is.newL c3.gh hp (ia.cut l u)) h3⟩
  · rename_i ds
    cases s3 with
    | tup h4 ia =>
      rename_i t xs
      refine .inr ⟨_, _, rfl, Evl.ex_t c3.gh h4.sq, fun hw => ?_, fun _ p o hp ho => k _ _ _ (.im (.tuple (cutD ds l u))) δ3 (c0.xt (XT.new c3.gh hp)) (Is.newT c3.gh hp ho (ia.cut l u)) h3⟩
      have e : cutD ds l u = ds := by
        unfold cutD
        rw [← ia.len, hw.1, hw.2, List.drop_zero, Nat.sub_zero, ia.len, List.take_length]
      have h3' : P (.im (.tuple (cutD ds l u))) δ3 := h3
      rw [e] at h3'
      exact k _ N3 H3 (.im (.tuple ds)) δ3 c0 (.tup h4 ia) h3'
/-! ### what is walked -/
theorem walkD_any {K : PySem.W.Frag} {N : Hp} {k : Bool} {l : Addr} {xs : List V} {ds : List D} (h : SqK k K N l xs) (ia : IsAll K N xs ds) : WalkD K N (ItlA k K l) ds := by
  have q : ∀ H, Ex N H → SqK k K H l xs := fun H e => by
    cases k with
    | true => exact Evl.ex_l e h
    | false => exact Evl.ex_t e h
  have Y : ∀ i H x H', Ex N H → i < ds.length → xs[i]? = some x → H' = H → ∀ G, Ex N G → Ex G H → ∃ G' d, XT G H G' H' ∧ ds[i]? = some d ∧ Is K G' x d := fun i H x H' e hi hx eh G ng gh => by
    subst eh
    obtain ⟨d, h1, h2⟩ := ia.getV hx
    exact ⟨G, d, XT.refl gh, h1, Is.mono ng _ _ h2⟩
  cases k with
  | true =>
    refine ⟨fun i H e hi => ?_, fun H e => ?_, fun i H x H' e hi y G ng gh => ?_⟩
    · rw [← ia.len] at hi
      exact walk_list.goes i H hi (q H e)
    · rw [← ia.len]
      exact walk_list.stops H (q H e)
    · have z := walk_list.yields i H x H' (by rw [ia.len]; exact hi) (q H e) y
      exact Y i H x H' e hi z.2 z.1 G ng gh
  | false =>
    refine ⟨fun i H e hi => ?_, fun H e => ?_, fun i H x H' e hi y G ng gh => ?_⟩
    · rw [← ia.len] at hi
      exact walk_tup.goes i H hi (q H e)
    · rw [← ia.len]
      exact walk_tup.stops H (q H e)
    · have z := walk_tup.yields i H x H' (by rw [ia.len]; exact hi) (q H e) y
      exact Y i H x H' e hi z.2 z.1 G ng gh
theorem seq_of {K : PySem.W.Frag} {N : Hp} {v : V} {d : D} {ds : List D} (h : Is K N v d) (e : seqD d = some ds) : ∃ k l xs, v = .ref l ∧ SqK k K N l xs ∧ IsAll K N xs ds := by
  cases d <;> try (cases e; done)
  · cases e
    cases h with
    | lst h1 h2 => exact ⟨true, _, _, rfl, SqL.of h1, h2⟩
  · cases e
    cases h with
    | tup h1 h2 => exact ⟨false, _, _, rfl, h1.sq, h2⟩
theorem SqK.ex {k : Bool} {K : PySem.W.Frag} {N H : Hp} {l : Addr} {xs : List V} (h : SqK k K N l xs) (e : Ex N H) : SqK k K H l xs := by
  cases k with
  | true => exact Evl.ex_l e h
  | false => exact Evl.ex_t e h
theorem pdi_seq {tg : Expr} (ha : PDe X C a da) : PDi X C tg a (iSeq da) := PI.weak (pi_any ha) fun σ H R h => by
  obtain ⟨E, G, δ, P, c, h, k⟩ := h
  refine ⟨E, G, δ, _, c, h, fun v N H1 s δ1 c1 s1 h1 => ?_⟩
  have fin : ∀ (d : D) (ds : List D), seqD d = some ds → Is X.K N v d → P ds δ1 → ∃ k a, v = .ref a ∧ (∃ xs, SqK k X.K H1 a xs) ∧ R (ItlA k X.K a) H1 := fun d ds e hd hp => by
    obtain ⟨kk, l, xs, e1, q, ia⟩ := seq_of hd e
    exact ⟨kk, l, e1, ⟨xs, q.ex c1.gh⟩, k _ N H1 ds δ1 c1 (walkD_any q ia) hp⟩
  cases s <;> try exact h1.elim
  rename_i d
  cases d <;> try exact h1.elim
  · exact fin _ _ rfl s1 h1
  · exact fin _ _ rfl s1 h1
theorem intsD_get {n i : Nat} (h : i < n) : (intsD n)[i]? = some (.int (i : Nat)) := by
  unfold intsD
  rw [List.getElem?_map, List.getElem?_range h]
  rfl
theorem intsD_len (n : Nat) : (intsD n).length = n := by
  unfold intsD
  rw [List.length_map, List.length_range]
theorem pdi_range {tg : Expr} (hm : X.mg "range" = none) (ha : PDe X C a da) (hg : Gl X "range" := by rfl) (hs : starEach [a] X.env = [(false, eval a X.env)] := by rfl) : PDi X C tg (.Call (.Name "range" p) [a] [] pos) (iRange da) := PI.weak (pi_range1 hg hm (pa_cons ha pa_nil hs) hs) fun σ H R h => by
  obtain ⟨E, G, δ, P, c, h, k⟩ := h
  refine ⟨E, G, δ, _, c, h, fun v N H1 s δ1 c1 s1 h1 => ?_⟩
  obtain ⟨n, rfl, h2, h3, h1⟩ := h1
  cases s1
  refine ⟨n, rfl, h3, h2, k _ N H1 _ δ1 c1 ⟨fun i H e hi => ?_, fun H e => ?_, fun i H x H' e hi y G ng gh => ?_⟩ h1⟩
  · rw [intsD_len] at hi
    exact hi
  · rw [intsD_len]
    exact Nat.le_refl _
  · rw [intsD_len] at hi
    obtain ⟨e1, e2⟩ := y
    subst e1 e2
    exact ⟨G, _, XT.refl gh, intsD_get hi, by rw [Int.zero_add]; exact .int _⟩
theorem enumD_get : ∀ {ds : List D} {n i : Nat} {d : D}, ds[i]? = some d → (enumD n ds)[i]? = some (.tuple [.int ((n + i : Nat) : Int), d])
  | [], n, i, d, h => by simp at h
  | x :: r, n, 0, d, h => by
    simp at h
    subst h
    rfl
  | x :: r, n, i + 1, d, h => by
    have ih := enumD_get (ds := r) (n := n + 1) (i := i) (d := d) (by simpa using h)
    show (enumD (n + 1) r)[i]? = _
    rw [ih]
    rw [Nat.add_assoc, Nat.add_comm 1 i]
theorem enumD_len : ∀ (ds : List D) (n : Nat), (enumD n ds).length = ds.length
  | [], _ => rfl
  | _ :: r, n => congrArg Nat.succ (enumD_len r (n + 1))
theorem pdi_enum {elts : List Expr} {kk : Nat} {tpos : Pos} (hm : X.mg "enumerate" = none) (ha : PDe X C a da) (hg : Gl X "enumerate" := by rfl) (hs : starEach [a] X.env = [(false, eval a X.env)] := by rfl) : PDi X C (.Tuple elts kk tpos) (.Call (.Name "enumerate" p) [a] [] pos) (iEnum da) := PI.weak (pi_enumA hg hm (pa_cons ha pa_nil hs) hs) fun σ H R h => by
  obtain ⟨E, G, δ, P, c, h, k⟩ := h
  refine ⟨E, G, δ, _, c, h, fun v N H1 s δ1 c1 s1 h1 => ?_⟩
  have fin : ∀ (d : D) (ds : List D), seqD d = some ds → Is X.K N v d → P (enumD 0 ds) δ1 → ∃ k a xs, [v] = [V.ref a] ∧ SqK k X.K H1 a xs ∧ R (IteA k X.K a) H1 := fun d ds e hd hp => by
    obtain ⟨kk, l, xs, e1, q, ia⟩ := seq_of hd e
    refine ⟨kk, l, xs, by rw [e1], q.ex c1.gh, k _ N H1 _ δ1 c1 ⟨fun i H e hi => ?_, fun H e => ?_, fun i H x H' e hi y G ng gh => ?_⟩ hp⟩
    · rw [enumD_len, ← ia.len] at hi
      exact ⟨xs, xs[i], q.ex e, by simp [hi]⟩
    · rw [enumD_len, ← ia.len]
      exact ⟨xs, q.ex e, rfl⟩
    · rw [enumD_len] at hi
      obtain ⟨T, o, z1, z2, ex, hT, ho, eh, e3, e4⟩ := y
      subst ex eh e3
      have hx := e4 xs (q.ex e)
      obtain ⟨d', h5, h6⟩ := ia.getV hx
      have h7 : xs[i]? = some z2 := hx
      refine ⟨_, _, XT.new gh hT, enumD_get h5, Is.newT gh hT ho (.cons ?_ (.cons (Is.mono ng _ _ h6) .nil))⟩
      rw [Nat.zero_add]
      exact .int _
  cases s <;> try exact h1.elim
  rename_i d
  cases d <;> try exact h1.elim
  · exact fin _ _ rfl s1 h1
  · exact fin _ _ rfl s1 h1
theorem pdi_zip {elts : List Expr} {kk : Nat} {tpos : Pos} (hm : X.mg "zip" = none) (ha : PDe X C a da) (hb : PDe X C b db) (hg : Gl X "zip" := by rfl) (hs : starEach [a, b] X.env = (false, eval a X.env) :: starEach [b] X.env := by rfl) (hs2 : starEach [b] X.env = (false, eval b X.env) :: starEach [] X.env := by rfl) (hpl : (backTo pos (starEach [b] X.env)).any (·.1) = false := by rfl) :
    PDi X C (.Tuple elts kk tpos) (.Call (.Name "zip" p) [a, b] [] pos) (iZip da db) := PI.weak (pi_zipB hg hm (pa_cons ha (pa_cons hb pa_nil hs2) hs) hs hpl) fun σ H R h => by
  obtain ⟨E, G, δ, P, c, h, k⟩ := h
  refine ⟨E, G, δ, _, c, h, fun v N H1 s δ1 c1 s1 h1 => ?_⟩
  obtain ⟨da', ds, rfl, ea, h1⟩ := h1
  refine ⟨here E.F N H1 δ1, N, δ1, _, c1.here, h1, fun w N2 H2 t δ2 c2 s2 h2 => ?_⟩
  obtain ⟨db', es, rfl, eb, h2⟩ := h2
  obtain ⟨k1, l, xs, e1, q1, ia⟩ := seq_of (Is.mono c2.gg _ _ s1) ea
  obtain ⟨k2, m, ys, e2, q2, ib⟩ := seq_of s2 eb
  have hl : (zipD ds es).length = min xs.length ys.length := by
    unfold zipD
    rw [List.length_map, List.length_zip, ia.len, ib.len]
  refine ⟨k1, k2, l, m, xs, ys, by rw [e1, e2], q1.ex c2.gh, q2.ex c2.gh, k _ N2 H2 _ δ2 (c1.trans c2) ⟨fun i H e hi => ?_, fun H e => ?_, fun i H x H' e hi y G ng gh => ?_⟩ h2⟩
  · rw [hl] at hi
    exact ⟨xs, ys, xs[i]'(by omega), ys[i]'(by omega), q1.ex e, q2.ex e, by simp, by simp⟩
  · rw [hl]
    exact ⟨xs, ys, q1.ex e, q2.ex e, by omega, by omega, by omega⟩
  · obtain ⟨T, o, z1, z2, ex, hT, ho, eh, e3, e4⟩ := y
    subst ex eh
    obtain ⟨d1, h5, h6⟩ := ia.getV (e3 xs (q1.ex e))
    obtain ⟨d2, h7, h8⟩ := ib.getV (e4 ys (q2.ex e))
    refine ⟨_, .tuple [d1, d2], XT.new gh hT, ?_, Is.newT gh hT ho (.cons (Is.mono ng _ _ h6) (.cons (Is.mono ng _ _ h8) .nil))⟩
    unfold zipD
    rw [List.getElem?_map, List.getElem?_zip_eq_some (z := (d1, d2)) |>.mpr ⟨h5, h7⟩]
    rfl
end
end Dl

end
section
set_option Elab.async false
set_option linter.all false
set_option maxRecDepth 100000
set_option maxHeartbeats 4000000
set_option autoImplicit false
/-! The data layer: targets, statements, loops, comprehensions. -/
namespace Dl
open PySem PySem.Spec PyProof.Rows L2
open Evl (Ex)
section
variable {K : PySem.W.Frag} {C : Addr} {E : Ent} {G H N H2 : Hp} {σ σ' : L2.St} {δ δ' : DE} {v : V} {s : Sl}
theorem Cfg.puts (c : Cfg K C E G H σ δ) (i : Nat) (h : SIs K C G H v s) (ho : ∀ b ∈ s.adr, E.H b = none ∧ ¬ E.F b ∧ ¬ adrs δ b) : Cfg K C E G H (σ.set i (some v)) (δ.set i s) :=
  c.put i h (fun b hb => ⟨.inr (ho b hb).1, fun j t _ hj hbt => (ho b hb).2.2 ⟨t, List.mem_of_getElem? hj, hbt⟩⟩) fun _ b hb => (ho b hb).2.1
theorem set_same {α : Type} {l : List α} {i : Nat} {x : α} : ∀ j, j ∉ [i] → (l.set i x)[j]? = l[j]? := fun j hj => by
  rw [List.getElem?_set_ne (fun e => hj (by simp [e]))]
end
section
variable {X : Cx} {C : Addr} {a b e tg : Expr} {es : List Expr} {de da db : DTE} {df : DTF} {dr : DTA} {dg : DTG} {gs : DTGs} {pos : Pos} {x : Str} {vs ws : List Nat}
/-! ### targets -/
theorem pdg_name (i : Nat) (hN : X.N.Nodup) (hi : X.N[i]? = some x := by rfl) (hx : Loc X.env.scope x := by first | exact .inl rfl | exact .inr rfl) (hf : X.fn x = true ∨ X.env.scope.names.lookup x = some .local := by first | exact .inl rfl | exact .inr rfl) : PDg X C (.Name x pos) [i] (gN i) := PG.weak (pg_name hN hi hx hf) fun v σ H Q h => by
  obtain ⟨E, G, δ, s, P, c, sv, ho, h, k⟩ := h
  exact k _ G H _ ⟨List.length_set, set_same⟩ (c.puts i sv ho) h
theorem pdgs_nil : PDgs X C [] [] gsNil := PGs.weak pgs_nil fun v σ H Q h => by
  obtain ⟨E, G, δ, ds, P, c, sv, h, k⟩ := h
  obtain ⟨rfl, h⟩ := h
  cases sv
  exact ⟨rfl, k σ G H δ ⟨rfl, fun _ _ => rfl⟩ c h⟩
theorem pdgs_cons (h1 : PDg X C e vs dg) (h2 : PDgs X C es ws gs) (hs : (assignEach (e :: es) X.env).map (·.2) = assign e X.env :: (assignEach es X.env).map (·.2) := by rfl) : PDgs X C (e :: es) (vs ++ ws) (gsCons dg gs) := PGs.weak (pgs_cons h1 h2 hs) fun v σ H Q h => by
  obtain ⟨E, G, δ, ds, P, c, sv, h, k⟩ := h
  cases sv with
  | nil => exact h.elim
  | cons a r =>
    rename_i v0 vr d dr
    refine ⟨_, _, rfl, here E.F G H δ, G, δ, .im d, _, c.here, a, (fun b hb => by cases hb), h, fun σ1 N H1 δ1 e1 c1 p1 => ?_⟩
    exact ⟨here E.F N H1 δ1, N, δ1, dr, P, c1.here, IsAll.mono c1.gg _ _ r, p1, fun σ2 N2 H2 δ2 e2 c2 p2 => k σ2 N2 H2 δ2 ⟨e2.1.trans e1.1, fun i hi => by
      rw [e2.2 i (fun z => hi (List.mem_append_right _ z)), e1.2 i (fun z => hi (List.mem_append_left _ z))]⟩ ((c.trans c1).trans c2) p2⟩
theorem pdg_tup {kk : Nat} {n : Nat} (hc : X.calm = true) (h : PDgs X C es vs gs) (hn : (assignEach es X.env).length = n := by rfl) (hst : (assignEach es X.env).findIdx? (·.1) = none := by rfl) : PDg X C (.Tuple es kk pos) vs (gTu gs n) := PG.weak (pg_tup hc h hn hst) fun v σ H Q h => by
  obtain ⟨E, G, δ, s, P, c, sv, ho, h, k⟩ := h
  cases s <;> try exact h.elim
  rename_i d
  cases d <;> try exact h.elim
  rename_i ds
  obtain ⟨hl, h⟩ := h
  cases sv with
  | tup h1 ia =>
    exact ⟨_, _, rfl, Evl.ex_t c.gh h1.sq, by rw [ia.len]; exact hl, E, G, δ, ds, P, c, ia, h, k⟩
theorem pdg_set (i : Nat) (hj : PDe X C b db) {px : Pos} (ha : ∀ v, assign (.Subscript (.Name x px) b pos) X.env v = (do
      let ov ← holding [v] (eval (.Name x px) X.env)
      let iv ← holding [v, ov] (eval b X.env)
      standAt pos
      holding [v, ov, iv] (setItem ov iv v)
      release [v, ov, iv] []) := by intro _; rfl) (hN : X.N[i]? = some x := by rfl) (hv : Vis X.env.scope x := by first | exact Or.inl rfl | exact Or.inr (Or.inl rfl) | exact Or.inr (Or.inr rfl)) (hd : (x == ("__debug__" : Str)) = false := by decide)
    (hcd : (x == ("__classdict__" : Str)) = false := by decide) : PDg X C (.Subscript (.Name x px) b pos) [] (gSet i db) := PG.weak (pg_sub (pe_var hN hv hd hcd) hj set_list ha) fun v σ H Q h => by
  obtain ⟨E, G, δ, s, P, c, sv, ho, h, k⟩ := h
  obtain ⟨s0, w, e0, ew, _, h⟩ := c.look h
  refine ⟨w, ew, here E.F G H δ, G, δ, _, c.here, h, fun y N H1 t δ1 c1 s1 h1 => ?_⟩
  obtain ⟨s2, w', e2, ew', sw, h2⟩ := c1.look h1
  rw [ew] at ew'
  cases ew'
  cases s2 <;> try exact h2.elim
  rename_i f l ds
  cases t <;> try exact h2.elim
  rename_i dt
  cases dt <;> try exact h2.elim
  rename_i z
  cases s <;> try exact h2.elim
  rename_i d
  obtain ⟨j, hj, h3⟩ := h2
  cases s1
  obtain ⟨rfl, gl, xs, hl, ia⟩ := sw
  exact ⟨l, xs, z, j, rfl, rfl, hl, by rw [ia.len]; exact hj, k σ N _ _ ⟨rfl, fun _ _ => rfl⟩ ((c.trans c1).mut e2 (ia.set j (Is.mono c1.gg _ _ sv))) h3⟩
/-! ### statements -/
variable {st : Stmt} {rest : List Stmt} {t u : DTS}
theorem pds_nil : PDss X C [] dNext := PSs.weak pss_nil fun D σ H h => by
  obtain ⟨E, G, δ, n, c, sf, h, k1, k2, k3, k4⟩ := h
  exact k1 δ σ G H h c
theorem pds_cons (h1 : PDs X C st t) (h2 : PDss X C rest u) : PDss X C (st :: rest) (dSeq t u) := PSs.weak (pss_cons h1 h2) fun D σ H h => by
  obtain ⟨E, G, δ, n, c, sf, h, k1, k2, k3, k4⟩ := h
  exact ⟨E, G, δ, { n with nx := u n }, c, sf, h, fun δ' σ' N H2 hn c2 => ⟨E, N, δ', n, c2, sf, hn, k1, k2, k3, k4⟩, k2, k3, k4⟩
theorem pds_one (h1 : PDs X C st t) : PDss X C [st] t := pss_one h1
theorem pds_asg (he : PDe X C e de) (hg : PDg X C tg vs dg) (hs : swapsWithSole [tg] e pos.line X.env = pure false := by rfl) (hw : swappedStores [tg] e X.env = pure none := by rfl)
    (h1 : (assignEach [tg] X.env).map (·.2) = [assign tg X.env] := by rfl) : PDs X C (.Assign [tg] e pos) (dAsg de dg) := PS.weak (ps_asg he hg hs hw h1) fun D σ H h => by
  obtain ⟨E, G, δ, n, c, sf, h, k1, k2, k3, k4⟩ := h
  refine ⟨E, G, δ, _, c, h, fun v N H1 s δ1 c1 s1 h1 => ?_⟩
  obtain ⟨hp, h1⟩ := h1
  exact ⟨E, N, δ1, s, n.nx, c1, s1, (fun b hb => by rw [Sl.pure_adr hp] at hb; cases hb), h1, fun σ' N2 H2 δ' _ c2 hn => k1 δ' σ' N2 H2 hn c2⟩
theorem asgO_weak {K : PySem.W.Frag} {i : Nat} {D : Ends} {σ : L2.St} {H : Hp} (h : tsOf K C (dAsgO df i) D σ H) : tAsg (tfOf K C df) (gName i) D σ H := by
  obtain ⟨E, G, δ, n, c, sf, h, k1, k2, k3, k4⟩ := h
  refine ⟨E, G, δ, _, c, h, fun l xs N H1 ds δ1 c1 hl nl el nf na ia h1 => ?_⟩
  exact k1 _ _ N H1 (h1 l (fun s hs hb => na ⟨s, hs, hb⟩)) (c1.puts i (s := .own true l ds) ⟨rfl, nl, xs, hl, ia⟩ (fun b hb => by
    have e : b = l := by simpa [Sl.adr] using hb
    subst e
    exact ⟨el, nf, na⟩))
theorem pds_asgO (i : Nat) (he : PDf X C e df) {px : Pos} (hN : X.N.Nodup) (hi : X.N[i]? = some x := by rfl) (hx : Loc X.env.scope x := by first | exact .inl rfl | exact .inr rfl) (hs : swapsWith e (some (.Name x px)) pos.line X.env = pure false := by rfl) (hf : X.fn x = true ∨ X.env.scope.names.lookup x = some .local := by first | exact .inl rfl | exact .inr rfl) :
    PDs X C (.Assign [.Name x px] e pos) (dAsgO df i) := PS.weak (ps_set hN hi hx he hs hf) fun D σ H h => asgO_weak h
theorem pds_par (i j : Nat) {y : Str} {px py pt : Pos} {kt k2 pt2} (hc : X.calm = true) (hN : X.N.Nodup) (ha : PDa X C [a, b] dr) (hij : i ≠ j := by decide) (hi : X.N[i]? = some x := by rfl) (hj : X.N[j]? = some y := by rfl)
    (hx : X.env.scope.names.lookup x = some .local := by rfl) (hy : X.env.scope.names.lookup y = some .local := by rfl)
    (hw : swappedStores [.Tuple [.Name x px, .Name y py] kt pt] (.Tuple [a, b] k2 pt2) X.env = pure (some [x, y]) := by rfl)
    (hs : swapsWithSole [.Tuple [.Name x px, .Name y py] kt pt] (.Tuple [a, b] k2 pt2) pos.line X.env = pure false := by rfl) :
    PDs X C (.Assign [.Tuple [.Name x px, .Name y py] kt pt] (.Tuple [a, b] k2 pt2) pos) (dPar i j dr) := PS.weak (ps_par hc hN hi hj hij hx hy ha hw hs) fun D σ H h => by
  obtain ⟨E, G, δ, n, c, sf, h, k1, k2, k3, k4⟩ := h
  refine ⟨E, G, δ, _, c, h, fun vs N H1 ss δ1 c1 s1 fr pw h1 => ?_⟩
  obtain ⟨s, t, rfl, h1⟩ := h1
  cases s1 with
  | cons sa r =>
    cases r with
    | cons sb r =>
      cases r
      rename_i v1 v2
      refine ⟨v1, v2, rfl, k1 _ _ N H1 h1 (Cfg.puts (Cfg.puts c1 i sa (fr s (by simp))) j sb fun b hb => ⟨(fr t (by simp) b hb).1, (fr t (by simp) b hb).2.1, fun ⟨q, hq, hbq⟩ => ?_⟩)⟩
      rcases List.mem_or_eq_of_mem_set hq with z | z
      · exact (fr t (by simp) b hb).2.2 ⟨q, z, hbq⟩
      · subst z
        exact (List.rel_of_pairwise_cons pw (a' := t) (by simp)) b hbq hb
theorem pds_par3 (i j l : Nat) {c : Expr} {y z : Str} {px py pz pt : Pos} {kt k2 pt2} (hc : X.calm = true) (hN : X.N.Nodup) (ha : PDa X C [a, b, c] dr) (hij : i ≠ j := by decide) (hil : i ≠ l := by decide) (hjl : j ≠ l := by decide) (hi : X.N[i]? = some x := by rfl) (hj : X.N[j]? = some y := by rfl) (hl : X.N[l]? = some z := by rfl)
    (hx : X.env.scope.names.lookup x = some .local := by rfl) (hy : X.env.scope.names.lookup y = some .local := by rfl) (hz : X.env.scope.names.lookup z = some .local := by rfl)
    (hw : swappedStores [.Tuple [.Name x px, .Name y py, .Name z pz] kt pt] (.Tuple [a, b, c] k2 pt2) X.env = pure (some [x, y, z]) := by rfl)
    (hs : swapsWithSole [.Tuple [.Name x px, .Name y py, .Name z pz] kt pt] (.Tuple [a, b, c] k2 pt2) pos.line X.env = pure false := by rfl) :
    PDs X C (.Assign [.Tuple [.Name x px, .Name y py, .Name z pz] kt pt] (.Tuple [a, b, c] k2 pt2) pos) (dPar3 i j l dr) := PS.weak (ps_par3 hc hN hi hj hl hij hil hjl hx hy hz ha hw hs) fun D σ H h => by
  obtain ⟨E, G, δ, n, c, sf, h, k1, k2, k3, k4⟩ := h
  refine ⟨E, G, δ, _, c, h, fun vs N H1 ss δ1 c1 s1 fr pw h1 => ?_⟩
  obtain ⟨s, t, u, rfl, h1⟩ := h1
  cases s1 with
  | cons sa r =>
    cases r with
    | cons sb r =>
      cases r with
      | cons sc r =>
        cases r
        rename_i v1 v2 v3
        have p12 : ∀ b ∈ s.adr, b ∉ t.adr := List.rel_of_pairwise_cons pw (by simp)
        have p13 : ∀ b ∈ s.adr, b ∉ u.adr := List.rel_of_pairwise_cons pw (by simp)
        have p23 : ∀ b ∈ t.adr, b ∉ u.adr := List.rel_of_pairwise_cons (List.Pairwise.of_cons pw) (by simp)
        refine ⟨v1, v2, v3, rfl, k1 _ _ N H1 h1 (Cfg.puts (Cfg.puts (Cfg.puts c1 i sa (fr s (by simp))) j sb fun b hb => ⟨(fr t (by simp) b hb).1, (fr t (by simp) b hb).2.1, fun ⟨q, hq, hbq⟩ => ?_⟩) l sc fun b hb => ⟨(fr u (by simp) b hb).1, (fr u (by simp) b hb).2.1, fun ⟨q, hq, hbq⟩ => ?_⟩)⟩
        · rcases List.mem_or_eq_of_mem_set hq with z | z
          · exact (fr t (by simp) b hb).2.2 ⟨q, z, hbq⟩
          · subst z
            exact p12 b hbq hb
        · rcases List.mem_or_eq_of_mem_set hq with z | z
          · rcases List.mem_or_eq_of_mem_set z with z | z
            · exact (fr u (by simp) b hb).2.2 ⟨q, z, hbq⟩
            · subst z
              exact p13 b hbq hb
          · subst z
            exact p23 b hbq hb
theorem pds_app (i : Nat) (he : PDe X C e de) {px apos cpos : Pos} (hfew : ((backTo cpos (starEach [e] X.env)).all (fun x => !x.1) && (backToKw cpos (keywordEach [] X.env)).all (fun x => x.1.isSome)
      && decide ([e].length + ([] : List Keyword).length + (if ([] : List Keyword).isEmpty then 0 else 1) < 30)) = true := by rfl) (hbase : attributeBase (.Name x px) "append" X.env (eval (.Name x px) X.env) = eval (.Name x px) X.env := by rfl)
    (hline : (apos.endLine == cpos.line) = true := by rfl) (hs : starEach [e] X.env = (false, eval e X.env) :: starEach [] X.env := by rfl) (hplain : (backTo cpos (starEach [] X.env)).any (·.1) = false := by rfl) (hsw : swapsWith (.Call (.Attribute (.Name x px) "append" apos) [e] [] cpos) none pos.line X.env = pure false := by rfl) (hN : X.N[i]? = some x := by rfl) (hv : Vis X.env.scope x := by first | exact Or.inl rfl | exact Or.inr (Or.inl rfl) | exact Or.inr (Or.inr rfl)) (hd : (x == ("__debug__" : Str)) = false := by decide)
    (hcd : (x == ("__classdict__" : Str)) = false := by decide) : PDs X C (.Expr (.Call (.Attribute (.Name x px) "append" apos) [e] [] cpos) pos) (dApp i de) :=
  PS.weak (ps_expr (pe_bm PySem.F.plainAttrs_list PySem.F.slot_list_append PySem.F.type_list_append mt_append (pe_var hN hv hd hcd) (pa_cons he pa_nil hs) hbase hfew hline hs hplain) hsw) fun D σ H h => by
    obtain ⟨E, G, δ, n, c, sf, h, k1, k2, k3, k4⟩ := h
    obtain ⟨s0, w, e0, ew, sw, ho, h⟩ := c.look h
    cases s0 <;> try exact ho.elim
    rename_i f0 l0 ds0
    obtain ⟨rfl, g0, xs0, hl0, _⟩ := sw
    refine ⟨_, ew, .inl ⟨rfl, xs0, SqL.of hl0⟩, E, G, δ, _, c, h, fun y N H1 t δ1 c1 s1 h1 => ?_⟩
    obtain ⟨d, rfl, h1⟩ := h1
    obtain ⟨s2, w', e2, ew', sw, h2⟩ := c1.look h1
    rw [ew] at ew'
    cases ew'
    cases s2 <;> try exact h2.elim
    rename_i f l ds
    obtain ⟨hz, h3⟩ := h2
    obtain ⟨e, gl, xs, hl, ia⟩ := sw
    cases e
    exact ⟨l0, xs, y, rfl, rfl, hl, by rw [ia.len]; exact hz, k1 _ _ N _ h3 (c1.mut e2 (ia.app (.cons s1 .nil)))⟩
theorem pd_pop (i : Nat) (he : PDe X C e de) {px apos cpos : Pos} (hfew : ((backTo cpos (starEach [e] X.env)).all (fun x => !x.1) && (backToKw cpos (keywordEach [] X.env)).all (fun x => x.1.isSome)
      && decide ([e].length + ([] : List Keyword).length + (if ([] : List Keyword).isEmpty then 0 else 1) < 30)) = true := by rfl) (hbase : attributeBase (.Name x px) "pop" X.env (eval (.Name x px) X.env) = eval (.Name x px) X.env := by rfl)
    (hline : (apos.endLine == cpos.line) = true := by rfl) (hs : starEach [e] X.env = (false, eval e X.env) :: starEach [] X.env := by rfl) (hplain : (backTo cpos (starEach [] X.env)).any (·.1) = false := by rfl) (hN : X.N[i]? = some x := by rfl) (hv : Vis X.env.scope x := by first | exact Or.inl rfl | exact Or.inr (Or.inl rfl) | exact Or.inr (Or.inr rfl)) (hd : (x == ("__debug__" : Str)) = false := by decide)
    (hcd : (x == ("__classdict__" : Str)) = false := by decide) : PDe X C (.Call (.Attribute (.Name x px) "pop" apos) [e] [] cpos) (dPop i de) :=
  PE.weak (pe_bm PySem.F.plainAttrs_list PySem.F.slot_list_pop PySem.F.type_list_pop mt_popAt (pe_var hN hv hd hcd) (pa_cons he pa_nil hs) hbase hfew hline hs hplain) fun σ H Q h => by
    obtain ⟨E, G, δ, P, c, h, k⟩ := h
    obtain ⟨s0, w, e0, ew, sw, ho, h⟩ := c.look h
    cases s0 <;> try exact ho.elim
    rename_i f0 l0 ds0
    obtain ⟨rfl, g0, xs0, hl0, _⟩ := sw
    refine ⟨_, ew, .inl ⟨rfl, xs0, SqL.of hl0⟩, E, G, δ, _, c, h, fun y N H1 t δ1 c1 s1 h1 => ?_⟩
    obtain ⟨s2, w', e2, ew', sw, h2⟩ := c1.look h1
    rw [ew] at ew'
    cases ew'
    cases s2 <;> try exact h2.elim
    rename_i f l ds
    cases t <;> try exact h2.elim
    rename_i dt
    cases dt <;> try exact h2.elim
    rename_i z
    obtain ⟨z0, z1, d, hd, h3⟩ := h2
    obtain ⟨e, gl, xs, hl, ia⟩ := sw
    cases e
    cases s1
    obtain ⟨v, hv, iv⟩ := ia.get hd
    have hlt : z.toNat < xs.length := (List.getElem?_eq_some_iff.mp hv).1
    refine ⟨l0, xs, z, z.toNat, v, rfl, rfl, hl, by omega, by omega, ?_, hv, k v N _ (.im d) _ (c1.mut e2 (ia.erase z.toNat)) (by exact iv) h3⟩
    exact (ixN_seq (show ixN xs.length z = some z.toNat by unfold ixN; rw [if_pos z0, if_pos (by omega)])).1
theorem pds_drop (he : PDe X C e de) (hs : swapsWith e none pos.line X.env = pure false := by rfl) : PDs X C (.Expr e pos) (dDrop de) := PS.weak (ps_expr he hs) fun D σ H h => by
  obtain ⟨E, G, δ, n, c, sf, h, k1, k2, k3, k4⟩ := h
  exact ⟨E, G, δ, _, c, h, fun v N H1 s δ1 c1 s1 h1 => k1 δ1 σ N H1 h1 c1⟩
theorem pds_ret (he : PDe X C e de) : PDs X C (.Return (some e) pos) (dRet de) := PS.weak (ps_ret he) fun D σ H h => by
  obtain ⟨E, G, δ, n, c, sf, h, k1, k2, k3, k4⟩ := h
  exact ⟨E, G, δ, _, c, h, fun v N H1 s δ1 c1 s1 h1 => k2 v s δ1 σ N H1 h1.2 c1 s1 fun b hb => by rw [Sl.pure_adr h1.1] at hb; cases hb⟩
theorem pds_retF (he : PDf X C e df) : PDs X C (.Return (some e) pos) (dRetF df) := PS.weak (ps_ret he) fun D σ H h => by
  obtain ⟨E, G, δ, n, c, sf, h, k1, k2, k3, k4⟩ := h
  exact ⟨E, G, δ, _, c, h, fun l xs N H1 ds δ1 c1 hl nl el nf na ia h1 => k2 (.ref l) (.own true l ds) δ1 σ N H1 (h1 l fun s hs hb => na ⟨s, hs, hb⟩) c1 ⟨rfl, nl, xs, hl, ia⟩ fun b hb => by
    have e : b = l := by simpa [Sl.adr] using hb
    subst e
    exact .inl el⟩
theorem pds_if {c : Expr} {sa sb : List Stmt} {tc : DTT} (hc : PDt X C c tc) (ha : PDss X C sa t) (hb : PDss X C sb u) : PDs X C (.If c sa sb pos) (dIf tc t u) := PS.weak (ps_if hc ha hb) fun D σ H h => by
  obtain ⟨E, G, δ, n, c, sf, h, k1, k2, k3, k4⟩ := h
  refine ⟨E, G, δ, _, c, h, fun z N H1 δ1 c1 h1 => ?_⟩
  cases z with
  | true => exact iteT ⟨E, N, δ1, n, c1, sf, h1, k1, k2, k3, k4⟩
  | false => exact iteF ⟨E, N, δ1, n, c1, sf, h1, k1, k2, k3, k4⟩
theorem pds_brk : PDs X C (.Break pos) dBrk := PS.weak ps_break fun D σ H h => by
  obtain ⟨E, G, δ, n, c, sf, h, k1, k2, k3, k4⟩ := h
  exact k3 δ σ G H h c
theorem pds_never : PDs X C st dNever := PS.weak ps_never fun D σ H h => by
  obtain ⟨E, G, δ, n, c, sf, h, _⟩ := h
  exact h
theorem pdss_never {sts : List Stmt} : PDss X C sts dNever := PSs.weak pss_never fun D σ H h => by
  obtain ⟨E, G, δ, n, c, sf, h, _⟩ := h
  exact h
theorem pds_for {iter : Expr} {body : List Stmt} {di : DTI} (hp : PassesOwn (model X.prog X.w) X.A X.env X.xe) (hc : X.calm = true) (hi : PDi X C tg iter di) (hg : PDg X C tg vs dg) (hb : PDss X C body t)
    (hs : ∀ x, foldedSetIterable iter X.env x = pure x := by intro _; rfl) : PDs X C (.For tg iter body [] pos) (dFor di dg t) := PS.weak (ps_for hp hc hi hg hb hs) fun D σ H h => by
  obtain ⟨E, G, δ, n, c, sf, h, k1, k2, k3, k4⟩ := h
  refine ⟨E, G, δ, _, c, h, fun J N H2 items δ1 c1 wk hq => ?_⟩
  obtain ⟨Inv, i0, step, done⟩ := hq
  refine ⟨fun i m σ' H' => m = items.length - i ∧ i ≤ items.length ∧ ∃ G' δ', Inv i δ' ∧ Cfg X.K C (up E N) G' H' σ' δ', ⟨items.length, by simp, Nat.zero_le _, N, δ1, i0, c1.up⟩, ?_⟩
  rintro i m σ' H' ⟨rfl, hil, G', δ', iv, c'⟩
  have eN : Ex N H' := c'.gg.trans c'.gh
  by_cases hlt : i < items.length
  · refine .inr ⟨wk.goes i H' eN hlt, fun σ2 H2' => i + 1 ≤ items.length ∧ ∃ G2 δ2, Inv (i + 1) δ2 ∧ Cfg X.K C (up E N) G2 H2' σ2 δ2, fun σ2 H2' hn => ⟨items.length - (i + 1), by omega, rfl, hn.1, hn.2⟩, fun x H'' y => ?_⟩
    obtain ⟨G'', d, xt, hd, isd⟩ := wk.yields i H' x H'' eN hlt y G' c'.gg c'.gh
    refine ⟨up E N, G'', δ', .im d, _, c'.xt xt, isd, (fun b hb => by cases hb), step i d δ' hd iv, fun σ2 N2 H3 δ2 _ c2 hp => ?_⟩
    exact ⟨up E N, N2, δ2, _, c2, sf, hp, fun δ3 σ3 N3 H4 hn c3 => ⟨hlt, N3, δ3, hn, c3⟩, fun v s δ3 σ3 N3 H4 hr c3 sv ha => k2 v s δ3 σ3 N3 H4 hr (c1.down c3) sv ha,
      fun δ3 σ3 N3 H4 hn c3 => k1 δ3 σ3 N3 H4 hn (c1.down c3), fun δ3 σ3 N3 H4 hn c3 => ⟨hlt, N3, δ3, hn, c3⟩⟩
  · have e : i = items.length := by omega
    subst e
    exact .inl ⟨wk.stops H' eN, k1 δ' σ' G' H' (done δ' iv) (c1.down c')⟩
theorem pds_while {c : Expr} {body : List Stmt} {tc : DTT} (hp : PassesOwn (model X.prog X.w) X.A X.env X.xe) (hc : PDt X C c tc) (hb : PDss X C body t) : PDs X C (.While c body [] pos) (dWhile tc t) := PS.weak (ps_while hp hc hb) fun D σ H h => by
  obtain ⟨E, G, δ, n, c, sf, h, k1, k2, k3, k4⟩ := h
  obtain ⟨W, ⟨m0, w0⟩, turn⟩ := h
  refine ⟨fun m σ' H' => ∃ G' δ', W m δ' ∧ Cfg X.K C E G' H' σ' δ', ⟨m0, G, δ, w0, c⟩, ?_⟩
  rintro m σ' H' ⟨G', δ', w', c'⟩
  refine ⟨E, G', δ', _, c', turn m δ' w', fun z N H1 δ1 c1 h1 => ?_⟩
  cases z with
  | true =>
    refine iteT ⟨fun σ2 H2 => ∃ m', m' < m ∧ ∃ G2 δ2, W m' δ2 ∧ Cfg X.K C E G2 H2 σ2 δ2, fun σ2 H2 hn => hn, E, N, δ1, _, c1, sf, h1, fun δ3 σ3 N3 H4 hn c3 => ?_, k2, fun δ3 σ3 N3 H4 hn c3 => k1 δ3 σ3 N3 H4 hn c3, fun δ3 σ3 N3 H4 hn c3 => ?_⟩
    · obtain ⟨m', hm, hw⟩ := hn
      exact ⟨m', hm, N3, δ3, hw, c3⟩
    · obtain ⟨m', hm, hw⟩ := hn
      exact ⟨m', hm, N3, δ3, hw, c3⟩
  | false => exact iteF (k1 δ1 σ' N H1 h1 c1)
end
end Dl

end
section
set_option Elab.async false
set_option linter.all false
set_option maxRecDepth 100000
set_option maxHeartbeats 4000000
set_option autoImplicit false
/-! The data layer: comprehensions, freezing, texts, calls, a def's promise. -/
namespace Dl
open PySem PySem.Spec PyProof.Rows L2
open Evl (Ex)
section
variable {K : PySem.W.Frag} {C : Addr} {E : Ent} {G H N H2 : Hp} {σ σ' : L2.St} {δ δ' : DE} {v : V} {s : Sl}
theorem wipeD_len : ∀ (vs : List Nat) (δ : DE), (wipeD δ vs).length = δ.length
  | [], _ => rfl
  | i :: r, δ => by
    show (wipeD (δ.set i .e) r).length = _
    rw [wipeD_len r, List.length_set]
theorem wipeD_in : ∀ {vs : List Nat} {δ : DE} {i : Nat} {s : Sl}, i ∈ vs → (wipeD δ vs)[i]? = some s → s = .e
  | j :: r, δ, i, s, h, e => by
    by_cases hr : i ∈ r
    · exact wipeD_in (vs := r) (δ := δ.set j .e) hr e
    · have hij : i = j := by
        rcases List.mem_cons.mp h with z | z
        · exact z
        · exact (hr z).elim
      subst hij
      have e2 : ∀ (r : List Nat) (δ : DE), i ∉ r → (wipeD δ r)[i]? = δ[i]? := by
        intro r
        induction r with
        | nil => intro δ _; rfl
        | cons k r ih =>
          intro δ hk
          show (wipeD (δ.set k Sl.e) r)[i]? = _
          rw [ih _ (fun z => hk (List.mem_cons_of_mem _ z)), List.getElem?_set_ne (fun z => hk (by rw [z]; exact List.mem_cons_self))]
      have e3 : (wipeD (δ.set i .e) r)[i]? = some s := e
      rw [e2 r _ hr] at e3
      by_cases hl : i < δ.length
      · rw [List.getElem?_set_self hl] at e3
        exact (Option.some.inj e3).symm
      · rw [List.getElem?_eq_none (by simpa using hl)] at e3; cases e3
/-- what is known of the slots may be read in other slots' place -/
theorem Cfg.re (c : Cfg K C E G H σ δ) (hl : σ'.length = σ.length) (h : ∀ (i : Nat) (s : Sl), δ[i]? = some s → s ≠ .e → σ'[i]? = σ[i]?) : Cfg K C E G H σ' δ where
  gg := c.gg
  gh := c.gh
  nw := c.nw
  kp := c.kp
  dm := c.dm
  ow := c.ow
  sp := c.sp
  ln := hl.trans c.ln
  lf := c.lf
  fd := c.fd
  vl := fun i s hi hn => by rw [h i s hi hn]; exact c.vl i s hi hn
theorem Cfg.blk (c : Cfg K C E G H σ δ) (vs : List Nat) : Cfg K C E G H (L2.wipe σ vs) (wipeD δ vs) :=
  (c.wipe vs).re (wipe_length σ vs) fun i s hi hn => by
    by_cases hv : i ∈ vs
    · exact (hn (wipeD_in hv hi)).elim
    · exact wipe_out hv
theorem Cfg.unblk {vs : List Nat} (c : Cfg K C E G H (L2.wipe σ vs) (wipeD δ vs)) : Cfg K C E G H σ (wipeD δ vs) :=
  c.re (wipe_length σ vs).symm fun i s hi hn => by
    by_cases hv : i ∈ vs
    · exact (hn (wipeD_in hv hi)).elim
    · exact (wipe_out hv).symm
theorem wipe_eq {vs : List Nat} (h : ∀ i, i ∉ vs → σ'[i]? = σ[i]?) (hl : σ'.length = σ.length) : L2.wipe σ' vs = L2.wipe σ vs := by
  apply List.ext_getElem?
  intro i
  by_cases hv : i ∈ vs
  · have g : ∀ (τ : L2.St), (L2.wipe τ vs)[i]? = if i < τ.length then some none else none := by
      intro τ
      by_cases hi : i < τ.length
      · rw [if_pos hi]
        have hi2 : i < (L2.wipe τ vs).length := by rw [wipe_length]; exact hi
        rw [List.getElem?_eq_getElem hi2]
        cases q : (L2.wipe τ vs)[i] with
        | none => rfl
        | some x =>
          have z : (L2.wipe τ vs)[i]? = some (some x) := by rw [List.getElem?_eq_getElem hi2, q]
          exact ((wipe_some z).2 hv).elim
      · rw [if_neg hi]
        exact List.getElem?_eq_none (by rw [wipe_length]; omega)
    rw [g, g, hl]
  · rw [wipe_out hv, wipe_out hv]
    exact h i hv
theorem Cfg.hidmut (c : Cfg K C E G H σ δ) {D : Addr} {o : HO} (h1 : E.H D = none) (h2 : G D = none) (h3 : ¬ adrs δ D) : Cfg K C E G (upd H D o) σ δ where
  gg := c.gg
  gh := fun b u e => by rw [upd_ne (fun q => by rw [q, h2] at e; cases e)]; exact c.gh b u e
  nw := c.nw
  kp := fun b u e n => by rw [upd_ne (fun q => by rw [q, h1] at e; cases e)]; exact c.kp b u e n
  dm := fun b e => by
    by_cases q : b = D
    · subst q; exact h1
    · rw [upd_ne q] at e; exact c.dm b e
  ow := c.ow
  sp := c.sp
  ln := c.ln
  lf := c.lf
  fd := fun b hb => by
    by_cases q : b = D
    · subst q; rw [upd_same]; simp
    · rw [upd_ne q]; exact c.fd b hb
  vl := fun i s hi hn => by
    obtain ⟨v, e, z⟩ := c.vl i s hi hn
    refine ⟨v, e, ?_⟩
    have nb : ∀ b ∈ s.adr, b ≠ D := fun b hb q => h3 ⟨s, List.mem_of_getElem? hi, q ▸ hb⟩
    cases s with
    | e => trivial
    | im d => exact z
    | own f l ds =>
      obtain ⟨e1, g1, x1, h1, a1⟩ := z
      exact ⟨e1, g1, x1, by rw [upd_ne (nb l (by simp [Sl.adr]))]; exact h1, a1⟩
    | own2 l rows =>
      obtain ⟨e1, g1, h1, nd, a1⟩ := z
      refine ⟨e1, g1, by rw [upd_ne (nb l (by simp [Sl.adr]))]; exact h1, nd, fun r hr => ?_⟩
      obtain ⟨g2, x2, h2, a2⟩ := a1 r hr
      exact ⟨g2, x2, by rw [upd_ne (nb r.1 (List.mem_cons_of_mem _ (List.mem_map.mpr ⟨r, hr, rfl⟩)))]; exact h2, a2⟩
    | sq d => exact z
    | val w => exact z
    | wk p t u => exact z
end
section
variable {X : Cx} {C : Addr} {a b e tg : Expr} {es : List Expr} {de da db : DTE} {df : DTF} {dr : DTA} {dg : DTG} {pos : Pos} {x : Str} {vs : List Nat} {te : DTE} {tt : DTT} {di : DTI}
/-! ### comprehensions -/
theorem lc_weak {K : PySem.W.Frag} {σ : L2.St} {H : Hp} {Q : VK} (h : tfOf K C (dLc di dg tt te vs) σ H Q) : tLc (tiOf K C di) (tgOf K C vs dg) (ttOf K C tt) (teOf K C te) vs σ H Q := by
  obtain ⟨E, G, δ, P, c, h, k⟩ := h
  refine ⟨E, G, δ, _, c, h, fun J N H2 items δ1 c1 wk hq D hD => ?_⟩
  obtain ⟨hz, Inv, i0, step, done⟩ := hq
  have eD : E.H D = none := c1.dm D hD
  have fD : ¬ E.F D := fun z => c1.fd D z hD
  have aD : ¬ adrs (wipeD δ1 vs) D := fun z => ((c1.wipe vs).there z).1 hD
  refine ⟨fun i m H' => m = items.length - i ∧ i ≤ items.length ∧ ∃ G' δ2 acc xs, Inv i acc (wipeD δ2 vs) ∧ Cfg K C (up E N) G' H' (L2.wipe σ vs) (wipeD δ2 vs) ∧ H' D = some (.lst xs) ∧ G' D = none ∧ ¬ adrs (wipeD δ2 vs) D ∧ IsAll K G' xs acc ∧ acc.length ≤ i,
    ⟨items.length, by simp, Nat.zero_le _, N, δ1, [], [], i0, ((c1.xt (XT.hid (o := .lst []) c1.gh hD)).up).blk vs, upd_same, Ex.nn c1.gh hD, aD, .nil, Nat.le_refl _⟩, ?_⟩
  rintro i m H' ⟨rfl, hil, G', δ2, acc, xs, iv, c', lD, gD, nD, ia, hl⟩
  have eN : Ex N H' := c'.gg.trans c'.gh
  by_cases hlt : i < items.length
  · refine .inr ⟨wk.goes i H' eN hlt, fun H3 => i + 1 ≤ items.length ∧ ∃ G' δ2 acc xs, Inv (i + 1) acc (wipeD δ2 vs) ∧ Cfg K C (up E N) G' H3 (L2.wipe σ vs) (wipeD δ2 vs) ∧ H3 D = some (.lst xs) ∧ G' D = none ∧ ¬ adrs (wipeD δ2 vs) D ∧ IsAll K G' xs acc ∧ acc.length ≤ i + 1,
      fun H3 hn => ⟨items.length - (i + 1), by omega, rfl, hn.1, hn.2⟩, fun x H'' y => ?_⟩
    obtain ⟨G'', d, xt, hd, isd⟩ := wk.yields i H' x H'' eN hlt y G' c'.gg c'.gh
    have c2 := c'.xt xt
    have lD2 : H'' D = some (.lst xs) := xt.hh _ _ lD
    have gD2 : G'' D = none := by
      cases q : G'' D with
      | none => rfl
      | some o =>
        rcases xt.nw D (by rw [q]; simp) with z | z
        · exact (z gD).elim
        · rw [lD] at z; cases z
    -- one turn, seen from its own start
    have own : SIs K C G'' H'' (.ref D) (.own true D acc) := ⟨rfl, gD2, xs, lD2, IsAll.mono xt.gn _ _ ia⟩
    have stay : ∀ {G4 H4 : Hp} {σ4 : L2.St} {δ4 : DE}, Cfg K C (here E.F G'' H'' (wipeD δ2 vs)) G4 H4 σ4 δ4 → G4 D = none ∧ (∃ xs, H4 D = some (.lst xs) ∧ IsAll K G4 xs acc) ∧ ¬ adrs (wipeD δ4 vs) D := fun {G4 H4 σ4 δ4} c4 => by
      have z : SIs K C G4 H4 (.ref D) (.own true D acc) := c4.own_stay own (fun b hb => by
        have e : b = D := by simpa [Sl.adr] using hb
        subst e; exact nD)
      obtain ⟨_, g4, h4⟩ := z
      refine ⟨g4, h4, fun ⟨s, hs, hb⟩ => ?_⟩
      rcases (c4.wipe vs).ow s hs D hb with z | z
      · exact nD z
      · have z' : H'' D = none := z
        rw [lD2] at z'; cases z'
    refine ⟨here E.F G'' H'' (wipeD δ2 vs), G'', wipeD δ2 vs, .im d, _, c2.here, isd, (fun b hb => by cases hb), step i d acc (wipeD δ2 vs) hd iv, fun σ3 N3 H3 δ3 e3 c3 h3 => ?_⟩
    have ew : L2.wipe σ3 vs = L2.wipe σ vs := by
      rw [wipe_eq (σ := L2.wipe σ vs) e3.2 e3.1]
      exact wipe_eq (fun i hi => wipe_out hi) (wipe_length σ vs)
    refine ⟨ew, here E.F G'' H'' (wipeD δ2 vs), N3, δ3, _, c3, h3, fun z N4 H4 δ4 c4 h4 => ?_⟩
    have back : ∀ {G5 H5 : Hp} {δ5 : DE}, Cfg K C (here E.F G'' H'' (wipeD δ2 vs)) G5 H5 σ3 δ5 → Cfg K C (up E N) G5 H5 (L2.wipe σ vs) (wipeD δ5 vs) := fun {G5 H5 δ5} c5 => by
      have c6 := (c2.trans c5).blk vs
      rw [ew] at c6
      exact c6
    cases z with
    | true =>
      refine iteT ⟨here E.F G'' H'' (wipeD δ2 vs), N4, δ4, _, c4, h4, fun y N5 H5 s δ5 c5 s5 h5 => ?_⟩
      obtain ⟨d5, rfl, h5⟩ := h5
      obtain ⟨g5, ⟨xs5, l5, ia5⟩, n5⟩ := stay c5
      refine ⟨xs5, l5, ?_, hlt, N5, δ5, acc ++ [d5], xs5 ++ [y], h5, (back c5).hidmut (show E.H D = none from eD) g5 n5, upd_same, g5, n5, ia5.app (.cons s5 .nil), by rw [List.length_append, List.length_singleton]; omega⟩
      rw [ia5.len]
      omega
    | false =>
      obtain ⟨g5, ⟨xs5, l5, ia5⟩, n5⟩ := stay c4
      exact iteF ⟨hlt, N4, δ4, acc, xs5, h4, back c4, l5, g5, n5, ia5, by omega⟩
  · have e : i = items.length := by omega
    subst e
    refine .inl ⟨wk.stops H' eN, k D xs G' H' acc (wipeD δ2 vs) (c1.down c'.unblk) lD gD eD fD nD ia (done acc _ iv)⟩
end
end Dl

end
section
set_option Elab.async false
set_option linter.all false
set_option maxRecDepth 100000
set_option maxHeartbeats 4000000
set_option autoImplicit false
/-! The data layer: comprehensions as expressions and statements, freezing, texts, calls, a def's promise. -/
namespace Dl
open PySem PySem.Spec PyProof.Rows L2
open Evl (Ex)
section
variable {X : Cx} {C : Addr} {a b e tg elt iter : Expr} {es ifs : List Expr} {de da db te : DTE} {df : DTF} {dr : DTA} {dg : DTG} {pos spos : Pos} {x y : Str} {vs : List Nat} {tt : DTT} {di : DTI} {st : Stmt} {rest : List Stmt} {t u : DTS}
/-! ### comprehensions -/
theorem pdf_lc {scope : Scope} (own : List (Str × Nat)) (hc : X.calm = true) (hN : X.N.Nodup) (hi : PDi X C tg iter di) (hvs : vs = own.map (·.2))
    (hg : ∀ (s : Shared) (H : Hp) (A : Addr) (cl : List (Str × Addr)) (fp : List Addr), PDg (X.blk s H scope (compEnvC scope cl A X.env) fp) C tg vs dg) (ht : ∀ (s : Shared) (H : Hp) (A : Addr) (cl : List (Str × Addr)) (fp : List Addr), PDts (X.blk s H scope (compEnvC scope cl A X.env) fp) C ifs tt)
    (he : ∀ (s : Shared) (H : Hp) (A : Addr) (cl : List (Str × Addr)) (fp : List Addr), PDe (X.blk s H scope (compEnvC scope cl A X.env) fp) C elt te) (ok : blkC X.N X.env.scope scope own = true := by kernel_rfl) (hs : ∀ x, foldedSetIterable iter X.env x = pure x := by intro _; rfl) :
    PDf X C (.ListComp elt [⟨tg, iter, ifs, 0⟩] scope pos) (dLc di dg tt te vs) := by
  subst hvs
  exact PE.weak (pe_lc (g := tgOf X.K C (own.map (fun p : Str × Nat => p.2)) dg) (tt := ttOf X.K C tt) (te := teOf X.K C te) hc hN hi (blkOk_by ok) hg ht he hs) fun _ _ _ h => lc_weak h
theorem pdts_nil : PDts X C [] dYes := PTs.weak pts_nil fun σ H Q h => by
  obtain ⟨E, G, δ, P, c, h, k⟩ := h
  exact k true G H δ c h
theorem pdts_one {c : Expr} {d : DTT} (h : PDt X C c d) : PDts X C [c] d := pts_one h
/-- a list just made, as data -/
theorem fr_weak {K : PySem.W.Frag} {σ : L2.St} {H : Hp} {Q : VK} (h : teOf K C (dFr df) σ H Q) : tfOf K C df σ H Q := by
  obtain ⟨E, G, δ, P, c, h, k⟩ := h
  refine ⟨E, G, δ, _, c, h, fun l xs N H1 ds δ1 c1 hl nl el nf na ia h1 => ?_⟩
  have x : Ex N (upd N l (.lst xs)) := Ex.new nl
  have y : Ex (upd N l (.lst xs)) H1 := fun b o hb => by
    by_cases q : b = l
    · subst q; rw [upd_same] at hb; rw [← hb]; exact hl
    · rw [upd_ne q] at hb; exact c1.gh b o hb
  refine k (.ref l) (upd N l (.lst xs)) H1 (.im (.list ds)) δ1 ⟨c1.gg.trans x, y, fun b hb => ?_, c1.kp, c1.dm, c1.ow, c1.sp, c1.ln, c1.lf, c1.fd, fun i s hi hn => ?_⟩ (.lst upd_same (IsAll.mono x _ _ ia)) h1
  · by_cases q : b = l
    · subst q; exact .inr el
    · rw [upd_ne q] at hb; exact c1.nw b hb
  · obtain ⟨v, ev, sv⟩ := c1.vl i s hi hn
    refine ⟨v, ev, ?_⟩
    have hs : ∀ b ∈ s.adr, b ≠ l := fun b hb q => na ⟨s, List.mem_of_getElem? hi, q ▸ hb⟩
    have nn : ∀ b, b ∈ s.adr → N b = none → upd N l (.lst xs) b = none := fun b hb hz => by rw [upd_ne (hs b hb)]; exact hz
    cases s with
    | e => trivial
    | im d => exact Is.mono x _ _ sv
    | own f2 l2 d2 =>
      obtain ⟨e1, g1, x1, h1, a1⟩ := sv
      exact ⟨e1, nn _ (by simp [Sl.adr]) g1, x1, h1, IsAll.mono x _ _ a1⟩
    | own2 l2 rows =>
      obtain ⟨e1, g1, h1, nd, a1⟩ := sv
      refine ⟨e1, nn _ (by simp [Sl.adr]) g1, h1, nd, fun r hr => ?_⟩
      obtain ⟨g2, x2, h2, a2⟩ := a1 r hr
      exact ⟨nn _ (List.mem_cons_of_mem _ (List.mem_map.mpr ⟨r, hr, rfl⟩)) g2, x2, h2, IsAll.mono x _ _ a2⟩
    | sq d2 =>
      obtain ⟨a, xs, q, h1, h2⟩ := sv
      exact ⟨a, xs, q, Evl.ex_l x h1, IsAll.mono x _ _ h2⟩
    | val w => exact sv
    | wk p t u =>
      obtain ⟨a, dx, v1, v2, v3, q, h0, h1, h2, h3⟩ := sv
      exact ⟨a, dx, v1, v2, v3, q, x _ _ h0, Is.mono x _ _ h1, Is.mono x _ _ h2, Is.mono x _ _ h3⟩
/-- name = [..], the name a local of the def -/
theorem pds_setLc (i : Nat) {scope : Scope} {py : Pos} (own : List (Str × Nat)) (hc : X.calm = true) (hN : X.N.Nodup) (hi : PDi X C tg iter di) (hvs : vs = own.map (·.2))
    (hg : ∀ (s : Shared) (H : Hp) (A : Addr) (cl : List (Str × Addr)) (fp : List Addr), PDg (X.blk s H scope (compEnvC scope cl A X.env) fp) C tg vs dg) (ht : ∀ (s : Shared) (H : Hp) (A : Addr) (cl : List (Str × Addr)) (fp : List Addr), PDts (X.blk s H scope (compEnvC scope cl A X.env) fp) C ifs tt)
    (he : ∀ (s : Shared) (H : Hp) (A : Addr) (cl : List (Str × Addr)) (fp : List Addr), PDe (X.blk s H scope (compEnvC scope cl A X.env) fp) C elt te) (hy : X.N[i]? = some y := by rfl) (hyl : X.env.scope.names.lookup y = some .local := by rfl)
    (hsw : swapsWith (.ListComp elt [⟨tg, iter, ifs, 0⟩] scope pos) (some (.Name y py)) spos.line X.env = pure true := by exact sw_true rfl rfl rfl (by decide +kernel)) (ok : blkC X.N X.env.scope scope own = true := by kernel_rfl) (hs : ∀ x, foldedSetIterable iter X.env x = pure x := by intro _; rfl) :
    PDs X C (.Assign [.Name y py] (.ListComp elt [⟨tg, iter, ifs, 0⟩] scope pos) spos) (dAsg (dFr (dLc di dg tt te vs)) (gN i)) := by
  subst hvs
  exact PS.weak (ps_setLc (g := tgOf X.K C (own.map (fun p : Str × Nat => p.2)) dg) (tt := ttOf X.K C tt) (te := teOf X.K C te) hc hN hy hyl hsw hi (blkOk_by ok) hg ht he hs) fun D σ H h => by
    obtain ⟨E, G, δ, n, c, sf, h, k1, k2, k3, k4⟩ := h
    refine lc_weak (fr_weak ⟨E, G, δ, _, c, h, fun v N H1 s δ1 c1 s1 h1 => ?_⟩)
    exact k1 _ _ N H1 h1.2 (c1.puts i s1 fun b hb => by rw [Sl.pure_adr h1.1] at hb; cases hb)
/-- .. to be changed -/
theorem pds_setLcO (i : Nat) {scope : Scope} {py : Pos} (own : List (Str × Nat)) (hc : X.calm = true) (hN : X.N.Nodup) (hi : PDi X C tg iter di) (hvs : vs = own.map (·.2))
    (hg : ∀ (s : Shared) (H : Hp) (A : Addr) (cl : List (Str × Addr)) (fp : List Addr), PDg (X.blk s H scope (compEnvC scope cl A X.env) fp) C tg vs dg) (ht : ∀ (s : Shared) (H : Hp) (A : Addr) (cl : List (Str × Addr)) (fp : List Addr), PDts (X.blk s H scope (compEnvC scope cl A X.env) fp) C ifs tt)
    (he : ∀ (s : Shared) (H : Hp) (A : Addr) (cl : List (Str × Addr)) (fp : List Addr), PDe (X.blk s H scope (compEnvC scope cl A X.env) fp) C elt te) (hy : X.N[i]? = some y := by rfl) (hyl : X.env.scope.names.lookup y = some .local := by rfl)
    (hsw : swapsWith (.ListComp elt [⟨tg, iter, ifs, 0⟩] scope pos) (some (.Name y py)) spos.line X.env = pure true := by exact sw_true rfl rfl rfl (by decide +kernel)) (ok : blkC X.N X.env.scope scope own = true := by kernel_rfl) (hs : ∀ x, foldedSetIterable iter X.env x = pure x := by intro _; rfl) :
    PDs X C (.Assign [.Name y py] (.ListComp elt [⟨tg, iter, ifs, 0⟩] scope pos) spos) (dAsgO (dLc di dg tt te vs) i) := by
  subst hvs
  exact PS.weak (ps_setLc (g := tgOf X.K C (own.map (fun p : Str × Nat => p.2)) dg) (tt := ttOf X.K C tt) (te := teOf X.K C te) hc hN hy hyl hsw hi (blkOk_by ok) hg ht he hs) fun D σ H h => by
    obtain ⟨E, G, δ, n, c, sf, h, k1, k2, k3, k4⟩ := h
    refine lc_weak ⟨E, G, δ, _, c, h, fun l xs N H1 ds δ1 c1 hl nl el nf na ia h1 => ?_⟩
    exact k1 _ _ N H1 (h1 l (fun s hs hb => na ⟨s, hs, hb⟩)) (c1.puts i (s := .own true l ds) ⟨rfl, nl, xs, hl, ia⟩ (fun b hb => by
      have e : b = l := by simpa [Sl.adr] using hb
      subst e
      exact ⟨el, nf, na⟩))
/-! ### freezing -/
theorem Cfg.frz {K : PySem.W.Frag} {E : Ent} {G H : Hp} {σ : L2.St} {δ : DE} (c : Cfg K C E G H σ δ) (sf : ∀ b, E.S b → E.F b) {i : Nat} {s : Sl} (hi : δ[i]? = some s) (hl : s.isLoc) :
    ∃ G', Ex G G' ∧ (∀ v, SIs K C G H v s → (match s with | .own _ _ ds => Is K G' v (.list ds) | .own2 _ rows => Is K G' v (.list (rows.map fun r => .list r.2)) | _ => True)) ∧ Cfg K C E G' H σ (δ.set i .e) := by
  -- the own cells, as they stand, are known
  refine ⟨fun b => if b ∈ s.adr then H b else G b, fun b o hb => ?_, fun v hv => ?_, ?_⟩
  · show (if b ∈ s.adr then H b else G b) = some o
    by_cases q : b ∈ s.adr
    · rw [if_pos q]; exact c.gh b o hb
    · rw [if_neg q]; exact hb
  · have eg : Ex G (fun b => if b ∈ s.adr then H b else G b) := fun b o hb => by
      show (if b ∈ s.adr then H b else G b) = some o
      by_cases q : b ∈ s.adr
      · rw [if_pos q]; exact c.gh b o hb
      · rw [if_neg q]; exact hb
    cases s with
    | own f l ds =>
      obtain ⟨rfl, g, xs, h1, ia⟩ := hv
      refine .lst (xs := xs) ?_ (IsAll.mono eg _ _ ia)
      show (if l ∈ (Sl.own f l ds).adr then H l else G l) = _
      rw [if_pos (by simp [Sl.adr])]
      exact h1
    | own2 l rows =>
      obtain ⟨rfl, g, h1, nd, ia⟩ := hv
      refine .lst (xs := rows.map fun r => V.ref r.1) ?_ ?_
      · show (if l ∈ (Sl.own2 l rows).adr then H l else G l) = _
        rw [if_pos (by simp [Sl.adr])]
        exact h1
      · have all : ∀ (rs : List (Addr × List D)), (∀ r ∈ rs, r ∈ rows) → IsAll K (fun b => if b ∈ (Sl.own2 l rows).adr then H b else G b) (rs.map fun r => V.ref r.1) (rs.map fun r => PyData.list r.2) := by
          intro rs
          induction rs with
          | nil => intro _; exact .nil
          | cons r rs ih =>
            intro hr
            obtain ⟨g2, xs, h2, ia2⟩ := ia r (hr r List.mem_cons_self)
            refine .cons (.lst (xs := xs) ?_ (IsAll.mono eg _ _ ia2)) (ih fun q hq => hr q (List.mem_cons_of_mem _ hq))
            show (if r.1 ∈ (Sl.own2 l rows).adr then H r.1 else G r.1) = _
            rw [if_pos (show r.1 ∈ (Sl.own2 l rows).adr from List.mem_cons_of_mem _ (List.mem_map.mpr ⟨r, hr r List.mem_cons_self, rfl⟩))]
            exact h2
        exact all rows fun _ h => h
    | e => trivial
    | im d => trivial
    | sq d => trivial
    | val d => trivial
    | wk p t u => trivial
  · have nf : ∀ b ∈ s.adr, E.H b = none := fun b hb => (c.ow s (List.mem_of_getElem? hi) b hb).elim (fun z => (c.lf s (List.mem_of_getElem? hi) hl b hb (sf b z)).elim) fun z => z
    have c0 := c.forget i
    have eg : Ex G (fun b => if b ∈ s.adr then H b else G b) := fun b o hb => by
      show (if b ∈ s.adr then H b else G b) = some o
      by_cases q : b ∈ s.adr
      · rw [if_pos q]; exact c.gh b o hb
      · rw [if_neg q]; exact hb
    refine ⟨c.gg.trans eg, fun b o hb => ?_, fun b hb => ?_, c0.kp, c0.dm, c0.ow, c0.sp, c0.ln, c0.lf, c0.fd, fun j t hj hn => ?_⟩
    · have hb' : (if b ∈ s.adr then H b else G b) = some o := hb
      by_cases q : b ∈ s.adr
      · rw [if_pos q] at hb'; exact hb'
      · rw [if_neg q] at hb'; exact c.gh b o hb'
    · have hb' : (if b ∈ s.adr then H b else G b) ≠ none := hb
      by_cases q : b ∈ s.adr
      · exact .inr (nf b q)
      · rw [if_neg q] at hb'; exact c.nw b hb'
    · obtain ⟨v, ev, sv⟩ := c0.vl j t hj hn
      refine ⟨v, ev, ?_⟩
      have hij : j ≠ i := fun q => by
        subst q
        by_cases hjl : j < δ.length
        · rw [List.getElem?_set_self hjl] at hj
          exact hn (Option.some.inj hj).symm
        · rw [List.getElem?_eq_none (by simpa using hjl)] at hj; cases hj
      have hj' : δ[j]? = some t := by rw [List.getElem?_set_ne (Ne.symm hij)] at hj; exact hj
      have dis : ∀ b ∈ t.adr, b ∉ s.adr := fun b hb hb' => hij (c.sp j i t s b hj' hi hb hb')
      have nn : ∀ b, b ∈ t.adr → G b = none → (if b ∈ s.adr then H b else G b) = none := fun b hb hz => by rw [if_neg (dis b hb)]; exact hz
      cases t with
      | e => trivial
      | im d => exact Is.mono eg _ _ sv
      | own f2 l2 d2 =>
        obtain ⟨e1, g1, x1, h1, a1⟩ := sv
        exact ⟨e1, nn _ (by simp [Sl.adr]) g1, x1, h1, IsAll.mono eg _ _ a1⟩
      | own2 l2 rows =>
        obtain ⟨e1, g1, h1, nd, a1⟩ := sv
        refine ⟨e1, nn _ (by simp [Sl.adr]) g1, h1, nd, fun r hr => ?_⟩
        obtain ⟨g2, x2, h2, a2⟩ := a1 r hr
        exact ⟨nn _ (List.mem_cons_of_mem _ (List.mem_map.mpr ⟨r, hr, rfl⟩)) g2, x2, h2, IsAll.mono eg _ _ a2⟩
      | sq d2 =>
        obtain ⟨a, xs, q, h1, h2⟩ := sv
        exact ⟨a, xs, q, Evl.ex_l eg h1, IsAll.mono eg _ _ h2⟩
      | val w => exact sv
      | wk p t u =>
        obtain ⟨a, dx, v1, v2, v3, q, h0, h1, h2, h3⟩ := sv
        exact ⟨a, dx, v1, v2, v3, q, eg _ _ h0, Is.mono eg _ _ h1, Is.mono eg _ _ h2, Is.mono eg _ _ h3⟩
theorem Cfg.remember {K : PySem.W.Frag} {E : Ent} {G H : Hp} {σ : L2.St} {δ : DE} {i : Nat} {v : V} {d : D} (c : Cfg K C E G H σ (δ.set i .e)) (hv : σ[i]? = some (some v)) (h : Is K G v d) : Cfg K C E G H σ (δ.set i (.im d)) := by
  have c1 := c.put i (s := .im d) h (fun b hb => by cases hb) (fun hl => hl.elim)
  have e1 : σ.set i (some v) = σ := by
    apply List.ext_getElem?
    intro j
    by_cases q : i = j
    · subst q
      rw [List.getElem?_set_self (List.getElem?_eq_some_iff.mp hv).1, hv]
    · rw [List.getElem?_set_ne q]
  rw [e1, List.set_set] at c1
  exact c1
theorem pds_frz (i : Nat) (h : PDss X C rest t) : PDss X C rest (dFrz i t) := PSs.weak h fun D σ H h => by
  obtain ⟨E, G, δ, n, c, sf, h, k1, k2, k3, k4⟩ := h
  obtain ⟨s, v, hi, hv, sv, h⟩ := c.look h
  cases s <;> try exact h.elim
  · rename_i f l ds
    cases f <;> try exact h.elim
    obtain ⟨G', eg, hd, c'⟩ := c.frz sf hi rfl
    exact ⟨E, G', _, n, c'.remember hv (hd v sv), sf, h, k1, k2, k3, k4⟩
  · rename_i l rows
    obtain ⟨G', eg, hd, c'⟩ := c.frz sf hi trivial
    exact ⟨E, G', _, n, c'.remember hv (hd v sv), sf, h, k1, k2, k3, k4⟩
/-! ### texts -/
theorem pd_index {o : Expr} {apos cpos : Pos} (ho : PDe X C o da) (he : PDe X C e db) (hbase : attributeBase o "index" X.env (eval o X.env) = eval o X.env := by rfl)
    (hfew : ((backTo cpos (starEach [e] X.env)).all (fun x => !x.1) && (backToKw cpos (keywordEach [] X.env)).all (fun x => x.1.isSome)
      && decide ([e].length + ([] : List Keyword).length + (if ([] : List Keyword).isEmpty then 0 else 1) < 30)) = true := by rfl)
    (hline : (apos.endLine == cpos.line) = true := by rfl) (hs : starEach [e] X.env = (false, eval e X.env) :: starEach [] X.env := by rfl) (hplain : (backTo cpos (starEach [] X.env)).any (·.1) = false := by rfl) :
    PDe X C (.Call (.Attribute o "index" apos) [e] [] cpos) (dIndex da db) := PE.weak (pe_idx ho (pa_cons he pa_nil hs) hbase hfew hline hs hplain) fun σ H Q h => by
  obtain ⟨E, G, δ, P, c, h, k⟩ := h
  refine ⟨E, G, δ, _, c, h, fun v N H1 s δ1 c1 s1 h1 => ?_⟩
  obtain ⟨ys, rfl, h1⟩ := h1
  cases s1 with
  | tup ht ia =>
    rename_i p xs
    rw [ia.strs] at ht
    refine ⟨⟨p, _, rfl, TpA.ex c1.gh ht⟩, here E.F N H1 δ1, N, δ1, _, c1.here, h1, fun w N2 H2 t δ2 c2 s2 h2 => ?_⟩
    obtain ⟨z, rfl, j, hj, hm, h2⟩ := h2
    cases s2
    exact ⟨p, ys, z, j, rfl, rfl, Evl.ex_t (c2.gg.trans c2.gh) ht.sq, hj, hm, k (.int (j : Nat)) N2 H2 (.im (.int (j : Nat))) δ2 (c1.trans c2) (Is.int _) h2⟩
theorem pdf_split {o : Expr} {apos : Pos} {bs : Str} {j : Nat} {pb : Pos} (ho : PDe X C o da) (hs : starEach [.Constant (.str bs) j pb] X.env = [(false, eval (.Constant (.str bs) j pb) X.env)] := by rfl) (hbase : attributeBase o "split" X.env (eval o X.env) = eval o X.env := by rfl) (hline : (apos.endLine == pos.line) = true := by rfl) :
    PDf X C (.Call (.Attribute o "split" apos) [.Constant (.str bs) j pb] [] pos) (dSplit da bs) := PE.weak (pe_split ho pe_str hs hbase hline) fun σ H Q h => by
  obtain ⟨E, G, δ, P, c, h, k⟩ := h
  refine ⟨E, G, δ, _, c, h, fun v N H1 s δ1 c1 s1 h1 => ?_⟩
  obtain ⟨a, rfl, hb, hz, h1⟩ := h1
  cases s1
  exact ⟨⟨a, rfl⟩, a, bs, rfl, rfl, hb, hz, fun p hp => k p _ N _ _ δ1 (c1.xt (XT.hid c1.gh hp)) upd_same (Ex.nn c1.gh hp) (c1.dm p hp) (fun z => c1.fd p z hp) (fun z => (c1.there z).1 hp) (IsAll.of_strs _) h1⟩
theorem pd_join {apos : Pos} {sep : Str} {j : Nat} {pb : Pos} (he : PDe X C e da) (hs : starEach [e] X.env = [(false, eval e X.env)] := by rfl) (hbase : attributeBase (.Constant (.str sep) j pb) "join" X.env (eval (.Constant (.str sep) j pb) X.env) = eval (.Constant (.str sep) j pb) X.env := by rfl) (hline : (apos.endLine == pos.line) = true := by rfl) :
    PDe X C (.Call (.Attribute (.Constant (.str sep) j pb) "join" apos) [e] [] pos) (dJoin sep da) := PE.weak (pe_join pe_str he hs hbase hline) fun σ H Q h => by
  obtain ⟨E, G, δ, P, c, h, k⟩ := h
  refine ⟨⟨sep, rfl⟩, E, G, δ, _, c, h, fun v N H1 s δ1 c1 s1 h1 => ?_⟩
  obtain ⟨ys, hys, hz, h1⟩ := h1
  have fin : Q (.str (PySem.Txt.join sep ys)) H1 := k (.str (PySem.Txt.join sep ys)) N H1 (.im (.str _)) δ1 c1 (Is.str _) h1
  rcases hys with rfl | rfl
  · cases s1 with
    | tup ht ia =>
      rw [ia.strs] at ht
      exact ⟨sep, _, ys, rfl, rfl, .inr (Evl.ex_t c1.gh ht.sq), hz, fin⟩
  · cases s1 with
    | lst ht ia =>
      rw [ia.strs] at ht
      exact ⟨sep, _, ys, rfl, rfl, .inl (SqL.of (c1.gh _ _ ht)), hz, fin⟩
/-! ### calls -/
end
/-- a def as callers see it -/
structure Cal (P : Program) (w : World) (K : PySem.W.Frag) (mg : Str → Option Value) (base : Heap) (x : Str) (k : Nat) (ps : List Str) (sp : Sp) : Prop where
  ex : ∃ f fd, FnOk P w K mg base CX0 k f fd ps sp ∧ mg x = some (.ref f) ∧ PySem.W.keepIn K (.ref f) = true ∧ Binds K fd ps []
def spD (K : PySem.W.Frag) (C : Addr) (pre : List Sl → Prop) (post : List Sl → D → Prop) : Sp := fun vs H Q _ => ∃ G as, Ex G H ∧ Paired (SIs K C G H) vs as ∧ pre as ∧ ∀ v N H2 r, post as r → XT G H N H2 → Is K N v r → Q v H2
def spK (K : PySem.W.Frag) (C : Addr) (pre : List D → List Sl → Prop) (post : List D → List Sl → D → List D → Prop) : Sp := fun vs H Q _ => ∃ G l k as ws, vs = .ref l :: ws ∧ Ex G H ∧ SIs K C G H (.ref l) (.own false l k) ∧ Paired (SIs K C G H) ws as ∧ pre k as ∧
  ∀ v N H2 r k', post k as r k' → Ex G N → Ex N H2 → (∀ b o, b ≠ l → H b = some o → H2 b = some o) → (∀ b, H2 b = none → H b = none) → (∀ b, N b ≠ none → G b ≠ none ∨ H b = none) → SIs K C N H2 (.ref l) (.own false l k') → Is K N v r → Q v H2
def spF (K : PySem.W.Frag) (C : Addr) (pre : List Sl → Prop) (post : List Sl → List D → Prop) : Sp := fun vs H Q _ => ∃ G as, Ex G H ∧ Paired (SIs K C G H) vs as ∧ pre as ∧ ∀ l xs N H2 r, post as r → XT G H N H2 → H2 l = some (.lst xs) → N l = none → H l = none → IsAll K N xs r → Q (.ref l) H2
section
variable {X : Cx} {C : Addr} {a b e : Expr} {es : List Expr} {de da db te : DTE} {df : DTF} {dr : DTA} {pos p : Pos} {x : Str} {k : Nat} {ps : List Str} {pre : List Sl → Prop} {post : List Sl → D → Prop} {preK : List D → List Sl → Prop} {postK : List D → List Sl → D → List D → Prop} {postF : List Sl → List D → Prop}
/-- f(e, ..), by whatever rule of the call -/
abbrev CallBy (X : Cx) (x : Str) (es : List Expr) (p pos : Pos) (sp : Sp) : Prop := ∀ t, PA X es t → PE X (.Call (.Name x p) es [] pos) (tCall sp [] E0 t)
theorem CallBy.of {sp : Sp} (F : Cal X.prog X.w X.K X.mg X.base x k ps sp) (hr : Room k X.A) (hg : Gl X x) (hdb : (x == ("__debug__" : Str)) = false) (he : starEach (e :: es) X.env = (false, eval e X.env) :: starEach es X.env) (hpl : (backTo pos (starEach es X.env)).any (·.1) = false) : CallBy X x (e :: es) p pos sp := fun t ha => by
  obtain ⟨f, fd, F, hm, hk, hb⟩ := F.ex
  exact pe_call F hr hg hm hk hb .nil pass0 ha hdb he hpl
theorem pd_callBy (F : CallBy X x (e :: es) p pos (spD X.K C pre post)) (ha : PDa X C (e :: es) dr) : PDe X C (.Call (.Name x p) (e :: es) [] pos) (dCall pre post dr) := by
  refine PE.weak (F _ ha) fun σ H Q h => ?_
  obtain ⟨E, G, δ, P, c, h, kk⟩ := h
  refine ⟨E, G, δ, _, c, h, fun vs N H1 ss δ1 c1 s1 _ _ h1 => ?_⟩
  obtain ⟨hp, h1⟩ := h1
  rw [List.append_nil]
  exact ⟨N, ss, c1.gh, s1, hp, fun v N2 H2 r hr xt ir => kk v N2 H2 (.im r) δ1 (c1.xt xt) ir (h1 r hr)⟩
theorem pd_call (F : Cal X.prog X.w X.K X.mg X.base x k ps (spD X.K C pre post)) (hr : Room k X.A) (ha : PDa X C (e :: es) dr) (hg : Gl X x := by rfl) (hdb : (x == ("__debug__" : Str)) = false := by decide)
    (he : starEach (e :: es) X.env = (false, eval e X.env) :: starEach es X.env := by rfl) (hpl : (backTo pos (starEach es X.env)).any (·.1) = false := by rfl) : PDe X C (.Call (.Name x p) (e :: es) [] pos) (dCall pre post dr) := pd_callBy (CallBy.of F hr hg hdb he hpl) ha
theorem pdf_callBy (F : CallBy X x (e :: es) p pos (spF X.K C pre postF)) (ha : PDa X C (e :: es) dr) : PDf X C (.Call (.Name x p) (e :: es) [] pos) (fCall pre postF dr) := by
  refine PE.weak (F _ ha) fun σ H Q h => ?_
  obtain ⟨E, G, δ, P, c, h, kk⟩ := h
  refine ⟨E, G, δ, _, c, h, fun vs N H1 ss δ1 c1 s1 _ _ h1 => ?_⟩
  obtain ⟨hp, h1⟩ := h1
  rw [List.append_nil]
  exact ⟨N, ss, c1.gh, s1, hp, fun l xs N2 H2 r hr xt hl nl el ir => kk l xs N2 H2 r δ1 (c1.xt xt) hl nl (c1.dm l el) (fun z => c1.fd l z el) (fun z => (c1.there z).1 el) ir (h1 r hr)⟩
theorem pdf_call (F : Cal X.prog X.w X.K X.mg X.base x k ps (spF X.K C pre postF)) (hr : Room k X.A) (ha : PDa X C (e :: es) dr) (hg : Gl X x := by rfl) (hdb : (x == ("__debug__" : Str)) = false := by decide)
    (he : starEach (e :: es) X.env = (false, eval e X.env) :: starEach es X.env := by rfl) (hpl : (backTo pos (starEach es X.env)).any (·.1) = false := by rfl) : PDf X C (.Call (.Name x p) (e :: es) [] pos) (fCall pre postF dr) := pdf_callBy (CallBy.of F hr hg hdb he hpl) ha
/-- a lent list comes back -/
theorem Cfg.lent {K : PySem.W.Frag} {E : Ent} {G H N H2 : Hp} {σ : L2.St} {δ : DE} (c : Cfg K C E G H σ δ) {i : Nat} {f : Bool} {l : Addr} {ds ds' : List D} (hi : δ[i]? = some (.own f l ds)) (e1 : Ex G N) (e2 : Ex N H2) (hk : ∀ b o, b ≠ l → H b = some o → H2 b = some o) (hd : ∀ b, H2 b = none → H b = none)
    (hn : ∀ b, N b ≠ none → G b ≠ none ∨ H b = none) (hs : SIs K C N H2 (.ref l) (.own f l ds')) : Cfg K C E N H2 σ (δ.set i (.own f l ds')) := by
  have hil : i < δ.length := (List.getElem?_eq_some_iff.mp hi).1
  obtain ⟨v, ev, rfl, gl, xs, hl, _⟩ := c.vl i _ hi (fun q => by cases q)
  have hS : E.S l ∨ E.H l = none := c.ow _ (List.mem_of_getElem? hi) l (by simp [Sl.adr])
  have nl : ∀ j t, j ≠ i → δ[j]? = some t → l ∉ t.adr := fun j t hj ht hb => hj (c.sp j i t _ l ht hi hb (by simp [Sl.adr]))
  refine ⟨c.gg.trans e1, e2, fun b h => (hn b h).elim (fun z => c.nw b z) fun z => .inr (c.dm b z), fun b o e n => ?_, fun b e => c.dm b (hd b e), fun t ht b hb => ?_, fun j k t u b hj hk hb hb' => ?_, by rw [List.length_set]; exact c.ln, fun t ht hlo b hb => ?_, fun b hb z => c.fd b hb (hd b z), fun j t hj hnn => ?_⟩
  · have q : b ≠ l := fun q => by
      subst q
      rcases hS with z | z
      · exact n z
      · rw [z] at e; cases e
    exact hk b o q (c.kp b o e n)
  · rcases List.mem_or_eq_of_mem_set ht with z | z
    · exact c.ow t z b hb
    · subst z
      have e : b = l := by simpa [Sl.adr] using hb
      subst e; exact hS
  · have g : ∀ {m : Nat} {r : Sl}, (δ.set i (.own f l ds'))[m]? = some r → b ∈ r.adr → ∃ r', δ[m]? = some r' ∧ b ∈ r'.adr := fun {m r} hm hr => by
      by_cases q : m = i
      · subst q
        rw [List.getElem?_set_self hil] at hm
        cases hm
        exact ⟨_, hi, hr⟩
      · rw [List.getElem?_set_ne (Ne.symm q)] at hm; exact ⟨r, hm, hr⟩
    obtain ⟨r1, a1, a2⟩ := g hj hb
    obtain ⟨r2, b1, b2⟩ := g hk hb'
    exact c.sp j k r1 r2 b a1 b1 a2 b2
  · rcases List.mem_or_eq_of_mem_set ht with z | z
    · exact c.lf t z hlo b hb
    · subst z
      exact c.lf _ (List.mem_of_getElem? hi) hlo b hb
  · by_cases q : j = i
    · subst q
      rw [List.getElem?_set_self hil] at hj
      cases hj
      exact ⟨_, ev, hs⟩
    · rw [List.getElem?_set_ne (Ne.symm q)] at hj
      obtain ⟨w, e, z⟩ := c.vl j t hj hnn
      refine ⟨w, e, ?_⟩
      have nb := nl j t q hj
      have nn : ∀ b, G b = none → H b ≠ none → N b = none := fun b h1 h2 => by
        cases qq : N b with
        | none => rfl
        | some o => exact ((hn b (by rw [qq]; simp)).elim (fun z => z h1) fun z => h2 z).elim
      cases t with
      | e => trivial
      | im d => exact Is.mono e1 _ _ z
      | own f2 l2 d2 =>
        obtain ⟨q1, g1, x1, h1, a1⟩ := z
        exact ⟨q1, nn _ g1 (by rw [h1]; simp), x1, hk _ _ (fun q => nb (by rw [← q]; simp [Sl.adr])) h1, IsAll.mono e1 _ _ a1⟩
      | own2 l2 rows =>
        obtain ⟨q1, g1, h1, nd, a1⟩ := z
        refine ⟨q1, nn _ g1 (by rw [h1]; simp), hk _ _ (fun q => nb (by rw [← q]; simp [Sl.adr])) h1, nd, fun r hr => ?_⟩
        obtain ⟨g2, x2, h2, a2⟩ := a1 r hr
        exact ⟨nn _ g2 (by rw [h2]; simp), x2, hk _ _ (fun q => nb (by rw [← q]; exact List.mem_cons_of_mem _ (List.mem_map.mpr ⟨r, hr, rfl⟩))) h2, IsAll.mono e1 _ _ a2⟩
      | sq d2 =>
        obtain ⟨a, xs, q, h1, h2⟩ := z
        exact ⟨a, xs, q, Evl.ex_l e1 h1, IsAll.mono e1 _ _ h2⟩
      | val w => exact z
      | wk p t u =>
        obtain ⟨a, dx, v1, v2, v3, q, h0, h1, h2, h3⟩ := z
        exact ⟨a, dx, v1, v2, v3, q, e1 _ _ h0, Is.mono e1 _ _ h1, Is.mono e1 _ _ h2, Is.mono e1 _ _ h3⟩
theorem pd_callKBy (i : Nat) {y : Str} {py : Pos} (F : CallBy X x (.Name y py :: es) p pos (spK X.K C preK postK)) (ha : PDa X C es dr)
    (he : starEach (.Name y py :: es) X.env = (false, eval (.Name y py) X.env) :: starEach es X.env := by rfl) (hN : X.N[i]? = some y := by rfl) (hv : Vis X.env.scope y := by first | exact Or.inl rfl | exact Or.inr (Or.inl rfl) | exact Or.inr (Or.inr rfl)) (hd : (y == ("__debug__" : Str)) = false := by decide)
    (hcd : (y == ("__classdict__" : Str)) = false := by decide) : PDe X C (.Call (.Name x p) (.Name y py :: es) [] pos) (dCallK i preK postK dr) := by
  refine PE.weak (F _ (pa_cons (pe_var hN hv hd hcd) ha he)) fun σ H Q h => ?_
  obtain ⟨E, G, δ, P, c, h, kk⟩ := h
  obtain ⟨s0, v, e0, ev, sv0, h⟩ := c.look h
  refine ⟨v, ev, E, G, δ, _, c, h, fun vs N H1 ss δ1 c1 s1 _ _ h1 => ?_⟩
  obtain ⟨s, w, e1, ew, sv, h2⟩ := c1.look h1
  rw [ev] at ew
  cases ew
  cases s <;> try exact h2.elim
  rename_i ff l ds
  obtain ⟨hp, h3⟩ := h2
  have sv2 := sv
  obtain ⟨e, gl, xs, hl, ia⟩ := sv2
  cases e
  show spK X.K C preK postK ((V.ref l :: vs) ++ []) H1 Q E0
  rw [List.append_nil]
  exact ⟨N, l, ds, ss, vs, rfl, c1.gh, sv, s1, hp, fun v N2 H2 r k' hpost g1 g2 g3 g4 g5 g6 ir => kk v N2 H2 (.im r) _ (c1.lent e1 g1 g2 g3 g4 g5 g6) ir (h3 r k' hpost)⟩
theorem pd_callK (i : Nat) {y : Str} {py : Pos} (F : Cal X.prog X.w X.K X.mg X.base x k ps (spK X.K C preK postK)) (hr : Room k X.A) (ha : PDa X C es dr) (hg : Gl X x := by rfl) (hdb : (x == ("__debug__" : Str)) = false := by decide)
    (he : starEach (.Name y py :: es) X.env = (false, eval (.Name y py) X.env) :: starEach es X.env := by rfl) (hpl : (backTo pos (starEach es X.env)).any (·.1) = false := by rfl) (hN : X.N[i]? = some y := by rfl) (hv : Vis X.env.scope y := by first | exact Or.inl rfl | exact Or.inr (Or.inl rfl) | exact Or.inr (Or.inr rfl)) (hd : (y == ("__debug__" : Str)) = false := by decide)
    (hcd : (y == ("__classdict__" : Str)) = false := by decide) : PDe X C (.Call (.Name x p) (.Name y py :: es) [] pos) (dCallK i preK postK dr) := pd_callKBy i (CallBy.of F hr hg hdb he hpl) ha he hN hv hd hcd
/-- f(g(..)), f lent the new list -/
theorem pd_callFBy (F : CallBy X x [e] p pos (spK X.K C preK postK)) (ha : PDf X C e df)
    (he : starEach [e] X.env = (false, eval e X.env) :: starEach [] X.env := by rfl) : PDe X C (.Call (.Name x p) [e] [] pos) (dCallF preK postK df) := by
  refine PE.weak (F _ (pa_cons ha pa_nil he)) fun σ H Q h => ?_
  obtain ⟨E, G, δ, P, c, h, kk⟩ := h
  refine ⟨E, G, δ, _, c, h, fun l xs N H1 ds δ1 c1 hl nl el nf na ia h1 => ?_⟩
  obtain ⟨hp, h3⟩ := h1
  show spK X.K C preK postK ([V.ref l] ++ []) H1 Q E0
  rw [List.append_nil]
  refine ⟨N, l, ds, [], [], rfl, c1.gh, ⟨rfl, nl, xs, hl, ia⟩, .nil, hp, fun v N2 H2 r k' hpost g1 g2 g3 g4 g5 g6 ir => kk v N2 H2 (.im r) δ1 ?_ ir (h3 r k' hpost)⟩
  refine ⟨c1.gg.trans g1, g2, fun b h => (g5 b h).elim (fun z => c1.nw b z) fun z => .inr (c1.dm b z), fun b o e n => g3 b o (fun q => by rw [q, el] at e; cases e) (c1.kp b o e n), fun b e => c1.dm b (g4 b e), c1.ow, c1.sp, c1.ln, c1.lf, fun b hb z => c1.fd b hb (g4 b z), fun j t hj hnn => ?_⟩
  obtain ⟨w, e, z⟩ := c1.vl j t hj hnn
  refine ⟨w, e, ?_⟩
  have nb : ∀ b ∈ t.adr, b ≠ l := fun b hb q => na ⟨t, List.mem_of_getElem? hj, q ▸ hb⟩
  have nn : ∀ b, N b = none → H1 b ≠ none → N2 b = none := fun b h1 h2 => by
    cases qq : N2 b with
    | none => rfl
    | some o => exact ((g5 b (by rw [qq]; simp)).elim (fun z => z h1) fun z => h2 z).elim
  cases t with
  | e => trivial
  | im d => exact Is.mono g1 _ _ z
  | own f2 l2 d2 =>
    obtain ⟨q1, g1', x1, h1, a1⟩ := z
    exact ⟨q1, nn _ g1' (by rw [h1]; simp), x1, g3 _ _ (nb l2 (by simp [Sl.adr])) h1, IsAll.mono g1 _ _ a1⟩
  | own2 l2 rows =>
    obtain ⟨q1, g1', h1, nd, a1⟩ := z
    refine ⟨q1, nn _ g1' (by rw [h1]; simp), g3 _ _ (nb l2 (by simp [Sl.adr])) h1, nd, fun r hr => ?_⟩
    obtain ⟨g2', x2, h2, a2⟩ := a1 r hr
    exact ⟨nn _ g2' (by rw [h2]; simp), x2, g3 _ _ (nb r.1 (List.mem_cons_of_mem _ (List.mem_map.mpr ⟨r, hr, rfl⟩))) h2, IsAll.mono g1 _ _ a2⟩
  | sq d2 =>
    obtain ⟨a, xs, q, h1, h2⟩ := z
    exact ⟨a, xs, q, Evl.ex_l g1 h1, IsAll.mono g1 _ _ h2⟩
  | val w => exact z
  | wk p t u =>
    obtain ⟨a, dx, v1, v2, v3, q, h0, h1, h2, h3⟩ := z
    exact ⟨a, dx, v1, v2, v3, q, g1 _ _ h0, Is.mono g1 _ _ h1, Is.mono g1 _ _ h2, Is.mono g1 _ _ h3⟩
theorem pd_callF (F : Cal X.prog X.w X.K X.mg X.base x k ps (spK X.K C preK postK)) (hr : Room k X.A) (ha : PDf X C e df) (hg : Gl X x := by rfl) (hdb : (x == ("__debug__" : Str)) = false := by decide)
    (he : starEach [e] X.env = (false, eval e X.env) :: starEach [] X.env := by rfl) (hpl : (backTo pos (starEach [] X.env)).any (·.1) = false := by rfl) : PDe X C (.Call (.Name x p) [e] [] pos) (dCallF preK postK df) := pd_callFBy (CallBy.of F hr hg hdb he hpl) ha he
end
end Dl

end
section
set_option Elab.async false
set_option linter.all false
set_option maxRecDepth 100000
set_option maxHeartbeats 4000000
set_option autoImplicit false
/-! The data layer: a list of one's own lists. -/
namespace Dl
open PySem PySem.Spec PyProof.Rows L2
open Evl (Ex)
/-- a list of lists just made -/
def t2Of (K : PySem.W.Frag) (C : Addr) (df : DTF) : TE := fun σ H Q => ∃ E G δ P, Cfg K C E G H σ δ ∧ df δ P ∧ ∀ l rows N H2 δ', Cfg K C E N H2 σ δ' → SIs K C N H2 (.ref l) (.own2 l rows) → (∀ b ∈ (Sl.own2 l rows).adr, E.H b = none ∧ ¬ E.F b ∧ ¬ adrs δ' b) → P (rows.map fun r => PyData.list r.2) δ' → Q (.ref l) H2
def PD2 (X : Cx) (C : Addr) (e : Expr) (df : DTF) : Prop := PE X e (t2Of X.K C df)
section
variable {X : Cx} {C : Addr} {a b e tg elt iter : Expr} {es ifs : List Expr} {de da db dj di2 te : DTE} {df : DTF} {dr : DTA} {dg : DTG} {pos spos : Pos} {x y : Str} {di : DTI}
theorem pda_one2 (ha : PD2 X C e df) (hs : starEach (e :: []) X.env = (false, eval e X.env) :: starEach [] X.env := by rfl) : PDa X C [e] (dOne2 df) := PA.weak (pa_cons ha pa_nil hs) fun σ H Q h => by
  obtain ⟨E, G, δ, P, c, h, k⟩ := h
  refine ⟨E, G, δ, _, c, h, fun l rows N H1 δ1 c1 s1 fr h1 => ?_⟩
  refine k [.ref l] N H1 [.own2 l rows] δ1 c1 (.cons s1 .nil) (fun s hs b hb => ?_) (.cons (fun t ht => by cases ht) .nil) (h1 l rows rfl)
  rcases List.mem_cons.mp hs with z | z
  · subst z; exact fr b hb
  · cases z
theorem Cfg.newrow {K : PySem.W.Frag} {E : Ent} {G H : Hp} {σ : L2.St} {δ : DE} (c : Cfg K C E G H σ δ) {D l : Addr} {xs ys : List V} {rows : List (Addr × List PyData)} {ds : List PyData} (s : SIs K C G H (.ref D) (.own2 D rows)) (hl : H l = none) (hE : ∀ b ∈ (Sl.own2 D rows).adr, E.H b = none ∧ ¬ E.F b ∧ ¬ adrs δ b)
    (hi : IsAll K G xs ds) (hD : H D = some (.lst ys)) : Cfg K C E G (upd (upd H l (.lst xs)) D (.lst (ys ++ [.ref l]))) σ δ ∧ SIs K C G (upd (upd H l (.lst xs)) D (.lst (ys ++ [.ref l]))) (.ref D) (.own2 D (rows ++ [(l, ds)])) ∧ ∀ b ∈ (Sl.own2 D (rows ++ [(l, ds)])).adr, E.H b = none ∧ ¬ E.F b ∧ ¬ adrs δ b := by
  obtain ⟨_, gD, h1, nd, a⟩ := s
  rw [hD] at h1
  cases h1
  have gl : G l = none := Ex.nn c.gh hl
  have nlD : l ≠ D := fun q => by rw [q, hD] at hl; cases hl
  have eD := hE D (by simp [Sl.adr])
  refine ⟨((c.xt (XT.hid (o := .lst xs) c.gh hl)).hidmut eD.1 gD eD.2.2), ⟨rfl, gD, by rw [upd_same, List.map_append]; rfl, ?_, fun r hr => ?_⟩, fun b hb => ?_⟩
  · rw [List.map_append]
    show ((D :: rows.map (·.1)) ++ [l]).Nodup
    rw [List.nodup_append]
    refine ⟨nd, List.nodup_cons.mpr ⟨by simp, .nil⟩, fun b hb b' hb' => ?_⟩
    have e : b' = l := by simpa using hb'
    subst e
    rcases List.mem_cons.mp hb with z | z
    · rw [z]; exact (Ne.symm nlD)
    · obtain ⟨r, hr, e⟩ := List.mem_map.mp z
      obtain ⟨_, xs2, h2, _⟩ := a r hr
      intro q
      rw [← e] at q
      rw [q, hl] at h2
      cases h2
  · rcases List.mem_append.mp hr with z | z
    · obtain ⟨g2, xs2, h2, a2⟩ := a r z
      have n1 : r.1 ≠ D := fun q => (List.nodup_cons.mp nd).1 (by rw [← q]; exact List.mem_map.mpr ⟨r, z, rfl⟩)
      have n2 : r.1 ≠ l := fun q => by rw [q, hl] at h2; cases h2
      exact ⟨g2, xs2, by rw [upd_ne n1, upd_ne n2]; exact h2, a2⟩
    · have e : r = (l, ds) := by simpa using z
      subst e
      exact ⟨gl, xs, by rw [upd_ne nlD, upd_same], hi⟩
  · have hb' : b ∈ (Sl.own2 D rows).adr ∨ b = l := by
      have z : b ∈ D :: ((rows ++ [(l, ds)]).map (·.1)) := hb
      rw [List.map_append] at z
      rcases List.mem_cons.mp z with z | z
      · exact .inl (by rw [z]; simp [Sl.adr])
      · rcases List.mem_append.mp z with z | z
        · exact .inl (List.mem_cons_of_mem _ z)
        · exact .inr (by simpa using z)
    rcases hb' with z | z
    · exact hE b z
    · subst z
      exact ⟨c.dm b hl, fun z => c.fd b z hl, fun z => (c.there z).1 hl⟩
theorem pd2_lc {v : Nat} {scope : Scope} {pv : Pos} (hc : X.calm = true) (hN : X.N.Nodup) (hi : PDi X C (.Name x pv) iter di)
    (hg : ∀ (s : Shared) (H : Hp) (A : Addr) (cl : List (Str × Addr)) (fp : List Addr), PG (X.blk s H scope (compEnvC scope cl A X.env) fp) (.Name x pv) (gName v))
    (he : ∀ (s : Shared) (H : Hp) (A : Addr) (cl : List (Str × Addr)) (fp : List Addr), PE (X.blk s H scope (compEnvC scope cl A X.env) fp) elt (tCB (fun xs H Q => ∃ p ys, xs = [V.ref p] ∧ (SqL X.K H p ys ∨ SqT X.K H p ys) ∧ ∀ l, H l = none → Q (.ref l) (upd H l (.lst ys))) (tCons (tVar v) tNil)))
    (ok : blkC X.N X.env.scope scope [(x, v)] = true := by kernel_rfl) (hs : ∀ x, foldedSetIterable iter X.env x = pure x := by intro _; rfl) :
    PD2 X C (.ListComp elt [⟨.Name x pv, iter, [], 0⟩] scope pos) (d2Lc di v) := PE.weak (pe_lc (own := [(x, v)]) hc hN hi (blkOk_by ok) hg (fun _ _ _ _ _ => pts_nil) he hs) fun σ H Q h => by
  obtain ⟨E, G, δ, P, c, h, k⟩ := h
  refine ⟨E, G, δ, _, c, h, fun J N H2 items δ1 c1 wk hq D hD => ?_⟩
  obtain ⟨hz, hv, dss, rfl, hq⟩ := hq
  have eD : E.H D = none := c1.dm D hD
  have fD : ¬ E.F D := fun z => c1.fd D z hD
  have aD : ¬ adrs (wipeD δ1 [v]) D := fun z => ((c1.wipe [v]).there z).1 hD
  rw [List.length_map] at hz
  have hlen : (dss.map PyData.tuple).length = dss.length := List.length_map _
  refine ⟨fun i m H' => m = dss.length - i ∧ i ≤ dss.length ∧ ∃ G' rows, (rows.map fun r : Addr × List PyData => r.2) = dss.take i ∧ Cfg X.K C (up E N) G' H' (L2.wipe σ [v]) (wipeD δ1 [v]) ∧ SIs X.K C G' H' (.ref D) (.own2 D rows) ∧ ∀ b ∈ (Sl.own2 D rows).adr, E.H b = none ∧ ¬ E.F b ∧ ¬ adrs (wipeD δ1 [v]) b,
    ⟨dss.length, by simp, Nat.zero_le _, N, [], by simp, ((c1.xt (XT.hid (o := .lst []) c1.gh hD)).up).blk [v], ⟨rfl, Ex.nn c1.gh hD, upd_same, by simp, fun r hr => by cases hr⟩, fun b hb => ?_⟩, ?_⟩
  · have e : b = D := by simpa [Sl.adr] using hb
    subst e
    exact ⟨eD, fD, aD⟩
  rintro i m H' ⟨rfl, hil, G', rows, er, c', sD, fr⟩
  have eN : Ex N H' := c'.gg.trans c'.gh
  have lrows : rows.length = i := by
    have := congrArg List.length er
    rw [List.length_map, List.length_take] at this
    omega
  by_cases hlt : i < dss.length
  · refine .inr ⟨wk.goes i H' eN (by rw [hlen]; exact hlt), fun H3 => i + 1 ≤ dss.length ∧ ∃ G' rows, (rows.map fun r : Addr × List PyData => r.2) = dss.take (i + 1) ∧ Cfg X.K C (up E N) G' H3 (L2.wipe σ [v]) (wipeD δ1 [v]) ∧ SIs X.K C G' H3 (.ref D) (.own2 D rows) ∧ ∀ b ∈ (Sl.own2 D rows).adr, E.H b = none ∧ ¬ E.F b ∧ ¬ adrs (wipeD δ1 [v]) b,
      fun H3 hn => ⟨dss.length - (i + 1), by omega, rfl, hn.1, hn.2⟩, fun w H'' y => ?_⟩
    obtain ⟨G'', d, xt, hd, isd⟩ := wk.yields i H' w H'' eN (by rw [hlen]; exact hlt) y G' c'.gg c'.gh
    rw [List.getElem?_map, List.getElem?_eq_getElem hlt] at hd
    cases hd
    have c2 := c'.xt xt
    have s2 : SIs X.K C G'' H'' (.ref D) (.own2 D rows) := sD.xt xt
    cases isd with
    | tup ht ia =>
      rename_i p xs
      have hv' : v < (L2.wipe σ [v]).length := by rw [wipe_length, c1.ln]; exact hv
      have ew : L2.wipe ((L2.wipe σ [v]).set v (some (.ref p))) [v] = L2.wipe σ [v] := by
        have e1 : L2.wipe ((L2.wipe σ [v]).set v (some (.ref p))) [v] = L2.wipe (L2.wipe σ [v]) [v] := wipe_eq (fun i hi => by rw [List.getElem?_set_ne (fun q => hi (by simp [q]))]) (List.length_set)
        rw [e1]
        exact wipe_eq (fun i hi => wipe_out hi) (wipe_length σ [v])
      refine ⟨ew, ?_⟩
      unfold tYes
      refine cast (if_pos rfl).symm ?_
      refine ⟨.ref p, List.getElem?_set_self hv', p, xs, rfl, .inr (Evl.ex_t xt.nh ht.sq), fun l hl => ?_⟩
      obtain ⟨_, gD, hD2, nd, _⟩ := id s2
      obtain ⟨c4, s4, f4⟩ := c2.newrow s2 hl fr ia hD2
      refine ⟨rows.map fun r => V.ref r.1, ?_, by rw [List.length_map, lrows]; omega, hlt, G'', rows ++ [(l, dss[i])], ?_, c4, s4, f4⟩
      · rw [upd_ne (fun q => by rw [q, hl] at hD2; cases hD2)]
        exact hD2
      · rw [List.map_append, er, List.take_succ_eq_append_getElem hlt]
        rfl
  · have e : i = dss.length := by omega
    subst e
    have er2 : (rows.map fun r : Addr × List PyData => r.2) = dss := by rw [er, List.take_length]
    have er3 : (rows.map fun r : Addr × List PyData => PyData.list r.2) = dss.map PyData.list := by rw [← er2, List.map_map]; rfl
    refine .inl ⟨by have := wk.stops H' eN; rw [hlen] at this; exact this, k D rows G' H' (wipeD δ1 [v]) (c1.down c'.unblk) sD fr ?_⟩
    rw [er3]
    exact hq
end
end Dl

end
section
set_option Elab.async false
set_option linter.all false
set_option maxRecDepth 100000
set_option maxHeartbeats 4000000
set_option autoImplicit false
/-! The data layer: a list of one's own lists, read and written. -/
namespace Dl
open PySem PySem.Spec PyProof.Rows L2
open Evl (Ex)
theorem atI_ix {α : Type} {xs : List α} {i : Int} {x : α} (h : L2.atI xs i = some x) : ∃ j, L2.ixN xs.length i = some j ∧ xs[j]? = some x := by
  unfold L2.atI at h
  cases q : ixN xs.length i with
  | none => rw [q] at h; cases h
  | some j => rw [q] at h; exact ⟨j, rfl, h⟩
theorem ix_atI {α : Type} {xs : List α} {i : Int} {x : α} {j : Nat} (h : L2.ixN xs.length i = some j) (e : xs[j]? = some x) : L2.atI xs i = some x := by
  unfold L2.atI
  rw [h]
  exact e
theorem atI_map {α β : Type} {xs : List α} {i : Int} {x : α} (f : α → β) (h : L2.atI xs i = some x) : L2.atI (xs.map f) i = some (f x) := by
  obtain ⟨j, h1, h2⟩ := atI_ix h
  refine ix_atI (j := j) (by rw [List.length_map]; exact h1) ?_
  rw [List.getElem?_map, h2]
  rfl
section
variable {X : Cx} {C : Addr} {a b e : Expr} {dj di : DTE} {pos p1 p2 : Pos} {x : Str}
theorem pd_ix2 (t : Nat) (hj : PDe X C a dj) (hi : PDe X C b di) (s1 : PlainIx a := by exact fun _ _ => rfl) (s2 : PlainIx b := by exact fun _ _ => rfl) (hN : X.N[t]? = some x := by rfl) (hv : Vis X.env.scope x := by first | exact Or.inl rfl | exact Or.inr (Or.inl rfl) | exact Or.inr (Or.inr rfl)) (hd : (x == ("__debug__" : Str)) = false := by decide)
    (hcd : (x == ("__classdict__" : Str)) = false := by decide) : PDe X C (.Subscript (.Subscript (.Name x p1) a p2) b pos) (dIx2 t dj di) :=
  PE.weak (pe_ix ix_list (pe_ix ix_list (pe_var hN hv hd hcd) hj s1) hi s2) fun σ H Q h => by
    obtain ⟨E, G, δ, P, c, h, k⟩ := h
    obtain ⟨s0, v, e0, ev, _, h⟩ := c.look h
    refine ⟨v, ev, E, G, δ, _, c, h, fun y N H1 s δ1 c1 s1 h1 => ?_⟩
    obtain ⟨zj, rfl, h1⟩ := h1
    cases s1
    obtain ⟨s1', v', e1, ev', sv, h1⟩ := c1.look h1
    rw [ev] at ev'
    cases ev'
    obtain ⟨l, rows, r, rfl, hr, h1⟩ := h1
    obtain ⟨rfl, g, h2, nd, ia⟩ := sv
    refine ⟨l, rows.map (fun r => V.ref r.1), zj, V.ref r.1, rfl, rfl, SqL.of h2, atI_map _ hr, here E.F N H1 δ1, N, δ1, _, c1.here, h1, fun y2 N2 H2 s2 δ2 c2 s2' h3 => ?_⟩
    obtain ⟨zi, rfl, h3⟩ := h3
    cases s2'
    obtain ⟨s3, v', e3, ev', sv, h3⟩ := c2.look h3
    rw [ev] at ev'
    cases ev'
    obtain ⟨rows2, r2, d, rfl, hr2, e12, hd2, h3⟩ := h3
    obtain ⟨q, g2, h4, nd2, ia2⟩ := sv
    obtain ⟨j, _, hm⟩ := atI_ix hr2
    obtain ⟨g5, xs, h5, ia5⟩ := ia2 r2 (List.mem_of_getElem? hm)
    obtain ⟨w, hw, iw⟩ := ia5.atI hd2
    exact ⟨r.1, xs, zi, w, rfl, rfl, SqL.of (by rw [← e12]; exact h5), hw, k w N2 H2 (.im d) δ2 (c1.trans c2) iw h3⟩
theorem Cfg.mut2 {K : PySem.W.Frag} {E : Ent} {G H : Hp} {σ : L2.St} {δ : DE} (c : Cfg K C E G H σ δ) {i j : Nat} {l : Addr} {rows : List (Addr × List D)} {r : Addr × List D} {ds' : List D} {xs' : List V} (hi : δ[i]? = some (.own2 l rows)) (hj : rows[j]? = some r) (ha : IsAll K G xs' ds') :
    Cfg K C E G (upd H r.1 (.lst xs')) σ (δ.set i (.own2 l (rows.set j (r.1, ds')))) := by
  have hil : i < δ.length := (List.getElem?_eq_some_iff.mp hi).1
  have hjl : j < rows.length := (List.getElem?_eq_some_iff.mp hj).1
  have hrm : r ∈ rows := List.mem_of_getElem? hj
  have hra : r.1 ∈ (Sl.own2 l rows).adr := List.mem_cons_of_mem _ (List.mem_map.mpr ⟨r, hrm, rfl⟩)
  obtain ⟨v, ev, rfl, gl, hl, nd, ia⟩ := c.vl i _ hi (fun q => by cases q)
  obtain ⟨gr, xsr, hr, iar⟩ := ia r hrm
  have em : (rows.set j (r.1, ds')).map (·.1) = rows.map (·.1) := by
    rw [List.map_set]
    apply List.ext_getElem?
    intro m
    by_cases q : j = m
    · subst q
      rw [List.getElem?_set_self (by rw [List.length_map]; exact hjl), List.getElem?_map, hj]
      rfl
    · rw [List.getElem?_set_ne q]
  have ea : (Sl.own2 l (rows.set j (r.1, ds'))).adr = (Sl.own2 l rows).adr := congrArg (l :: ·) em
  have hS : E.S r.1 ∨ E.H r.1 = none := c.ow _ (List.mem_of_getElem? hi) _ hra
  have ng : ∀ b o, G b = some o → b ≠ r.1 := fun b o e q => by rw [q, gr] at e; cases e
  have nl : ∀ j t, j ≠ i → δ[j]? = some t → r.1 ∉ t.adr := fun j t hj ht hb => hj (c.sp j i t _ r.1 ht hi hb hra)
  have lr : l ≠ r.1 := fun q => (List.nodup_cons.mp nd).1 (by rw [q]; exact List.mem_map.mpr ⟨r, hrm, rfl⟩)
  have back : ∀ {m : Nat} {s : Sl}, (δ.set i (.own2 l (rows.set j (r.1, ds'))))[m]? = some s → ∃ s', δ[m]? = some s' ∧ s'.adr = s.adr := fun {m s} hm => by
    by_cases q : m = i
    · subst q
      rw [List.getElem?_set_self hil] at hm
      cases hm
      exact ⟨_, hi, ea.symm⟩
    · rw [List.getElem?_set_ne (Ne.symm q)] at hm; exact ⟨s, hm, rfl⟩
  refine ⟨c.gg, fun b o e => by rw [upd_ne (ng b o e)]; exact c.gh b o e, c.nw, fun b o e n => ?_, fun b e => ?_, fun t ht b hb => ?_, fun j k t u b hj hk hb hb' => ?_, by rw [List.length_set]; exact c.ln, fun t ht hlo b hb => ?_, fun b hb => ?_, fun m t hm hn => ?_⟩
  · by_cases q : b = r.1
    · rw [q] at e n
      rcases hS with z | z
      · exact (n z).elim
      · rw [z] at e; cases e
    · rw [upd_ne q]; exact c.kp b o e n
  · by_cases q : b = r.1
    · rw [q, upd_same] at e; cases e
    · rw [upd_ne q] at e; exact c.dm b e
  · rcases List.mem_or_eq_of_mem_set ht with z | z
    · exact c.ow t z b hb
    · rw [z, ea] at hb
      exact c.ow _ (List.mem_of_getElem? hi) b hb
  · obtain ⟨r1, a1, a2⟩ := back hj
    obtain ⟨r2, b1, b2⟩ := back hk
    exact c.sp j k r1 r2 b a1 b1 (by rw [a2]; exact hb) (by rw [b2]; exact hb')
  · rcases List.mem_or_eq_of_mem_set ht with z | z
    · exact c.lf t z hlo b hb
    · rw [z, ea] at hb
      exact c.lf _ (List.mem_of_getElem? hi) trivial b hb
  · by_cases q : b = r.1
    · rw [q, upd_same]; simp
    · rw [upd_ne q]; exact c.fd b hb
  · by_cases q : m = i
    · subst q
      rw [List.getElem?_set_self hil] at hm
      cases hm
      refine ⟨_, ev, rfl, gl, ?_, ?_, fun p hp => ?_⟩
      · rw [upd_ne lr, hl]
        have e2 : (rows.set j (r.1, ds')).map (fun r => V.ref r.1) = rows.map fun r => V.ref r.1 := by
          have := congrArg (List.map V.ref) em
          rw [List.map_map, List.map_map] at this
          exact this
        rw [e2]
      · rw [em]; exact nd
      · obtain ⟨n, hn'⟩ := List.mem_iff_getElem?.mp hp
        by_cases qn : j = n
        · subst qn
          rw [List.getElem?_set_self hjl] at hn'
          cases hn'
          exact ⟨gr, xs', upd_same, ha⟩
        · rw [List.getElem?_set_ne qn] at hn'
          obtain ⟨g2, x2, h2, a2⟩ := ia p (List.mem_of_getElem? hn')
          refine ⟨g2, x2, ?_, a2⟩
          rw [upd_ne (fun q => ?_)]
          · exact h2
          · have nd2 := (List.nodup_cons.mp nd).2
            have h3 : (rows.map (·.1))[n]? = some p.1 := by rw [List.getElem?_map, hn']; rfl
            have h4 : (rows.map (·.1))[j]? = some r.1 := by rw [List.getElem?_map, hj]; rfl
            rw [q] at h3
            exact qn ((List.getElem?_inj (by rw [List.length_map]; exact hjl) nd2).mp (h4.trans h3.symm))
    · rw [List.getElem?_set_ne (Ne.symm q)] at hm
      obtain ⟨w, e, z⟩ := c.vl m t hm hn
      refine ⟨w, e, ?_⟩
      have nb := nl m t q hm
      cases t with
      | e => trivial
      | im d => exact z
      | own f2 l2 d2 =>
        obtain ⟨e1, g1, x1, h1, a1⟩ := z
        exact ⟨e1, g1, x1, by rw [upd_ne (fun q => nb (by rw [← q]; simp [Sl.adr]))]; exact h1, a1⟩
      | own2 l2 rows =>
        obtain ⟨e1, g1, h1, nd, a1⟩ := z
        refine ⟨e1, g1, by rw [upd_ne (fun q => nb (by rw [← q]; simp [Sl.adr]))]; exact h1, nd, fun p hp => ?_⟩
        obtain ⟨g2, x2, h2, a2⟩ := a1 p hp
        exact ⟨g2, x2, by rw [upd_ne (fun q => nb (by rw [← q]; exact List.mem_cons_of_mem _ (List.mem_map.mpr ⟨p, hp, rfl⟩)))]; exact h2, a2⟩
      | sq d2 => exact z
      | val w => exact z
      | wk p t u => exact z
theorem pdg_set2 (t : Nat) (hj : PDe X C a dj) (hi : PDe X C b di) (ha : ∀ v, assign (.Subscript (.Subscript (.Name x p1) a p2) b pos) X.env v = (do
      let ov ← holding [v] (eval (.Subscript (.Name x p1) a p2) X.env)
      let iv ← holding [v, ov] (eval b X.env)
      standAt pos
      holding [v, ov, iv] (setItem ov iv v)
      release [v, ov, iv] []) := by intro _; rfl) (s1 : PlainIx a := by exact fun _ _ => rfl) (hN : X.N[t]? = some x := by rfl) (hv : Vis X.env.scope x := by first | exact Or.inl rfl | exact Or.inr (Or.inl rfl) | exact Or.inr (Or.inr rfl)) (hd : (x == ("__debug__" : Str)) = false := by decide)
    (hcd : (x == ("__classdict__" : Str)) = false := by decide) : PDg X C (.Subscript (.Subscript (.Name x p1) a p2) b pos) [] (gSet2 t dj di) :=
  PG.weak (pg_sub (pe_ix ix_list (pe_var hN hv hd hcd) hj s1) hi set_list ha) fun v σ H Q h => by
    obtain ⟨E, G, δ, s, P, c, sv0, ho, h, k⟩ := h
    obtain ⟨s0, w, e0, ew, _, h⟩ := c.look h
    refine ⟨w, ew, here E.F G H δ, G, δ, _, c.here, h, fun y N H1 s' δ1 c1 s1 h1 => ?_⟩
    obtain ⟨zj, rfl, h1⟩ := h1
    cases s1
    obtain ⟨s1', v', e1, ev', sv, h1⟩ := c1.look h1
    rw [ew] at ev'
    cases ev'
    obtain ⟨l, rows, r, rfl, hr, h1⟩ := h1
    obtain ⟨rfl, g, h2, nd, ia⟩ := sv
    refine ⟨l, rows.map (fun r => V.ref r.1), zj, V.ref r.1, rfl, rfl, SqL.of h2, atI_map _ hr, here E.F N H1 δ1, N, δ1, _, c1.here, h1, fun y2 N2 H2 s2 δ2 c2 s2' h3 => ?_⟩
    obtain ⟨zi, rfl, h3⟩ := h3
    cases s2'
    obtain ⟨s3, v', e3, ev', sv, h3⟩ := c2.look h3
    rw [ew] at ev'
    cases ev'
    obtain ⟨rows2, j, r2, i, d, rfl, rfl, hj2, hm, e12, hi2, h3⟩ := h3
    obtain ⟨q, g2, h4, nd2, ia2⟩ := sv
    obtain ⟨g5, xs, h5, ia5⟩ := ia2 r2 (List.mem_of_getElem? hm)
    refine ⟨r.1, xs, zi, i, rfl, rfl, by rw [← e12]; exact h5, by rw [ia5.len]; exact hi2, ?_⟩
    rw [← e12]
    exact k σ N2 _ _ ⟨rfl, fun _ _ => rfl⟩ (((c.trans c1).trans c2).mut2 e3 hm (ia5.set i (Is.mono (c1.gg.trans c2.gg) _ _ sv0))) h3
end
end Dl

end
section
set_option Elab.async false
set_option linter.all false
set_option maxRecDepth 100000
set_option maxHeartbeats 4000000
set_option autoImplicit false
/-! The data layer: the class's instances, a call by keywords, repr of two bools. -/
namespace Dl
open PySem PySem.Spec PyProof.Rows L2
open Evl (Ex)
/-- len of an instance whose class's own def tells the length of one tuple -/
def lenSp (K : PySem.W.Frag) (C : Addr) : Sp := fun vs H Q _ => ∃ a dx fs t ys, vs = [.ref a] ∧ H a = some (.ins C dx fs) ∧ fs.lookup ("heads" : Str) = some (V.ref t) ∧ SqT K H t ys ∧ Q (.int ys.length) H
structure WorkK (P : Program) (w : World) (K : PySem.W.Frag) (mg : Str → Option Value) (base : Heap) (C : Addr) : Prop where
  c : Cls K C
  nh : NoAttr K C "heads"
  nr : NoAttr K C "roads"
  np : NoAttr K C "pushed"
  parts : ∃ p g fd, PropOf K C "parts" p g ∧ FnOk P w K mg base CX0 1 g fd ["self"] (getSp C "heads") ∧ Binds K fd ["self"] []
  len : ∃ f fd, PySem.W.findIn K (.ref C) "__len__" = some (some (.ref f)) ∧ PySem.W.isFn K (.ref f) = true ∧ FnOk P w K mg base CX0 1 f fd ["self"] (lenSp K C) ∧ Binds K fd ["self"] []
section
variable {X : Cx} {C : Addr} {a b e : Expr} {es : List Expr} {da db de : DTE} {dr : DTA} {pos p : Pos} {x : Str} {k : Nat}
theorem pd_pushed (W : WorkK X.prog X.w X.K X.mg X.base C) (he : PDe X C e da) (hb : attributeBase e "pushed" X.env (eval e X.env) = eval e X.env := by rfl) : PDe X C (.Attribute e "pushed" pos) (dPushed da) := PE.weak (pe_fld he hb) fun σ H Q h => by
  obtain ⟨E, G, δ, P, c, h, k⟩ := h
  refine ⟨E, G, δ, _, c, h, fun v N H1 s δ1 c1 s1 h1 => ?_⟩
  cases s <;> try exact h1.elim
  obtain ⟨a, dx, v1, v2, v3, rfl, h0, i1, i2, i3⟩ := s1
  exact ⟨a, C, dx, _, v3, rfl, c1.gh _ _ h0, W.c, W.np, rfl, k v3 N H1 (.im _) δ1 c1 i3 h1⟩
theorem pd_parts (W : WorkK X.prog X.w X.K X.mg X.base C) (hr : Room 2 X.A) (he : PDe X C e da) (hb : attributeBase e "parts" X.env (eval e X.env) = eval e X.env := by rfl) : PDe X C (.Attribute e "parts" pos) (dParts da) := by
  obtain ⟨p, g, fd, hp, F, hB⟩ := W.parts
  refine PE.weak (pe_prop he W.c hp F hr hB .nil pass0 hb) fun σ H Q h => ?_
  obtain ⟨E, G, δ, P, c, h, k⟩ := h
  refine ⟨E, G, δ, _, c, h, fun v N H1 s δ1 c1 s1 h1 => ?_⟩
  cases s <;> try exact h1.elim
  obtain ⟨a, dx, v1, v2, v3, rfl, h0, i1, i2, i3⟩ := s1
  exact ⟨a, dx, _, rfl, c1.gh _ _ h0, a, dx, _, v1, rfl, c1.gh _ _ h0, rfl, k v1 N H1 (.im _) δ1 c1 i1 h1⟩
theorem call_len_ins (W : WorkK X.prog X.w X.K X.mg X.base C) (hr : Room 2 X.A) : CallR X (.builtin "len") (fun xs H Q => ∃ a dx fs t ys, xs = [.ref a] ∧ H a = some (.ins C dx fs) ∧ fs.lookup ("heads" : Str) = some (V.ref t) ∧ SqT X.K H t ys ∧ Q (.int ys.length) H) := by
  intro pins s σ H xs us Q I r h
  obtain ⟨a, dx, fs, t, ys, rfl, ea, l, hq, q⟩ := h
  obtain ⟨u, rfl, rx⟩ := vals1 r
  cases rx
  obtain ⟨f, fd, hs, hf, F, hB⟩ := W.len
  obtain ⟨its, r', pl, hz⟩ := I.tuple hq
  obtain ⟨mA, O, _⟩ := ins_get I.hok ea
  obtain ⟨od, J, _⟩ := O.look
  obtain ⟨m, fr⟩ := I.fr
  refine PySem.W.len_K fr I.ok.mod.kin J hs hf (wpAny_call (codeAny_mono (F.run X.A.in1 X.stack s H ⟨[.ref a], []⟩ [.ref a] [.ref a] (fun v H' => v = .int ys.length ∧ Q (.int ys.length) H') E0 hr.in1 I.env0.in1 (hB s [.ref a] I.kIn rfl) (.cons rfl .nil) ⟨a, dx, fs, t, ys, rfl, ea, l, hq, rfl, q⟩) fun r s' hq => ?_))
  cases r with
  | error er => exact False.elim hq
  | ok fl =>
    cases fl with
    | ret u =>
      obtain ⟨v, H', I3, rv, ev, q3⟩ := I.after hq
      subst ev
      obtain ⟨tk, rfl⟩ := rv
      have hn := line63
      exact ⟨⟨by omega, by omega⟩, .int ys.length, H', I3.tok _, ⟨_, rfl⟩, q3⟩
    | next => exact False.elim hq
    | brk => exact False.elim hq
    | cont => exact False.elim hq
theorem pd_lenW (i : Nat) (W : WorkK X.prog X.w X.K X.mg X.base C) (hr : Room 2 X.A) {px : Pos} (hm : X.mg "len" = none) (hg : Gl X "len" := by rfl)
    (he : starEach [.Name x px] X.env = (false, eval (.Name x px) X.env) :: starEach [] X.env := by rfl) (hpl : (backTo pos (starEach [] X.env)).any (·.1) = false := by rfl) (hN : X.N[i]? = some x := by rfl) (hv : Vis X.env.scope x := by first | exact Or.inl rfl | exact Or.inr (Or.inl rfl) | exact Or.inr (Or.inr rfl)) (hd : (x == ("__debug__" : Str)) = false := by decide)
    (hcd : (x == ("__classdict__" : Str)) = false := by decide) : PDe X C (.Call (.Name "len" p) [.Name x px] [] pos) (dLenW i) :=
  PE.weak (pe_callB (call_len_ins W hr) hg hm PySem.boot_len (pa_cons (pe_var hN hv hd hcd) pa_nil he) (by decide) (by decide) he hpl) fun σ H Q h => by
    obtain ⟨E, G, δ, P, c, h, k⟩ := h
    obtain ⟨s0, v, e0, ev, sv, h⟩ := c.look h
    cases s0 <;> try exact h.elim
    rename_i p t u
    cases p <;> try exact h.elim
    rename_i ps
    obtain ⟨a, dx, v1, v2, v3, rfl, h0, i1, i2, i3⟩ := sv
    cases i1 with
    | tup ht ia =>
      refine ⟨.ref a, ev, a, dx, _, _, _, rfl, c.gh _ _ h0, rfl, Evl.ex_t c.gh ht.sq, ?_⟩
      rw [ia.len]
      exact k (.int ps.length) G H (.im (.int ps.length)) δ c (Is.int _) h
/-! ### repr of a list of two bools -/
def reprB (a b : Bool) : Str := listText [if a then ("True" : Str) else "False", if b then ("True" : Str) else "False"]
theorem call_repr_bb (hg : X.A.guards = some []) (hr : Room 2 X.A) : CallR X (.builtin "repr") (fun xs H Q => ∃ p b c, xs = [.ref p] ∧ SqL X.K H p [.bl b, .bl c] ∧ Q (.str (reprB b c)) H) := by
  intro pins s σ H xs us Q I r h
  obtain ⟨p, b, c, rfl, hq, q⟩ := h
  obtain ⟨u, rfl, rx⟩ := vals1 r
  cases rx
  obtain ⟨its, r', pl, hz⟩ := I.list hq
  obtain ⟨u1, us1, rfl, r1, r2⟩ : ∃ u us, its = u :: us ∧ RelV (.bl b) u ∧ Vals [.bl c] us := by cases r' with | cons h1 h2 => exact ⟨_, _, rfl, h1, h2⟩
  obtain ⟨u2, us2, rfl, r3, r4⟩ : ∃ u us, us1 = u :: us ∧ RelV (.bl c) u ∧ Vals [] us := by cases r2 with | cons h1 h2 => exact ⟨_, _, rfl, h1, h2⟩
  cases r4
  obtain rfl : u1 = Value.bool b := r1
  obtain rfl : u2 = Value.bool c := r3
  obtain ⟨o, n, ho, hcl, _, hd⟩ := pl
  have hu := hr.un
  refine call_repr_slot (idr := "list.__repr__") (by omega) ⟨o, ho, hcl⟩ F.slot_list_repr.toG (call_list_repr (ts := [if b then ("True" : Str) else "False", if c then ("True" : Str) else "False"]) ⟨o, ho, hcl⟩ hg (fun _ _ _ z => nomatch z) ho hd rfl (fun i y e => ?_) (fun h' u tk hk => ⟨_, u, rfl, .str (reprB b c), H, I.kept hk, ⟨u, rfl⟩, q⟩) ?_)
  · match i, e with
    | 0, e => exact ⟨_, rfl, by cases e; exact ReprIs.bool b⟩
    | 1, e => exact ⟨_, rfl, by cases e; exact ReprIs.bool c⟩
    | i + 2, e => simp at e
  · cases b <;> cases c <;> decide +kernel
end
end Dl

end
section
set_option Elab.async false
set_option linter.all false
set_option maxRecDepth 100000
set_option maxHeartbeats 4000000
set_option autoImplicit false
/-! The data layer: a def's promise from its walk. -/
namespace Dl
open PySem PySem.Spec PyProof.Rows L2
open Evl (Ex)
def slots (n : Nat) (as : List Sl) : DE := as ++ List.replicate (n - as.length) .e
section
variable {K : PySem.W.Frag} {C : Addr} {G H : Hp}
theorem Paired.slot : ∀ {vs : List V} {as : List Sl} {i : Nat} {s : Sl}, Paired (SIs K C G H) vs as → as[i]? = some s → ∃ v, vs[i]? = some v ∧ SIs K C G H v s
  | _, _, i, _, .nil, e => by simp at e
  | _, _, 0, _, .cons h _, e => by simp at e; subst e; exact ⟨_, rfl, h⟩
  | _, _, i + 1, _, .cons _ r, e => by
    obtain ⟨v, h1, h2⟩ := Paired.slot (i := i) r (by simpa using e)
    exact ⟨v, by simpa using h1, h2⟩
theorem Paired.len {α β : Type} {R : α → β → Prop} : ∀ {xs : List α} {ys : List β}, Paired R xs ys → xs.length = ys.length
  | _, _, .nil => rfl
  | _, _, .cons _ r => congrArg Nat.succ (Paired.len r)
theorem slots_get {n : Nat} {as : List Sl} {i : Nat} {s : Sl} (h : (slots n as)[i]? = some s) : as[i]? = some s ∨ s = .e := by
  unfold slots at h
  by_cases q : i < as.length
  · rw [List.getElem?_append_left q] at h; exact .inl h
  · rw [List.getElem?_append_right (by omega), List.getElem?_replicate] at h
    split at h
    · exact .inr (Option.some.inj h).symm
    · cases h
theorem Cfg.entry {N : List Str} {vs : List V} {as : List Sl} (S F : Addr → Prop) (e : Ex G H) (h : Paired (SIs K C G H) vs as) (hn : as.length ≤ N.length) (hS : ∀ s ∈ as, ∀ b ∈ s.adr, S b)
    (hsp : ∀ (i j : Nat) (s t : Sl) (b : Addr), as[i]? = some s → as[j]? = some t → b ∈ s.adr → b ∈ t.adr → i = j) (hl : ∀ s ∈ as, ¬ s.isLoc) (hF : ∀ b, F b → H b ≠ none) : Cfg K C ⟨G, H, S, F⟩ G H (L2.start N vs) (slots N.length as) where
  gg := Ex.refl G
  gh := e
  nw := fun _ h => .inl h
  kp := fun _ _ h _ => h
  dm := fun _ h => h
  ow := fun s hs b hb => by
    obtain ⟨i, hi⟩ := List.mem_iff_getElem?.mp hs
    rcases slots_get hi with z | z
    · exact .inl (hS s (List.mem_of_getElem? z) b hb)
    · subst z; cases hb
  sp := fun i j s t b hi hj hb hb' => by
    rcases slots_get hi with z | z
    · rcases slots_get hj with z2 | z2
      · exact hsp i j s t b z z2 hb hb'
      · subst z2; cases hb'
    · subst z; cases hb
  ln := by
    have := Paired.len h
    unfold L2.start slots
    rw [List.length_append, List.length_append, List.length_map, List.length_replicate, List.length_replicate, this]
  lf := fun s hs hlo b hb => by
    obtain ⟨i, hi⟩ := List.mem_iff_getElem?.mp hs
    rcases slots_get hi with z | z
    · exact (hl s (List.mem_of_getElem? z) hlo).elim
    · subst z; cases hb
  fd := hF
  vl := fun i s hi hn => by
    rcases slots_get hi with z | z
    · obtain ⟨v, h1, h2⟩ := Paired.slot h z
      refine ⟨v, ?_, h2⟩
      unfold L2.start
      rw [List.getElem?_append_left (by rw [List.length_map]; exact (List.getElem?_eq_some_iff.mp h1).1), List.getElem?_map, h1]
      rfl
    · exact (hn z).elim
end
section
variable {K : PySem.W.Frag} {C : Addr} {N ps : List Str} {d : DTS} {pre : List Sl → Prop} {post : List Sl → D → Prop} {preK : List D → List Sl → Prop} {postK : List D → List Sl → D → List D → Prop} {postF : List Sl → List D → Prop} {vs : List V} {H : Hp} {Q : VK} {E : XK}
/-- the walk's word of a def that hands back data -/
def WpD (n m : Nat) (d : DTS) (pre : List Sl → Prop) (post : List Sl → D → Prop) : Prop := ∀ as, pre as → (as.length = m ∧ m ≤ n ∧ ∀ s ∈ as, s.pure) ∧ d { nx := fun _ => False, rt := fun s _ => ∃ r, s = .im r ∧ post as r } (slots n as)
/-- .. that is lent a list ahead of its other arguments -/
def WpK (n m : Nat) (d : DTS) (pre : List D → List Sl → Prop) (post : List D → List Sl → D → List D → Prop) : Prop := ∀ k as, pre k as → (as.length + 1 = m ∧ m ≤ n ∧ ∀ s ∈ as, s.pure) ∧ ∀ l, d { nx := fun _ => False, rt := fun s δ => ∃ r k', s = .im r ∧ δ[0]? = some (.own false l k') ∧ post k as r k' } (slots n (.own false l k :: as))
/-- .. that hands back a list just made -/
def WpF (n m : Nat) (d : DTS) (pre : List Sl → Prop) (post : List Sl → List D → Prop) : Prop := ∀ as, pre as → (as.length = m ∧ m ≤ n ∧ ∀ s ∈ as, s.pure) ∧ d { nx := fun _ => False, rt := fun s _ => ∃ l r, s = .own true l r ∧ post as r } (slots n as)
theorem not_loc {s : Sl} (h : s.pure) : ¬ s.isLoc := by
  cases s <;> first | exact h.elim | (intro z; exact z.elim)
theorem bodyD (h : WpD N.length ps.length d pre post) (q : spD K C pre post vs H Q E) : vs.length = ps.length ∧ tsOf K C d { nx := fun _ H' => Q .non H', rt := Q } (L2.start N vs) H := by
  obtain ⟨G, as, e, hp, hpre, k⟩ := q
  obtain ⟨⟨hl, hn, hpu⟩, w⟩ := h as hpre
  refine ⟨by rw [Paired.len hp]; exact hl, ⟨G, H, fun _ => False, fun b => H b ≠ none⟩, G, _, _, Cfg.entry (fun _ => False) _ e hp (by omega) (fun s hs b hb => by rw [Sl.pure_adr (hpu s hs)] at hb; cases hb) (fun i j s t b hi _ hb _ => by rw [Sl.pure_adr (hpu s (List.mem_of_getElem? hi))] at hb; cases hb) (fun s hs => not_loc (hpu s hs)) (fun _ z => z), fun _ z => z.elim, w, fun _ _ _ _ z => z.elim, ?_, fun _ _ _ _ z => z.elim, fun _ _ _ _ z => z.elim⟩
  rintro v s δ' σ' N2 H2 ⟨r, rfl, hr⟩ c sv _
  exact k v N2 H2 r hr ⟨c.gg, c.gh, fun b o hb => c.kp b o hb id, c.nw⟩ sv
theorem bodyF (h : WpF N.length ps.length d pre postF) (q : spF K C pre postF vs H Q E) : vs.length = ps.length ∧ tsOf K C d { nx := fun _ H' => Q .non H', rt := Q } (L2.start N vs) H := by
  obtain ⟨G, as, e, hp, hpre, k⟩ := q
  obtain ⟨⟨hl, hn, hpu⟩, w⟩ := h as hpre
  refine ⟨by rw [Paired.len hp]; exact hl, ⟨G, H, fun _ => False, fun b => H b ≠ none⟩, G, _, _, Cfg.entry (fun _ => False) _ e hp (by omega) (fun s hs b hb => by rw [Sl.pure_adr (hpu s hs)] at hb; cases hb) (fun i j s t b hi _ hb _ => by rw [Sl.pure_adr (hpu s (List.mem_of_getElem? hi))] at hb; cases hb) (fun s hs => not_loc (hpu s hs)) (fun _ z => z), fun _ z => z.elim, w, fun _ _ _ _ z => z.elim, ?_, fun _ _ _ _ z => z.elim, fun _ _ _ _ z => z.elim⟩
  rintro v s δ' σ' N2 H2 ⟨l, r, rfl, hr⟩ c sv ha
  obtain ⟨rfl, gl, xs, hl2, ia⟩ := sv
  have el : H l = none := (ha l (by simp [Sl.adr])).elim id fun z => z.elim
  exact k l xs N2 H2 r hr ⟨c.gg, c.gh, fun b o hb => c.kp b o hb id, c.nw⟩ hl2 gl el ia
theorem bodyK (h : WpK N.length ps.length d preK postK) (q : spK K C preK postK vs H Q E) : vs.length = ps.length ∧ tsOf K C d { nx := fun _ H' => Q .non H', rt := Q } (L2.start N vs) H := by
  obtain ⟨G, l, kk, as, ws, rfl, e, hs, hp, hpre, k⟩ := q
  obtain ⟨⟨hl, hn, hpu⟩, w⟩ := h kk as hpre
  have hlive : H l ≠ none := by
    obtain ⟨_, _, xs, hx, _⟩ := id hs
    rw [hx]; simp
  have mem : ∀ s ∈ (Sl.own false l kk :: as), ∀ b ∈ s.adr, b = l := fun s hs' b hb => by
    rcases List.mem_cons.mp hs' with z | z
    · subst z; simpa [Sl.adr] using hb
    · rw [Sl.pure_adr (hpu s z)] at hb; cases hb
  have idx : ∀ (i : Nat) (s : Sl) (b : Addr), (Sl.own false l kk :: as)[i]? = some s → b ∈ s.adr → i = 0 := fun i s b hi hb => by
    cases i with
    | zero => rfl
    | succ i =>
      have hi' : as[i]? = some s := by simpa using hi
      rw [Sl.pure_adr (hpu s (List.mem_of_getElem? hi'))] at hb; cases hb
  refine ⟨by rw [List.length_cons, Paired.len hp]; exact hl, ⟨G, H, fun b => b = l, fun b => H b ≠ none⟩, G, _, _, Cfg.entry (fun b => b = l) _ e (.cons hs hp) (by rw [List.length_cons]; omega) mem (fun i j s t b hi hj hb hb' => (idx i s b hi hb).trans (idx j t b hj hb').symm) (fun s hs' => ?_) (fun _ z => z), fun b z => by rw [z]; exact hlive, w l, fun _ _ _ _ z => z.elim, ?_, fun _ _ _ _ z => z.elim, fun _ _ _ _ z => z.elim⟩
  · rcases List.mem_cons.mp hs' with z | z
    · subst z; intro z; cases z
    · exact not_loc (hpu s z)
  rintro v s δ' σ' N2 H2 ⟨r, k', rfl, h0, hr⟩ c sv _
  obtain ⟨u, _, su⟩ := c.vl 0 _ h0 (fun q => by cases q)
  have eu : u = .ref l := su.1
  rw [eu] at su
  exact k v N2 H2 r k' hr c.gg c.gh (fun b o hb e => c.kp b o e hb) c.dm c.nw su sv
end
end Dl

end
section
set_option Elab.async false
set_option linter.all false
set_option maxRecDepth 100000
set_option maxHeartbeats 4000000
set_option autoImplicit false
/-! The data layer: def rules; defs that ask that no repr is under way. -/
namespace Dl
open PySem PySem.Spec PyProof.Rows L2
open Evl (Ex)
/-- the context of a def's body -/
abbrev cxD (P : Program) (w : World) (K : PySem.W.Frag) (mg : Str → Option Value) (base : Heap) (N : List Str) (qual : Str) (sc : Scope) (f : Addr) (cdv : Value) (A : Around) (outer : List Env) (s : Shared) (H : Hp) (E : XK) : Cx := (cxOf CX0 P w K mg base N qual sc f cdv A outer s H E).nox
section
variable {P : Program} {w : World} {K : PySem.W.Frag} {mg : Str → Option Value} {base : Heap} {C f : Addr} {N ps : List Str} {x qual : Str} {st : Stmt} {fd : FuncData} {k : Nat} {d : DTS} {pre : List Sl → Prop} {post : List Sl → D → Prop} {preK : List D → List Sl → Prop} {postK : List D → List Sl → D → List D → Prop} {postF : List Sl → List D → Prop} {sp : Sp}
/-- a body's walk, in every context that the def may be called in -/
def Body (P : Program) (w : World) (K : PySem.W.Frag) (mg : Str → Option Value) (base : Heap) (C f : Addr) (N : List Str) (qual : Str) (st : Stmt) (k : Nat) (g : Prop → Around → Prop) (d : DTS) : Prop :=
  ∀ (cdv : Value) (A : Around) (outer : List Env) (s : Shared) (H : Hp) (E : XK), g True A → Room k (A.deeper (envOfC qual (defScope st) s.heap.objs.size f cdv)) → PDss (cxD P w K mg base N qual (defScope st) f cdv A outer s H E) C (defBody st) d
abbrev anyG : Prop → Around → Prop := fun _ _ => True
abbrev noG : Prop → Around → Prop := fun _ A => A.guards = some []
theorem fn_by (F : Fun K x qual st f fd) (S : FnScope N ps (defScope st)) (hb : Body P w K mg base C f N qual st k anyG d)
    (h : ∀ vs H Q E, sp vs H Q E → vs.length = ps.length ∧ tsOf K C d { nx := fun _ H' => Q .non H', rt := Q } (L2.start N vs) H) : FnOk P w K mg base CX0 (k + 1) f fd ps sp :=
  F.ok S (fun vs H Q E q => (h vs H Q E q).1) fun cdv A outer s H vs Q E hr q => ⟨_, hb cdv A outer s H E trivial hr, (h vs H Q E q).2⟩
theorem fnD (F : Fun K x qual st f fd) (S : FnScope N ps (defScope st)) (hb : Body P w K mg base C f N qual st k anyG d) (h : WpD N.length ps.length d pre post) : FnOk P w K mg base CX0 (k + 1) f fd ps (spD K C pre post) := fn_by F S hb fun _ _ _ _ q => bodyD h q
theorem fnF (F : Fun K x qual st f fd) (S : FnScope N ps (defScope st)) (hb : Body P w K mg base C f N qual st k anyG d) (h : WpF N.length ps.length d pre postF) : FnOk P w K mg base CX0 (k + 1) f fd ps (spF K C pre postF) := fn_by F S hb fun _ _ _ _ q => bodyF h q
theorem fnK (F : Fun K x qual st f fd) (S : FnScope N ps (defScope st)) (hb : Body P w K mg base C f N qual st k anyG d) (h : WpK N.length ps.length d preK postK) : FnOk P w K mg base CX0 (k + 1) f fd ps (spK K C preK postK) := fn_by F S hb fun _ _ _ _ q => bodyK h q
/-- a def that may be called only where no repr is under way -/
structure FnG (P : Program) (w : World) (K : PySem.W.Frag) (mg : Str → Option Value) (base : Heap) (k : Nat) (f : Addr) (fd : FuncData) (ps : List Str) (sp : Sp) : Prop where
  len : ∀ vs H Q E, sp vs H Q E → vs.length = ps.length
  go : ∀ (A : Around) (outer : List Env) (s : Shared) (H : Hp) (us : List Value) (vs : List V) (Q : VK) (E : XK), A.guards = some [] → Room k A → Env0 P w K mg base A outer s H → BindsTo s fd ⟨us, []⟩ (ps.zip us) → Vals vs us → sp vs H Q E →
    codeAny (model P w) A (.call (.ref f) ⟨us, []⟩) (CR CX0 outer P w H s Q E) s
theorem fng_by (F : Fun K x qual st f fd) (S : FnScope N ps (defScope st)) (hb : Body P w K mg base C f N qual st k noG d)
    (h : ∀ vs H Q E, sp vs H Q E → vs.length = ps.length ∧ tsOf K C d { nx := fun _ H' => Q .non H', rt := Q } (L2.start N vs) H) : FnG P w K mg base (k + 1) f fd ps sp := by
  obtain ⟨oc, od, kV, doc, pm, an, cdv, ct, osl, rfl, lk, hcd⟩ := F.ex
  refine ⟨fun vs H Q E q => (h vs H Q E q).1, fun A outer s H us vs Q E hg hr e0 hbi r q => ?_⟩
  obtain ⟨hlen, hq⟩ := h vs H Q E q
  have KX : K.In s.heap := e0.mod.kin.keeps fun b o z => (e0.bs b o z).1
  have nl : s.heap.NoLimit := e0.mod.nolimit.keeps fun b o z => (e0.bs b o z).1
  have kinds : ∀ y ∈ ps.zip us, (defScope st).names.lookup y.1 = some .local ∨ ((defScope st).names.lookup y.1 = some .cell ∧ ((cellsFrom (s.heap.objs.size + 1) (defScope st).names []).lookup y.1).isSome = true) := by
    rintro ⟨n, v⟩ hy
    exact (S.par n (List.of_mem_zip hy).1).imp id fun z => ⟨z, PySem.W.cellsFrom_some _ _ _ (.inl z)⟩
  refine codeAny_call_function hr.depth (KX _ _ lk) rfl S.co S.gen rfl (PySem.W.codeRec_of KX hcd) (hbi _ _ _ _ (wpAny_newFunctionEnv_cells S.kind kinds fun env henv s1 x => ?_))
  subst henv
  refine ⟨nl.keeps x.toInCall.keep, codeAny_func (wpAny_mono ((PSs.nox (hb cdv A outer s H E hg (hr.deeper _))).run [] s1 (L2.start N vs) H _ (inv_start S hr.hd e0 hlen r x) hq) (fun fl s' hs => ?_) fun er s' hs => hs)⟩
  have fin : ∀ {σ' : L2.St} {H' : Hp} {v : V} {u : Value}, Inv (cxOf CX0 P w K mg base N qual (defScope st) f cdv A outer s H E) [] σ' H' s' → RelV v u → Q v H' → CE outer P w H s Q u s' :=
    fun {σ' H' v u} J rv z => ⟨v, H', J.os, J.bare, J.base, J.hok, rv, z⟩
  cases fl with
  | next =>
    obtain ⟨σ', H', J, z⟩ := hs
    exact fin (v := V.non) (u := Value.none) J rfl z
  | ret u =>
    obtain ⟨v, σ', H', J, rv, z⟩ := hs
    exact fin J rv z
  | brk =>
    obtain ⟨_, _, _, z⟩ := hs
    exact z.elim
  | cont =>
    obtain ⟨_, _, _, z⟩ := hs
    exact z.elim
theorem fnDG (F : Fun K x qual st f fd) (S : FnScope N ps (defScope st)) (hb : Body P w K mg base C f N qual st k noG d) (h : WpD N.length ps.length d pre post) : FnG P w K mg base (k + 1) f fd ps (spD K C pre post) := fng_by F S hb fun _ _ _ _ q => bodyD h q
theorem fnKG (F : Fun K x qual st f fd) (S : FnScope N ps (defScope st)) (hb : Body P w K mg base C f N qual st k noG d) (h : WpK N.length ps.length d preK postK) : FnG P w K mg base (k + 1) f fd ps (spK K C preK postK) := fng_by F S hb fun _ _ _ _ q => bodyK h q
structure CalG (P : Program) (w : World) (K : PySem.W.Frag) (mg : Str → Option Value) (base : Heap) (x : Str) (k : Nat) (ps : List Str) (sp : Sp) : Prop where
  ex : ∃ f fd, FnG P w K mg base k f fd ps sp ∧ mg x = some (.ref f) ∧ PySem.W.keepIn K (.ref f) = true ∧ Binds K fd ps []
end
section
variable {X : Cx} {x : Str} {k : Nat} {ps : List Str} {sp : Sp} {e : Expr} {es : List Expr} {p pos : Pos}
theorem CallBy.ofG (F : CalG X.prog X.w X.K X.mg X.base x k ps sp) (hgd : X.A.guards = some []) (hr : Room k X.A) (hg : Gl X x := by rfl) (hdb : (x == ("__debug__" : Str)) = false := by decide) (he : starEach (e :: es) X.env = (false, eval e X.env) :: starEach es X.env := by rfl) (hpl : (backTo pos (starEach es X.env)).any (·.1) = false := by rfl) : CallBy X x (e :: es) p pos sp := fun t ha => by
  obtain ⟨f, fd, F, hm, hk, hb⟩ := F.ex
  refine ⟨fun pins s σ H Q I h => wpAny_Call_Name_kw (ld_glob I hg hm ?_ hdb)⟩
  refine PySem.W.callWith_K (h₀ := X.base) I.ok.mod.kin hk (thn (ha.run pos pins s σ H _ I h) fun us s1 z => ?_) he hpl
  obtain ⟨vs, H1, I1, r, q⟩ := z
  have q' : sp (vs ++ []) H1 Q E0 := q
  rw [List.append_nil] at q'
  have hl : us.length = ps.length := r.length.symm.trans (F.len _ _ _ _ q')
  have hb' := hb s1 us I1.kIn (by rw [List.append_nil]; exact hl)
  rw [List.append_nil] at hb'
  refine ⟨I1.kIn, wpAny_call (codeAny_mono (F.go X.A X.stack s1 H1 us vs Q E0 hgd hr I1.env0 hb' r q') fun res s' hq => ?_)⟩
  cases res with
  | error er => exact False.elim hq
  | ok fl => cases fl <;> first | exact I1.after hq | exact False.elim hq
end
end Dl

end
section
set_option Elab.async false
set_option linter.all false
set_option maxRecDepth 100000
set_option maxHeartbeats 4000000
set_option autoImplicit false
/-! The data layer: a call by keywords, repr, an instance made. -/
namespace Dl
open PySem PySem.Spec PyProof.Rows L2
open Evl (Ex)
theorem reprB_eq (a b : Bool) : reprB a b = "[" ++ (if a then ("True" : Str) else "False") ++ ", " ++ (if b then ("True" : Str) else "False") ++ "]" := by
  cases a <;> cases b <;> decide +kernel
structure CalS (P : Program) (w : World) (K : PySem.W.Frag) (mg : Str → Option Value) (base : Heap) (x : Str) (k : Nat) (p1 p2 : Str) (sp : Sp) : Prop where
  ex : ∃ f fd, FnOk P w K mg base CX0 k f fd [p1, p2] sp ∧ mg x = some (.ref f) ∧ PySem.W.keepIn K (.ref f) = true ∧ ∀ (u v : Value), bindArgs fd ⟨[], [(p2, u), (p1, v)]⟩ = pure [(p1, v), (p2, u)]
section
variable {X : Cx} {C : Addr} {a b e : Expr} {es : List Expr} {da db de : DTE} {dr : DTA} {pos p kp1 kp2 : Pos} {x : Str} {k : Nat} {ps : List Str} {pre : List Sl → Prop} {post : List Sl → D → Prop}
theorem pd_repr (hgd : X.A.guards = some []) (hr : Room 2 X.A) (hm : X.mg "repr" = none) (ha : PDe X C a da) (hg : Gl X "repr" := by rfl)
    (he : starEach [a] X.env = (false, eval a X.env) :: starEach [] X.env := by rfl) (hpl : (backTo pos (starEach [] X.env)).any (·.1) = false := by rfl) : PDe X C (.Call (.Name "repr" p) [a] [] pos) (dUn oReprB da) :=
  PE.weak (pe_callB (call_repr_bb hgd hr) hg hm (by decide +kernel) (pa_cons ha pa_nil he) (by decide) (by decide) he hpl) fun σ H Q h => by
    obtain ⟨E, G, δ, P, c, h, k⟩ := h
    refine ⟨E, G, δ, _, c, h, fun v N H1 s δ1 c1 s1 h1 => ?_⟩
    have fin : ∀ (d : D) (l : Addr) (xs : List V), v = .ref l → SqL X.K H1 l xs → (∃ ds, d = .list ds ∧ IsAll X.K N xs ds) → oReprB d (fun z => P (.im z) δ1) → ∃ p b c, [v] = [V.ref p] ∧ SqL X.K H1 p [.bl b, .bl c] ∧ Q (.str (reprB b c)) H1 := fun d l xs ev hs hd ho => by
      obtain ⟨ds, rfl, ia⟩ := hd
      match ds, ho with
      | [.bool b, .bool c], ho =>
        have e := IsAll.bools (ys := [b, c]) ia
        subst e
        refine ⟨l, b, c, by rw [ev], hs, ?_⟩
        have ho' : P (.im (.str ("[" ++ (if b then ("True" : Str) else "False") ++ ", " ++ (if c then ("True" : Str) else "False") ++ "]"))) δ1 := ho
        rw [← reprB_eq] at ho'
        exact k (.str (reprB b c)) N H1 (.im (.str (reprB b c))) δ1 c1 (Is.str _) ho'
    obtain ⟨d, ra, ho⟩ := rdW_out s1 h1
    rcases ra with ra | ⟨l, xs, ds, ed, ev, hl, ia⟩
    · cases d with
      | list ds => cases ra with | lst h2 ia => exact fin (.list ds) _ _ rfl (SqL.of (c1.gh _ _ h2)) ⟨ds, rfl, ia⟩ ho
      | _ => exact ho.elim
    · subst ed
      exact fin (.list ds) l xs ev (SqL.of hl) ⟨ds, rfl, ia⟩ ho
/-- f(p2 = a, p1 = b), the def's parameters being p1, p2 -/
theorem pd_callS {p1 p2 : Str} (F : CalS X.prog X.w X.K X.mg X.base x k p1 p2 (spD X.K C pre post)) (hr : Room k X.A) (ha : PDe X C a da) (hb : PDe X C b db) (hg : Gl X x := by rfl) (hdb : (x == ("__debug__" : Str)) = false := by decide) :
    PDe X C (.Call (.Name x p) [] [⟨some p2, a, kp1⟩, ⟨some p1, b, kp2⟩] pos) (dCallS pre post (dCons da (dCons db dNil))) := by
  refine PE.weak (t := fun σ H Q => tCons (teOf X.K C da) (tCons (teOf X.K C db) tNil) σ H fun vs H1 => ∃ v1 v2, vs = [v1, v2] ∧ spD X.K C pre post [v2, v1] H1 Q E0) ?_ fun σ H Q h => ?_
  · obtain ⟨f, fd, F, hm, hk, hbi⟩ := F.ex
    refine ⟨fun pins s σ H Q I h => wpAny_Call_Name_kw (ld_glob I hg hm ?_ hdb)⟩
    refine PySem.W.callWith_KW0 (h₀ := X.base) I.ok.mod.kin hk rfl (thn ((pk_cons (nm := some p2) ha (pk_cons (nm := some p1) hb pk_nil)).run pos pins s σ H _ I h) fun us s1 z => ?_) rfl
    obtain ⟨vs, H1, I1, r, v1, v2, rfl, q⟩ := z
    cases r with
    | cons r1 r =>
      cases r with
      | cons r2 r =>
        cases r
        rename_i u1 u2
        refine ⟨I1.kIn, wpAny_call (codeAny_mono (F.run X.A X.stack s1 H1 ⟨[], [(p2, u1), (p1, u2)]⟩ [u2, u1] [v2, v1] Q E0 hr I1.env0 (.of_eq (hbi u1 u2)) (.cons r2 (.cons r1 .nil)) q) fun res s' hq => ?_)⟩
        cases res with
        | error er => exact False.elim hq
        | ok fl => cases fl <;> first | exact I1.after hq | exact False.elim hq
  · obtain ⟨E, G, δ, P, c, h, kk⟩ := h
    refine ⟨E, G, δ, _, c, h, fun v1 N1 H1 t1 δ1 c1 s1 h1 => ?_⟩
    obtain ⟨hp1, h1⟩ := h1
    refine ⟨here E.F N1 H1 δ1, N1, δ1, _, c1.here, h1, fun v2 N2 H2 t2 δ2 c2 s2 h2 => ?_⟩
    obtain ⟨hp2, h2⟩ := h2
    obtain ⟨hpre, h3⟩ : pre [t2, t1] ∧ ∀ r, post [t2, t1] r → P (.im r) δ2 := h2
    exact ⟨v1, v2, rfl, N2, [t2, t1], c2.gh, .cons s2 (.cons (s1.pu hp1 c2.gg) .nil), hpre, fun v N3 H3 r hr xt ir => kk v N3 H3 (.im r) δ2 ((c1.trans c2).xt xt) ir (h3 r hr)⟩
end
/-! ### an instance made -/
/-- what the maker's def promises: the three fields -/
def initSp (K : PySem.W.Frag) (C : Addr) (pre : D → D → Prop) (u : D → D → D) : Sp := fun vs H Q _ => ∃ G x dx pv tv p t, vs = [.ref x, pv, tv] ∧ Ex G H ∧ G x = none ∧ H x = some (.ins C dx []) ∧ Is K G pv p ∧ Is K G tv t ∧ pre p t ∧
  ∀ N H2 v1 v2 v3, Ex G N → Ex N H2 → N x = none → (∀ b o, b ≠ x → H b = some o → H2 b = some o) → (∀ b, H2 b = none → H b = none) → (∀ b, N b ≠ none → G b ≠ none ∨ H b = none) → H2 x = some (.ins C dx [("heads", v1), ("roads", v2), ("pushed", v3)]) → Is K N v1 p → Is K N v2 t → Is K N v3 (u p t) → Q .non H2
structure CalM (P : Program) (w : World) (K : PySem.W.Frag) (mg : Str → Option Value) (base : Heap) (C : Addr) (x : Str) (k : Nat) (ps : List Str) (pre : D → D → Prop) (u : D → D → D) : Prop where
  ex : ∃ f fd, Mk K C f ∧ FnOk P w K mg base CX0 k f fd ps (initSp K C pre u) ∧ mg x = some (.ref C) ∧ Binds K fd ps []
section
variable {X : Cx} {C : Addr} {a b e : Expr} {es : List Expr} {da db de : DTE} {dr : DTA} {pos p : Pos} {x : Str} {k : Nat} {ps : List Str} {pre : D → D → Prop} {u : D → D → D}
theorem pd_make (F : CalM X.prog X.w X.K X.mg X.base C x k ps pre u) (hr : Room (k + 1) X.A) (ha : PDa X C (e :: es) dr) (hg : Gl X x := by rfl) (hdb : (x == ("__debug__" : Str)) = false := by decide)
    (he : starEach (e :: es) X.env = (false, eval e X.env) :: starEach es X.env := by rfl) (hpl : (backTo pos (starEach es X.env)).any (·.1) = false := by rfl) : PDe X C (.Call (.Name x p) (e :: es) [] pos) (dMake pre u dr) := by
  obtain ⟨f, fd, M, F, hm, hb⟩ := F.ex
  refine PE.weak (pe_make M F hr hg hm hb .nil pass0 ha hdb he hpl) fun σ H Q h => ?_
  obtain ⟨E, G, δ, P, c, h, kk⟩ := h
  refine ⟨E, G, δ, _, c, h, fun vs N H1 ss δ1 c1 s1 _ _ h1 y dx hy hdx ne => ?_⟩
  match ss, s1, h1 with
  | [.im p, .im t], s1, h1 =>
    obtain ⟨hp, h2⟩ := h1
    obtain ⟨pv, tv, rfl, sa, sb⟩ : ∃ pv tv, vs = [pv, tv] ∧ SIs X.K C N H1 pv (.im p) ∧ SIs X.K C N H1 tv (.im t) := by
      cases s1 with
      | cons sa r =>
        cases r with
        | cons sb r =>
          cases r
          exact ⟨_, _, rfl, sa, sb⟩
    have ny : N y = none := Ex.nn c1.gh hy
    have e1 : Ex N (upd (upd H1 dx (.own y)) y (.ins C dx [])) := fun b o hb => by
      have q1 : b ≠ y := fun q => by rw [q, ny] at hb; cases hb
      have q2 : b ≠ dx := fun q => by rw [q, Ex.nn c1.gh hdx] at hb; cases hb
      rw [upd_ne q1, upd_ne q2]
      exact c1.gh b o hb
    refine ⟨N, y, dx, pv, tv, p, t, rfl, e1, ny, upd_same, sa, sb, hp, fun N2 H2 v1 v2 v3 g1 g2 g3 g4 g5 g6 hx i1 i2 i3 => ⟨rfl, ?_⟩⟩
    have keep : ∀ b o, H1 b = some o → H2 b = some o := fun b o hb => by
      have q1 : b ≠ y := fun q => by rw [q, hy] at hb; cases hb
      have q2 : b ≠ dx := fun q => by rw [q, hdx] at hb; cases hb
      exact g4 b o q1 (by rw [upd_ne q1, upd_ne q2]; exact hb)
    have g7 : Ex N2 (upd N2 y (.ins C dx [("heads", v1), ("roads", v2), ("pushed", v3)])) := Ex.new g3
    have xt : XT N H1 (upd N2 y (.ins C dx [("heads", v1), ("roads", v2), ("pushed", v3)])) H2 := ⟨g1.trans g7, fun b o hb => by
      by_cases q : b = y
      · subst q; rw [upd_same] at hb; rw [← hb]; exact hx
      · rw [upd_ne q] at hb; exact g2 b o hb, fun b o hb => keep b o hb, fun b hb => by
      by_cases q : b = y
      · subst q; exact .inr hy
      · rw [upd_ne q] at hb
        rcases g6 b hb with z | z
        · exact .inl z
        · right
          rw [upd_ne q] at z
          by_cases q2 : b = dx
          · subst q2; exact hdx
          · rw [upd_ne q2] at z; exact z⟩
    exact kk (.ref y) _ H2 (.wk p t (u p t)) δ1 (c1.xt xt) ⟨y, dx, v1, v2, v3, rfl, upd_same, Is.mono g7 _ _ i1, Is.mono g7 _ _ i2, Is.mono g7 _ _ i3⟩ h2
end
end Dl

end
section
set_option Elab.async false
set_option linter.all false
set_option maxRecDepth 100000
set_option maxHeartbeats 4000000
set_option autoImplicit false
/-! The text by places; what the top has left. -/
namespace Dl
open PySem PySem.Spec PyProof.Rows L2
open Evl (Ex)
theorem hu64_of {A : Around} {k : Nat} (hr : Room k A) : A.units + 64 < cLine := by
  have := hr.un
  omega
theorem hu65_of {A : Around} {k : Nat} (hr : Room k A) : A.units + 65 < cLine := by
  have := hr.un
  omega
/-- a global that is data -/
def DataAt (K : PySem.W.Frag) (mg : Str → Option Value) (x : Str) (d : D) : Prop := ∃ u v, mg x = some u ∧ RelV v u ∧ ∀ G, Is K G v d
structure Tx (K : PySem.W.Frag) (mg : Str → Option Value) (C : Addr) : Prop where
  len : mg "len" = none
  range : mg "range" = none
  enumerate : mg "enumerate" = none
  zip : mg "zip" = none
  isinstance : mg "isinstance" = none
  int : mg "int" = none
  bool : mg "bool" = none
  str : mg "str" = none
  tuple : mg "tuple" = none
  list : mg "list" = none
  abs : mg "abs" = none
  all : mg "all" = none
  any : mg "any" = none
  sum : mg "sum" = none
  max : mg "max" = none
  min : mg "min" = none
  divmod : mg "divmod" = none
  repr : mg "repr" = none
  d_NOUGHT : DataAt K mg "NOUGHT" (.tuple [.int 0, .int 1])
  d_ONE : DataAt K mg "ONE" (.tuple [.int 1, .int 1])
  d_MOST_PARTS : DataAt K mg "MOST_PARTS" (.int 8)
  d_MOST_STRENGTH : DataAt K mg "MOST_STRENGTH" (.int 1000000)
  d_LONGEST_NAME : DataAt K mg "LONGEST_NAME" (.int 8)
  d_LETTERS : DataAt K mg "LETTERS" (.str "abcdefghijklmnopqrstuvwxyz")
  d_DIGITS : DataAt K mg "DIGITS" (.str "0123456789")
section
variable {X : Cx} {C : Addr} {pos : Pos}
theorem pd_data {x : Str} {d : D} (h : DataAt X.K X.mg x d) (hg : Gl X x) (hd : (x == ("__debug__" : Str)) = false := by decide) : PDe X C (.Name x pos) (dC d) := by
  obtain ⟨u, v, hm, r, hi⟩ := h
  exact pd_glob hm r hi hg hd
theorem Tx.c_NOUGHT (T : Tx X.K X.mg C) (hg : Gl X "NOUGHT") : PDe X C (.Name "NOUGHT" pos) (dC (.tuple [.int 0, .int 1])) := pd_data T.d_NOUGHT hg
theorem Tx.c_ONE (T : Tx X.K X.mg C) (hg : Gl X "ONE") : PDe X C (.Name "ONE" pos) (dC (.tuple [.int 1, .int 1])) := pd_data T.d_ONE hg
theorem Tx.c_MOST_PARTS (T : Tx X.K X.mg C) (hg : Gl X "MOST_PARTS") : PDe X C (.Name "MOST_PARTS" pos) (dC (.int 8)) := pd_data T.d_MOST_PARTS hg
theorem Tx.c_MOST_STRENGTH (T : Tx X.K X.mg C) (hg : Gl X "MOST_STRENGTH") : PDe X C (.Name "MOST_STRENGTH" pos) (dC (.int 1000000)) := pd_data T.d_MOST_STRENGTH hg
theorem Tx.c_LONGEST_NAME (T : Tx X.K X.mg C) (hg : Gl X "LONGEST_NAME") : PDe X C (.Name "LONGEST_NAME" pos) (dC (.int 8)) := pd_data T.d_LONGEST_NAME hg
theorem Tx.c_LETTERS (T : Tx X.K X.mg C) (hg : Gl X "LETTERS") : PDe X C (.Name "LETTERS" pos) (dC (.str "abcdefghijklmnopqrstuvwxyz")) := pd_data T.d_LETTERS hg
theorem Tx.c_DIGITS (T : Tx X.K X.mg C) (hg : Gl X "DIGITS") : PDe X C (.Name "DIGITS" pos) (dC (.str "0123456789")) := pd_data T.d_DIGITS hg
theorem pdi_chars {tg a : Expr} {da : DTE} (ha : PDe X C a da) : PDi X C tg a (iChars da) := PI.weak (pi_str ha) fun σ H R h => by
  obtain ⟨E, G, δ, P, c, h, k⟩ := h
  refine ⟨E, G, δ, _, c, h, fun v N H1 s δ1 c1 s1 h1 => ?_⟩
  cases s <;> try exact h1.elim
  rename_i d
  cases d <;> try exact h1.elim
  rename_i z
  cases s1
  have el : (charsD z).length = z.cps.size := by
    unfold charsD
    rw [List.length_map, Array.length_toList]
  refine ⟨z, rfl, k _ N H1 _ δ1 c1 ⟨fun i H e hi => ?_, fun H e => ?_, fun i H x H' e hi y G ng gh => ?_⟩ h1⟩
  · rw [el] at hi; exact hi
  · rw [el]; exact Nat.le_refl _
  · rw [el] at hi
    obtain ⟨e1, q, hq, e2⟩ := y
    subst e1 e2
    refine ⟨G, _, XT.refl gh, ?_, .str _⟩
    unfold charsD
    rw [List.getElem?_map, Array.getElem?_toList, hq]
    rfl
/-- x, y = a, b where a name of the two is shared with a block -/
theorem pds_parC {a b : Expr} {dr : DTA} {x y : Str} (i j : Nat) {px py pt : Pos} {kt k2 pt2} (hc : X.calm = true) (hN : X.N.Nodup) (ha : PDa X C [a, b] dr) (hij : i ≠ j := by decide) (hi : X.N[i]? = some x := by rfl) (hj : X.N[j]? = some y := by rfl)
    (hx : Loc X.env.scope x := by first | exact .inl rfl | exact .inr rfl) (hy : Loc X.env.scope y := by first | exact .inl rfl | exact .inr rfl) (fx : X.fn x = true ∨ X.env.scope.names.lookup x = some .local := by first | exact .inl rfl | exact .inr rfl) (fy : X.fn y = true ∨ X.env.scope.names.lookup y = some .local := by first | exact .inl rfl | exact .inr rfl)
    (hw : swappedStores [.Tuple [.Name x px, .Name y py] kt pt] (.Tuple [a, b] k2 pt2) X.env = pure none := by rfl)
    (hs : swapsWithSole [.Tuple [.Name x px, .Name y py] kt pt] (.Tuple [a, b] k2 pt2) pos.line X.env = pure false := by rfl) (h1 : (assignEach [.Tuple [.Name x px, .Name y py] kt pt] X.env).map (·.2) = [assign (.Tuple [.Name x px, .Name y py] kt pt) X.env] := by rfl)
    (hn : (assignEach [.Name x px, .Name y py] X.env).length = 2 := by rfl) (hst : (assignEach [.Name x px, .Name y py] X.env).findIdx? (·.1) = none := by rfl)
    (g1 : (assignEach [.Name x px, .Name y py] X.env).map (·.2) = assign (.Name x px) X.env :: (assignEach [.Name y py] X.env).map (·.2) := by rfl) (g2 : (assignEach [.Name y py] X.env).map (·.2) = assign (.Name y py) X.env :: (assignEach [] X.env).map (·.2) := by rfl) :
    PDs X C (.Assign [.Tuple [.Name x px, .Name y py] kt pt] (.Tuple [a, b] k2 pt2) pos) (dPar i j dr) :=
  PS.weak (ps_asg (pe_tup ha) (pg_tup hc (pgs_cons (pg_name hN hi hx fx) (pgs_cons (pg_name hN hj hy fy) pgs_nil g2) g1) hn hst) hs hw h1) fun D σ H h => by
    obtain ⟨E, G, δ, n, c, sf, h, k1, k2, k3, k4⟩ := h
    refine ⟨E, G, δ, _, c, h, fun vs N H1 ss δ1 c1 s1 fr pw h1 => ?_⟩
    obtain ⟨s, t, rfl, h1⟩ := h1
    cases s1 with
    | cons sa r =>
      cases r with
      | cons sb r =>
        cases r
        rename_i v1 v2
        refine ⟨by show 2 ≤ sizeLine; decide, fun p hp => ?_⟩
        have c2 := c1.xt (XT.hid (o := .tup [v1, v2]) c1.gh hp)
        have x2 : XT N H1 N (upd H1 p (.tup [v1, v2])) := XT.hid c1.gh hp
        refine ⟨p, [v1, v2], rfl, SqT.of upd_same, rfl, v1, [v2], rfl, v2, [], rfl, rfl, k1 _ _ N _ h1 (Cfg.puts (Cfg.puts c2 i (sa.xt x2) (fr s (by simp))) j (sb.xt x2) fun b hb => ⟨(fr t (by simp) b hb).1, (fr t (by simp) b hb).2.1, fun ⟨q, hq, hbq⟩ => ?_⟩)⟩
        rcases List.mem_or_eq_of_mem_set hq with z | z
        · exact (fr t (by simp) b hb).2.2 ⟨q, z, hbq⟩
        · subst z
          exact (List.rel_of_pairwise_cons pw (a' := t) (by simp)) b hbq hb
end
end Dl

end
section
set_option Elab.async false
set_option linter.all false
set_option maxRecDepth 100000
set_option maxHeartbeats 4000000
set_option autoImplicit false
/-! The law's call from behind the top, where no repr is under way. -/
namespace Dl
open PySem PySem.Spec PyProof.Rows L2
/-- a heap of which at most the script is told -/
theorem script_heap {P : Program} {w : World} {K : PySem.W.Frag} {a : Addr} {s : Shared} {vs : List Value} {ns : List Int} (KX : K.In s.heap) (ha : s.heap.get? a = some { cls := .type "list", data := .seq vs.toArray }) (hi : IntsAre vs ns) (hl : ns.length ≤ sizeLine) :
    ∃ H : Hp, Only H ∧ SqL K H a (ns.map V.int) ∧ HOk P w H s.heap ∧ (∀ b, H b ≠ none → b = a) ∧ (H a ≠ none → K.lookup a = none) := by
  have rv := vals_ints hi
  have ln := hi.length
  cases hk : K.lookup a with
  | some o =>
    have e := KX a o hk
    rw [ha] at e
    cases e
    exact ⟨fun _ => none, fun _ => .inl rfl, .inr ⟨_, vs.toArray, _, hk, rfl, rfl, rfl, by rw [List.size_toArray, ln]; exact hl, by simpa using rv⟩, fun b u z => (nomatch (show (none : Option HO) = some u from z)), fun b z => (z rfl).elim, fun z => (z rfl).elim⟩
  | none =>
    have at_ : ∀ b u, (if b = a then some (HO.frz { cls := .type "list", data := .seq vs.toArray } (.lst (ns.map V.int))) else none) = some u → b = a ∧ HO.frz { cls := .type "list", data := .seq vs.toArray } (.lst (ns.map V.int)) = u := fun b u z => by
      by_cases q : b = a
      · rw [if_pos q] at z; exact ⟨q, Option.some.inj z⟩
      · rw [if_neg q] at z; cases z
    refine ⟨fun b => if b = a then some (.frz { cls := .type "list", data := .seq vs.toArray } (.lst (ns.map V.int))) else none, fun b => ?_, .inl (.inr ⟨_, if_pos rfl⟩), fun b u z => ?_, fun b z => ?_, fun _ => rfl⟩
    · by_cases q : b = a
      · exact .inr ⟨_, _, if_pos q⟩
      · exact .inl (if_neg q)
    · obtain ⟨rfl, rfl⟩ := at_ b u z
      exact ⟨ha, by rw [List.length_map]; exact hl, vs, _, rv, ha⟩
    · cases q : (if b = a then some (HO.frz { cls := .type "list", data := .seq vs.toArray } (.lst (ns.map V.int))) else none) with
      | none => exact (z q).elim
      | some u => exact (at_ b u q).1
theorem law_callG {P : Program} {w : World} {K : PySem.W.Frag} {mg mb : Str → Option Value} {k : Nat} {fa a : Addr} {fd : FuncData} {x : Str} {sp : Sp} {s : Shared} {vs : List Value} {ns : List Int}
    (KX : K.In s.heap) (hns : s.heap.Ns mainGlobals mg) (hb : s.heap.Ns builtinsNs mb) (hbb : ∀ x : Str, x ≠ "__name__" → mb x = bootBuiltins x) (hlim : s.heap.NoLimit) (hgen : s.gens = #[])
    (ha : s.heap.get? a = some { cls := .type "list", data := .seq vs.toArray }) (hi : IntsAre vs ns) (hl : ns.length ≤ sizeLine) (hr : Room k callerA)
    (F : ∀ base : Heap, K.In base → base.Ns mainGlobals mg → FnG P w K mg base k fa fd [x] sp) (hbind : ∀ (s : Shared) (u : Value), BindsTo s fd ⟨[u], []⟩ [(x, u)])
    (hsp : ∀ H : Hp, Only H → SqL K H a (ns.map V.int) → sp [.ref a] H (fun v _ => v = .bl true) E0) :
    codeAny (model P w) callerA (.call (.ref fa) ⟨[.ref a], []⟩) (fun r s' => r = .ok (.ret (.bool true)) ∧ OldK s.heap s'.heap ∧ s'.os = s.os ∧ AllBare s'.gens) s := by
  obtain ⟨H, hO, hS, hok, hA, hK⟩ := script_heap (P := P) (w := w) KX ha hi hl
  have free : ∀ {b : Addr} {o : Obj}, K.lookup b = some o → H b = none := fun {b o} e => by
    cases q : H b with
    | none => rfl
    | some u =>
      have eb := hA b (by rw [q]; exact fun z => nomatch z)
      subst eb
      rw [hK (by rw [q]; exact fun z => nomatch z)] at e
      cases e
  have dictFree : ∀ {b : Addr} {o : Obj} {es : Array DictEntry} {ep : Nat}, s.heap.get? b = some o → o.data = .dict es ep → H b = none := fun {b o es ep} e d => by
    cases q : H b with
    | none => rfl
    | some u =>
      have eb := hA b (by rw [q]; exact fun z => nomatch z)
      subst eb
      rw [ha] at e
      cases e
      exact (nomatch (show Data.seq vs.toArray _ = Data.dict es ep from d))
  have toBase : ∀ {b : Addr} {m : Str → Option Value}, s.heap.Ns b m → (hidT s.heap H).Ns b m := fun ⟨o, es, ep, e, d, r⟩ => ⟨o, es, ep, hidT_get e (dictFree e d), d, r⟩
  have inBase : K.In (hidT s.heap H) := fun b o e => hidT_get (KX b o e) (free e)
  obtain ⟨mc, l1, l2⟩ := id hlim
  have e0 : Env0 P w K mg (hidT s.heap H) callerA [] s H := ⟨rfl, ⟨inBase, toBase hns, ⟨mb, toBase hb, hbb⟩, ⟨mc, toBase l1, l2⟩⟩, fun b o e => of_hidT e, Nat.le_of_eq (hidT_size _ _), trivial, fun b z => (nomatch (show b ∈ ([] : List Addr) from z)), hok, .of_eq hgen⟩
  refine codeAny_mono ((F _ inBase (toBase hns)).go callerA [] s H [.ref a] [.ref a] _ E0 rfl hr e0 (hbind s (.ref a)) (.cons rfl .nil) (hsp H hO hS)) fun res s' hq => ?_
  cases res with
  | error er => exact False.elim hq
  | ok fl =>
    cases fl with
    | ret u =>
      obtain ⟨v, H', os, bare, un, hok', rv, ev⟩ := hq
      have ev' : v = .bl true := ev
      subst ev'
      obtain rfl : u = Value.bool true := rv
      refine ⟨rfl, OldK.of_keep fun b o e => ?_, os, bare⟩
      rcases hO b with z | ⟨ob, xs, z⟩
      · exact un.keep b o e z (fun q => (nomatch (show b ∈ ([] : List Addr) from q))) (by simp)
      · obtain ⟨e1, _⟩ := hok b _ z
        obtain ⟨e2, _⟩ := hok' b _ (un.frzs b ob _ z)
        rw [e] at e1
        rw [Option.some.inj e1]
        exact e2
    | next => exact False.elim hq
    | brk => exact False.elim hq
    | cont => exact False.elim hq
theorem walk_ofG {l : PySem.W.OpenLaw} {n k : Nat} {q : Program} {loose : List Str} {XP : (Str → Option Value) → Heap → Prop} {YP : World → Heap → Prop} {d : DefRec} {x : Str}
    (hn : l.most = some n) (hn2 : n ≤ sizeLine) (hdf : d.params.defaults = []) (hr : Room k callerA)
    (F : ∀ (w : World) (mg : Str → Option Value) (fa : Addr) (h : Heap), YP w h → h.Ns mainGlobals mg → mg d.name = some (.ref fa) →
      ∃ (K : PySem.W.Frag) (fd : FuncData) (sp : Sp), K.In h ∧ (∀ (s : Shared) (u : Value), BindsTo s fd ⟨[u], []⟩ [(x, u)]) ∧
        (∀ (H : Hp) (a : Addr) (ns : List Int), ns.length ≤ n → (∀ z ∈ ns, Builtin.Int.intBits z ≤ 1048576) → SqL K H a (ns.map V.int) → sp [.ref a] H (fun v _ => v = .bl true) E0) ∧
        ∀ base : Heap, K.In base → base.Ns mainGlobals mg → FnG l.prog w K mg base k fa fd [x] sp) :
    PySem.W.WalkO q loose XP YP l.row.toRowW d [] (fun f vs => PySem.call f vs) := by
  refine Att.attach_callB hn hdf fun w s0 s1 mg mb fa o pm cd doc a vs ns Gr Y ho hd hcd hmg hobj hints hlen hbits hgen => ?_
  obtain ⟨K, fd, sp, KX, hb, hsp, hF⟩ := F w mg fa _ Y Gr.T.g hmg
  exact law_callG KX Gr.T.g Gr.T.b Gr.T.builtins Gr.T.nolimit hgen hobj hints (Nat.le_trans hlen hn2) hr hF hb fun H _ hS => hsp H a ns hlen hbits hS
end Dl

end
section
set_option Elab.async false
set_option linter.all false
set_option maxRecDepth 100000
set_option autoImplicit false
/-! What each def is asked and what it answers, over data. -/
namespace Dl
open PySem
/-! ### data -/
def crewD (c : List Str) : D := .tuple (c.map PyData.str)
def roadD (r : Str × Str) : D := .tuple [.str r.1, .str r.2]
def roadsD (rs : List (Str × Str)) : D := .tuple (rs.map roadD)
def rowD (r : List Int) : D := .tuple (r.map PyData.int)
def rowL (r : List Int) : D := .list (r.map PyData.int)
def tabD (t : List (List Int)) : D := .tuple (t.map rowD)
def spotsD (s : List Nat) : D := .list (s.map fun i => PyData.int (i : Nat))
def fr (q : Rat) : D := .tuple [.int q.num, .int q.den]
def frsD (s : List Rat) : D := .tuple (s.map fr)
def frsL (s : List Rat) : D := .list (s.map fr)
def names14 : List Str := ["a", "b", "c", "d", "e", "f", "m1", "z", "x9", "pump", "q0q0q0q0", "aa", "ab", "n"]
/-! ### works -/
structure CrewOk (c : List Str) : Prop where
  two : 2 ≤ c.length
  five : c.length ≤ 5
  nd : c.Nodup
  sub : ∀ x ∈ c, x ∈ names14
structure RoadsOk (c : List Str) (rs : List (Str × Str)) : Prop where
  nd : rs.Nodup
  one : ∀ r ∈ rs, r.1 ∈ c
  two : ∀ r ∈ rs, r.2 ∈ c
  ne : ∀ r ∈ rs, r.1 ≠ r.2
structure HeadsOk (c hs : List Str) : Prop where
  nd : hs.Nodup
  sub : ∀ x ∈ hs, x ∈ c
def pageOf (c : List Str) (rs : List (Str × Str)) : Str := Txt.join "\n" (Txt.join " " c :: rs.map fun r => r.1 ++ " > " ++ r.2)
def pushIdx (c : List Str) (rs : List (Str × Str)) (one : Str) : List Nat := (List.range c.length).filter fun i => decide ((one, c.getD i "") ∈ rs)
def pushD (c : List Str) (rs : List (Str × Str)) : D := .tuple (c.map fun one => .tuple ((pushIdx c rs one).map fun i => .int (i : Nat)))
def strOf : D → Str
  | .str x => x
  | _ => ""
def strsOf : D → List Str
  | .tuple ds => ds.map strOf
  | _ => []
def pairOf : D → Str × Str
  | .tuple [.str x, .str y] => (x, y)
  | _ => ("", "")
def pairsOf : D → List (Str × Str)
  | .tuple ds => ds.map pairOf
  | _ => []
def wkS (c : List Str) (rs : List (Str × Str)) : Sl := .wk (crewD c) (roadsD rs) (pushD c rs)
def spots (c hs : List Str) : List Nat := hs.map fun x => c.idxOf x
def preWorks (p t : D) : Prop := ∃ c rs, CrewOk c ∧ RoadsOk c rs ∧ p = crewD c ∧ t = roadsD rs
def mkPushed (p t : D) : D := pushD (strsOf p) (pairsOf t)
/-! ### strengths -/
def Sq {α : Type} (n : Nat) (t : List (List α)) : Prop := t.length = n ∧ ∀ r ∈ t, r.length = n
def ent (t : List (List Int)) (i j : Nat) : Int := (t.getD i []).getD j 0
structure StrongRow (c : List Str) (rs : List (Str × Str)) (i : Nat) (r : List Int) : Prop where
  within : ∀ x ∈ r, -1000000 ≤ x ∧ x ≤ 1000000
  tied : ∀ j, j < c.length → j = i ∨ (r.getD j 0 ≠ 0 ↔ (c.getD j "", c.getD i "") ∈ rs)
def Strong (c : List Str) (rs : List (Str × Str)) (t : List (List Int)) : Prop := ∀ i, i < t.length → StrongRow c rs i (t.getD i [])
def dotI (a b : List Int) : Int := (List.zipWith (· * ·) a b).sum
def colI (t : List (List Int)) (j : Nat) : List Int := t.map fun r => r.getD j 0
structure BarOk (t : List (List Int)) (sp : List Nat) (line : List Int) (ratio : Int) : Prop where
  some : ∃ x ∈ line, x ≠ 0
  off : ∀ i ∈ sp, line.getD i 0 = 0
  eig : ∀ j, j < line.length → dotI line (colI t j) = ratio * line.getD j 0
/-! ### rationals -/
def Bz (b : Nat) (z : Int) : Prop := z.natAbs < 2 ^ b
def Bd (b : Nat) (q : Rat) : Prop := Bz b q.num ∧ q.den < 2 ^ b
def FrM (M b : Nat) (q : Rat) : Prop := ∃ k : Int, q = (k : Rat) / (M : Rat) ∧ Bz b k
def dotR (a b : List Rat) : Rat := (List.zipWith (· * ·) a b).sum
def toR (r : List Int) : List Rat := r.map fun x : Int => (x : Rat)
/-- rows that share one denominator each -/
def RowB (b : Nat) (r : List Rat) : Prop := ∃ M : Nat, 0 < M ∧ M < 2 ^ b ∧ ∀ q ∈ r, ∃ k : Int, q = (k : Rat) / (M : Rat) ∧ Bz b k
def KerT (n : Nat) (rows : List (List Rat)) : Prop := ∀ x : List Rat, x.length = n → (∀ r ∈ rows, dotR r x = 0) → ∀ q ∈ x, q = 0
/-- the vectors that the pushes of s reach: A^d e_s, d < n -/
def stepI (t : List (List Int)) (x : List Int) : List Int := t.map fun r => dotI r x
def unitI (n s : Nat) : List Int := (List.range n).map fun k => if k = s then 1 else 0
def iterI (t : List (List Int)) : Nat → List Int → List Int
  | 0, x => x
  | d + 1, x => iterI t d (stepI t x)
def reachI (t : List (List Int)) (n : Nat) (sp : List Nat) : List (List Int) := sp.flatMap fun s => (List.range n).map fun d => iterI t d (unitI n s)
def Full (t : List (List Int)) (n : Nat) (sp : List Nat) : Prop := KerT n ((reachI t n sp).map toR)
/-! ### days -/
def dayR (t : List (List Int)) (sp : List Nat) (s p : List Rat) : List Rat := (sp.zip p).foldl (fun f ip => f.set ip.1 (f.getD ip.1 0 + ip.2)) (t.map fun r => dotR (toR r) s)
def runR (t : List (List Int)) (sp : List Nat) (s : List Rat) (ps : List (List Rat)) : List Rat := ps.foldl (dayR t sp) s
def Mday : Nat := 1000000000000000009
def StateB (b : Nat) (s : List Rat) : Prop := ∀ q ∈ s, FrM Mday b q
/-! ### claims -/
inductive Cl where
  | bar (c : List Str) (rs : List (Str × Str)) (hs : List Str) (t : List (List Int)) (line : List Int) (ratio : Int)
  | any (c : List Str) (rs : List (Str × Str)) (hs : List Str) (t : List (List Int))
  | way (c : List Str) (rs : List (Str × Str)) (hs : List Str) (t : List (List Int)) (first last : List Rat) (ps : List (List Rat))
def Cl.said : Cl → D
  | .bar c rs hs _ _ _ => .tuple [.str "not always", .str (pageOf c rs), crewD hs]
  | .any c rs hs _ => .tuple [.str "sometimes", .str (pageOf c rs), crewD hs]
  | .way c rs hs t first last _ => .tuple [.str "leads", .str (pageOf c rs), tabD t, crewD hs, frsD first, frsD last]
def Cl.paper : Cl → D
  | .bar _ _ _ t line ratio => .tuple [tabD t, .tuple [rowD line, .int ratio]]
  | .any _ _ _ t => tabD t
  | .way _ _ _ _ _ _ ps => .tuple (ps.map frsD)
def TabB (b : Nat) (t : List (List Int)) : Prop := ∀ r ∈ t, ∀ x ∈ r, Bz b x
def Cl.ok : Cl → Prop
  | .bar c rs hs t line ratio => CrewOk c ∧ RoadsOk c rs ∧ HeadsOk c hs ∧ Sq c.length t ∧ line.length = c.length ∧ TabB 64 t ∧ (∀ x ∈ line, Bz 1000 x) ∧ Bz 1000 ratio
  | .any c rs hs t => CrewOk c ∧ RoadsOk c rs ∧ HeadsOk c hs ∧ Sq c.length t ∧ TabB 21 t
  | .way c rs hs t first last ps => CrewOk c ∧ RoadsOk c rs ∧ HeadsOk c hs ∧ Sq c.length t ∧ first.length = c.length ∧ last.length = c.length ∧ ps.length ≤ 20 ∧ (∀ p ∈ ps, p.length = hs.length) ∧ StateB 61 first ∧ StateB 3000 last ∧ (∀ p ∈ ps, StateB 61 p) ∧ TabB 64 t ∧ (ps = [] ∨ TabB 3 t)
def Cl.ans : Cl → Prop
  | .bar c rs hs t line ratio => Strong c rs t ∧ BarOk t (spots c hs) line ratio
  | .any c rs hs t => Strong c rs t ∧ Full t c.length (spots c hs)
  | .way c rs hs t first last ps => Strong c rs t ∧ runR t (spots c hs) first ps = last
/-! ### the program's defs -/
def isB (r : D) (p : Prop) : Prop := ∃ b, r = .bool b ∧ (b = true ↔ p)
def pre_is_integer (as : List Sl) : Prop := ∃ i, as = [.im (.int i)]
def post_is_integer (_ : List Sl) (r : D) : Prop := r = .bool true
def pre_is_within (as : List Sl) : Prop := ∃ v l m, as = [.im (.int v), .im (.int l), .im (.int m)]
def post_is_within (as : List Sl) (r : D) : Prop := ∀ v l m, as = [.im (.int v), .im (.int l), .im (.int m)] → r = .bool (decide (l ≤ v) && decide (v ≤ m))
def pre_is_name (as : List Sl) : Prop := ∃ z, z ∈ names14 ∧ as = [.im (.str z)]
def post_is_name (_ : List Sl) (r : D) : Prop := r = .bool true
def pre_wrong_part (as : List Sl) : Prop := ∃ c, CrewOk c ∧ as = [.im (crewD c)]
def post_wrong_part (_ : List Sl) (r : D) : Prop := r = .tuple []
def pre_is_pair (as : List Sl) : Prop := ∃ (c : List Str) (r : Str × Str), CrewOk c ∧ r.1 ∈ c ∧ r.2 ∈ c ∧ r.1 ≠ r.2 ∧ as = [.im (crewD c), .im (roadD r)]
def post_is_pair (_ : List Sl) (r : D) : Prop := r = .bool true
def pre_wrong_tie (as : List Sl) : Prop := ∃ c rs, CrewOk c ∧ RoadsOk c rs ∧ as = [.im (crewD c), .im (roadsD rs)]
def post_wrong_tie (_ : List Sl) (r : D) : Prop := r = .tuple []
def pre_read_works (as : List Sl) : Prop := ∃ c rs, CrewOk c ∧ RoadsOk c rs ∧ as = [.im (.str (pageOf c rs))]
def post_read_works (as : List Sl) (r : D) : Prop := ∀ c rs, CrewOk c → RoadsOk c rs → as = [.im (.str (pageOf c rs))] → r = .tuple [crewD c, roadsD rs]
def pre_wrong_leader (as : List Sl) : Prop := ∃ c hs, CrewOk c ∧ HeadsOk c hs ∧ as = [.im (crewD c), .im (crewD hs)]
def post_wrong_leader (_ : List Sl) (r : D) : Prop := r = .tuple []
def pre_is_strong_row (as : List Sl) : Prop := ∃ c rs i v, CrewOk c ∧ RoadsOk c rs ∧ i < c.length ∧ v.length = c.length ∧ as = [wkS c rs, .im (.int (i : Nat)), .im (rowD v)]
def post_is_strong_row (as : List Sl) (r : D) : Prop := ∀ c rs i v, CrewOk c → RoadsOk c rs → i < c.length → v.length = c.length → as = [wkS c rs, .im (.int (i : Nat)), .im (rowD v)] → isB r (StrongRow c rs i v)
def pre_wrong_row (as : List Sl) : Prop := ∃ c rs t, CrewOk c ∧ RoadsOk c rs ∧ Sq c.length t ∧ as = [wkS c rs, .im (tabD t)]
def post_wrong_row (as : List Sl) (r : D) : Prop := ∀ c rs t, CrewOk c → RoadsOk c rs → Sq c.length t → as = [wkS c rs, .im (tabD t)] → (Strong c rs t ∧ r = .tuple []) ∨ (¬ Strong c rs t ∧ ∃ i, r = .tuple [.int i])
def pre_is_bar_row (as : List Sl) : Prop := ∃ n t sp line ratio, n ≤ 5 ∧ Sq n t ∧ line.length = n ∧ TabB 64 t ∧ (∀ x ∈ line, Bz 1000 x) ∧ Bz 1000 ratio ∧ (∀ i ∈ sp, i < n) ∧ sp.length ≤ 5 ∧ as = [.im (tabD t), .im (spotsD sp), .im (.tuple [rowD line, .int ratio])]
def post_is_bar_row (as : List Sl) (r : D) : Prop := ∀ n t sp line ratio, Sq n t → line.length = n → (∀ i ∈ sp, i < n) → as = [.im (tabD t), .im (spotsD sp), .im (.tuple [rowD line, .int ratio])] → isB r (BarOk t sp line ratio)
def pre_reduced (as : List Sl) : Prop := ∃ a b, 0 < b ∧ Bz 8900 a ∧ Bz 8900 b ∧ as = [.im (.int a), .im (.int b)]
def post_reduced (as : List Sl) (r : D) : Prop := ∀ a b, 0 < b → as = [.im (.int a), .im (.int b)] → r = fr ((a : Rat) / (b : Rat))
def pre_plus (as : List Sl) : Prop := ∃ p q, Bd 4400 p ∧ Bd 4400 q ∧ as = [.im (fr p), .im (fr q)]
def post_plus (as : List Sl) (r : D) : Prop := ∀ p q, as = [.im (fr p), .im (fr q)] → r = fr (p + q)
def pre_minus (as : List Sl) : Prop := pre_plus as
def post_minus (as : List Sl) (r : D) : Prop := ∀ p q, as = [.im (fr p), .im (fr q)] → r = fr (p - q)
def pre_times (as : List Sl) : Prop := pre_plus as
def post_times (as : List Sl) (r : D) : Prop := ∀ p q, as = [.im (fr p), .im (fr q)] → r = fr (p * q)
def pre_over (as : List Sl) : Prop := ∃ p q, Bd 4400 p ∧ Bd 4400 q ∧ q ≠ 0 ∧ as = [.im (fr p), .im (fr q)]
def post_over (as : List Sl) (r : D) : Prop := ∀ p q, as = [.im (fr p), .im (fr q)] → r = fr (p / q)
def pre_is_fraction (as : List Sl) : Prop := ∃ q, Bd 4400 q ∧ as = [.im (fr q)]
def post_is_fraction (_ : List Sl) (r : D) : Prop := r = .bool true
def isFrs (d : D) (s : List Rat) : Prop := d = frsD s ∨ d = frsL s
def pre_product_sum (as : List Sl) : Prop := ∃ x y xs ys M, isFrs x (toR xs) ∧ isFrs y ys ∧ xs.length = ys.length ∧ xs.length ≤ 5 ∧ 0 < M ∧ M < 2 ^ 64 ∧ (∀ z ∈ xs, Bz 200 z) ∧ (∀ q ∈ ys, FrM M 1500 q) ∧ as = [.im x, .im y]
def post_product_sum (as : List Sl) (r : D) : Prop := ∀ x y xs ys, isFrs x xs → isFrs y ys → as = [.im x, .im y] → r = fr (dotR xs ys)
def pre_less_part (as : List Sl) : Prop := ∃ xs p ys, xs.length = ys.length ∧ xs.length ≤ 5 ∧ Bd 4400 p ∧ (∀ q ∈ xs, Bd 4400 q) ∧ (∀ q ∈ ys, Bd 4400 q ∧ Bd 4400 (p * q)) ∧ as = [.im (frsL xs), .im (fr p), .im (frsL ys)]
def post_less_part (as : List Sl) (r : D) : Prop := ∀ xs p ys, as = [.im (frsL xs), .im (fr p), .im (frsL ys)] → r = frsL (List.zipWith (fun x y => x - p * y) xs ys)
def pre_stepped (as : List Sl) : Prop := ∃ (rows : List (List Rat)) (n : Nat), n ≤ 5 ∧ rows.length ≤ 25 ∧ (∀ r ∈ rows, r.length = n ∧ RowB 120 r) ∧ as = [.im (.list (rows.map frsL)), .im (.int (n : Nat))]
def post_stepped (as : List Sl) (r : D) : Prop := ∀ (rows : List (List Rat)) (n : Nat), as = [.im (.list (rows.map frsL)), .im (.int (n : Nat))] → (∀ r ∈ rows, r.length = n) → ∃ f hs q, r = .tuple [f, .list hs, q] ∧ hs.length ≤ n ∧ (hs.length = n ↔ KerT n rows)
def pre_rank_of (as : List Sl) : Prop := pre_stepped as
def post_rank_of (as : List Sl) (r : D) : Prop := ∀ (rows : List (List Rat)) (n : Nat), as = [.im (.list (rows.map frsL)), .im (.int (n : Nat))] → (∀ r ∈ rows, r.length = n) → ∃ k : Nat, r = .int (k : Nat) ∧ (k = n ↔ KerT n rows)
def anyPre (as : List Sl) : Prop := ∃ c rs t sp, CrewOk c ∧ RoadsOk c rs ∧ Sq c.length t ∧ TabB 21 t ∧ sp.length ≤ 5 ∧ (∀ i ∈ sp, i < c.length) ∧ as = [wkS c rs, .im (tabD t), .im (spotsD sp)]
def pre_pushed_rows (as : List Sl) : Prop := anyPre as
def post_pushed_rows (as : List Sl) (r : D) : Prop := ∀ c rs t sp, CrewOk c → Sq c.length t → TabB 21 t → as = [wkS c rs, .im (tabD t), .im (spotsD sp)] → ∃ rows : List (List Int), r = .list (rows.map fun x => frsL (toR x)) ∧ rows.length = c.length * sp.length ∧ ∀ x, x ∈ rows ↔ x ∈ reachI t c.length sp
def pre_rank_by (as : List Sl) : Prop := anyPre as
def post_rank_by (as : List Sl) (r : D) : Prop := ∀ c rs t sp, CrewOk c → Sq c.length t → TabB 21 t → as = [wkS c rs, .im (tabD t), .im (spotsD sp)] → ∃ k : Nat, r = .int (k : Nat) ∧ (k = c.length ↔ Full t c.length sp)
def pre_wrong_fraction (as : List Sl) : Prop := ∃ s : List Rat, s.length ≤ 5 ∧ (∀ q ∈ s, Bd 4400 q) ∧ as = [.im (frsD s), .im (.int (s.length : Nat))]
def post_wrong_fraction (_ : List Sl) (r : D) : Prop := r = .tuple []
def dayPre (n : Nat) (t : List (List Int)) (sp : List Nat) (s p : List Rat) : Prop := n ≤ 5 ∧ Sq n t ∧ TabB 3 t ∧ sp.Nodup ∧ sp.length ≤ 5 ∧ (∀ i ∈ sp, i < n) ∧ s.length = n ∧ p.length = sp.length ∧ StateB 61 p
def pre_day_of (as : List Sl) : Prop := ∃ n t sp s p, dayPre n t sp s p ∧ StateB 1000 s ∧ as = [.im (tabD t), .im (spotsD sp), .im (frsD s), .im (frsD p)]
def post_day_of (as : List Sl) (r : D) : Prop := ∀ n t sp s p, dayPre n t sp s p → as = [.im (tabD t), .im (spotsD sp), .im (frsD s), .im (frsD p)] → r = frsD (dayR t sp s p)
def runPre (n : Nat) (t : List (List Int)) (sp : List Nat) (s : List Rat) (ps : List (List Rat)) : Prop := n ≤ 5 ∧ Sq n t ∧ (ps = [] ∨ TabB 3 t) ∧ sp.Nodup ∧ sp.length ≤ 5 ∧ (∀ i ∈ sp, i < n) ∧ s.length = n ∧ StateB 61 s ∧ ps.length ≤ 20 ∧ (∀ p ∈ ps, p.length = sp.length ∧ StateB 61 p)
def pre_state_after (as : List Sl) : Prop := ∃ n t sp s ps, runPre n t sp s ps ∧ as = [.im (tabD t), .im (spotsD sp), .im (frsD s), .im (.tuple (ps.map frsD))]
def post_state_after (as : List Sl) (r : D) : Prop := ∀ n t sp s ps, runPre n t sp s ps → as = [.im (tabD t), .im (spotsD sp), .im (frsD s), .im (.tuple (ps.map frsD))] → r = frsD (runR t sp s ps)
def pre_bar_shown (as : List Sl) : Prop := ∃ c rs hs t line ratio, (Cl.bar c rs hs t line ratio).ok ∧ as = [wkS c rs, .im (spotsD (spots c hs)), .im (Cl.bar c rs hs t line ratio).paper]
def post_bar_shown (as : List Sl) (r : D) : Prop := ∀ c rs hs t line ratio, (Cl.bar c rs hs t line ratio).ok → as = [wkS c rs, .im (spotsD (spots c hs)), .im (Cl.bar c rs hs t line ratio).paper] → isB r (Cl.bar c rs hs t line ratio).ans
def Cl.c : Cl → List Str
  | .bar c _ _ _ _ _ => c
  | .any c _ _ _ => c
  | .way c _ _ _ _ _ _ => c
def Cl.rs : Cl → List (Str × Str)
  | .bar _ rs _ _ _ _ => rs
  | .any _ rs _ _ => rs
  | .way _ rs _ _ _ _ _ => rs
def Cl.lot : Cl → Prop
  | .way _ _ _ _ _ _ _ => False
  | _ => True
def pre_lot_shown (as : List Sl) : Prop := ∃ cl : Cl, cl.ok ∧ cl.lot ∧ as = [wkS cl.c cl.rs, .im cl.said, .im cl.paper]
def post_lot_shown (as : List Sl) (r : D) : Prop := ∀ cl : Cl, cl.ok → cl.lot → as = [wkS cl.c cl.rs, .im cl.said, .im cl.paper] → isB r cl.ans
def pre_way_shown (as : List Sl) : Prop := ∃ cl : Cl, cl.ok ∧ ¬ cl.lot ∧ as = [wkS cl.c cl.rs, .im cl.said, .im cl.paper]
def post_way_shown (as : List Sl) (r : D) : Prop := ∀ cl : Cl, cl.ok → ¬ cl.lot → as = [wkS cl.c cl.rs, .im cl.said, .im cl.paper] → isB r cl.ans
def pre_accepts (as : List Sl) : Prop := ∃ cl : Cl, cl.ok ∧ as = [.im cl.said, .im cl.paper]
def post_accepts (as : List Sl) (r : D) : Prop := ∀ cl : Cl, cl.ok → as = [.im cl.said, .im cl.paper] → isB r cl.ans
/-! ### the law's defs -/
structure KegOk (t : Nat) (k : List D) : Prop where
  ex : ∃ a b c : Int, k = [.int a, .int b, .int c] ∧ 0 ≤ a ∧ Bz 1048577 a ∧ 0 ≤ b ∧ b < 2147483137 ∧ 0 ≤ c ∧ c ≤ (t : Int)
/-- what a keg's use leaves -/
def Used (B : Nat) (k k' : List D) : Prop := ∀ t, KegOk t k → KegOk (t + B) k'
def kegLim : Nat := 1000000
def pre_l_keg (as : List Sl) : Prop := ∃ (ns : List Int) (i : Nat), ns.length ≤ 63 ∧ (∀ z ∈ ns, Bz 1048577 z) ∧ as = [.sq (ns.map PyData.int), .im (.int (i : Nat))] ∧ i < 4
def post_l_keg (_ : List Sl) (r : List D) : Prop := KegOk 1 r
def pre_l_tap (k : List D) (as : List Sl) : Prop := KegOk kegLim k ∧ ∃ u : Int, 1 ≤ u ∧ u ≤ 1000000000 ∧ as = [.im (.int u)]
def post_l_tap (k : List D) (as : List Sl) (r : D) (k' : List D) : Prop := Used 1 k k' ∧ ∃ v : Int, r = .int v ∧ 0 ≤ v ∧ ∀ u : Int, as = [.im (.int u)] → v < u
def seqOf : D → List D
  | .list ds => ds
  | .tuple ds => ds
  | _ => []
def isSeq : D → Prop
  | .list _ => True
  | .tuple _ => True
  | _ => False
def pre_l_pick (k : List D) (as : List Sl) : Prop := KegOk kegLim k ∧ ∃ d, isSeq d ∧ 1 ≤ (seqOf d).length ∧ (seqOf d).length ≤ 1000 ∧ as = [.im d]
def post_l_pick (k : List D) (as : List Sl) (r : D) (k' : List D) : Prop := Used 1 k k' ∧ ∀ d, as = [.im d] → r ∈ seqOf d
def pre_l_mixed (k : List D) (as : List Sl) : Prop := KegOk 900000 k ∧ ∃ d, isSeq d ∧ (seqOf d).length ≤ 1000 ∧ as = [.im d]
def post_l_mixed (k : List D) (as : List Sl) (r : D) (k' : List D) : Prop := Used 1000 k k' ∧ ∀ d, as = [.im d] → ∃ es, r = .list es ∧ es.Perm (seqOf d)
def pre_l_crew (k : List D) (as : List Sl) : Prop := KegOk 800000 k ∧ as = [.im (.int 2), .im (.int 5)]
def post_l_crew (k : List D) (_ : List Sl) (r : D) (k' : List D) : Prop := Used 2000 k k' ∧ ∃ c, CrewOk c ∧ r = crewD c
def pre_l_roads (k : List D) (as : List Sl) : Prop := KegOk 800000 k ∧ ∃ c, CrewOk c ∧ as = [.im (crewD c)]
def post_l_roads (k : List D) (as : List Sl) (r : D) (k' : List D) : Prop := Used 2000 k k' ∧ ∀ c, CrewOk c → as = [.im (crewD c)] → ∃ rs, RoadsOk c rs ∧ r = roadsD rs
def pre_l_heads (k : List D) (as : List Sl) : Prop := pre_l_roads k as
def post_l_heads (k : List D) (as : List Sl) (r : D) (k' : List D) : Prop := Used 2000 k k' ∧ ∀ c, CrewOk c → as = [.im (crewD c)] → ∃ hs, HeadsOk c hs ∧ r = crewD hs
def pre_l_page (as : List Sl) : Prop := ∃ c rs, CrewOk c ∧ RoadsOk c rs ∧ as = [.im (crewD c), .im (roadsD rs)]
def post_l_page (as : List Sl) (r : D) : Prop := ∀ c rs, as = [.im (crewD c), .im (roadsD rs)] → r = .str (pageOf c rs)
def pushS (rs : List (Str × Str)) (x : Str) : List Str := (rs.filter fun r => decide (r.1 = x)).map (·.2)
def freshS (rs : List (Str × Str)) (x : Str) (sure : List Str) : List Str := (pushS rs x).filter fun y => decide (y ∉ sure)
def aloneS (rs : List (Str × Str)) (x : Str) (sure : List Str) : List Str := if (freshS rs x sure).length = 1 then freshS rs x sure else []
def crewL (c : List Str) : D := .list (c.map PyData.str)
def pre_l_pushed (as : List Sl) : Prop := ∃ rs x, rs.length ≤ 100 ∧ as = [.im (roadsD rs), .im (.str x)]
def post_l_pushed (as : List Sl) (r : D) : Prop := ∀ rs x, as = [.im (roadsD rs), .im (.str x)] → r = crewL (pushS rs x)
def pre_l_alone (as : List Sl) : Prop := ∃ c rs x sure, CrewOk c ∧ RoadsOk c rs ∧ (∀ y ∈ sure, y ∈ c) ∧ as = [.im (roadsD rs), .im (.str x), .im (crewL sure)]
def post_l_alone (as : List Sl) (r : D) : Prop := ∀ rs x sure, as = [.im (roadsD rs), .im (.str x), .im (crewL sure)] → r = crewL (aloneS rs x sure)
structure SureOk (c : List Str) (rs : List (Str × Str)) (hs sure : List Str) : Prop where
  nd : sure.Nodup
  sub : ∀ x ∈ sure, x ∈ c
  sup : ∀ x ∈ hs, x ∈ sure
  closed : ∀ x ∈ sure, (freshS rs x sure).length ≠ 1
def pre_l_game (as : List Sl) : Prop := ∃ c rs hs, CrewOk c ∧ RoadsOk c rs ∧ HeadsOk c hs ∧ as = [.im (crewD c), .im (roadsD rs), .im (crewD hs)]
def passS (rs : List (Str × Str)) (c : List Str) (sure : List Str) : List Str := c.foldl (fun s x => if x ∈ s then s ++ aloneS rs x s else s) sure
def gameS (c : List Str) (rs : List (Str × Str)) (hs : List Str) : List Str := (List.range c.length).foldl (fun s _ => passS rs c s) hs
def post_l_game (as : List Sl) (r : D) : Prop := ∀ c rs hs, as = [.im (crewD c), .im (roadsD rs), .im (crewD hs)] → r = crewL (gameS c rs hs)
def rs20 (c : List Str) (rs : List (Str × Str)) : Prop := CrewOk c ∧ RoadsOk c rs
def pre_l_table (k : List D) (as : List Sl) : Prop := KegOk 800000 k ∧ ∃ c rs, ∃ far : Int, CrewOk c ∧ RoadsOk c rs ∧ 1 ≤ far ∧ far ≤ 5 ∧ as = [.im (crewD c), .im (roadsD rs), .im (.int far)]
def post_l_table (k : List D) (as : List Sl) (r : D) (k' : List D) : Prop := Used 100 k k' ∧ ∀ c rs (far : Int), CrewOk c → RoadsOk c rs → as = [.im (crewD c), .im (roadsD rs), .im (.int far)] → ∃ t, r = tabD t ∧ Sq c.length t ∧ (∀ r ∈ t, ∀ x ∈ r, -far ≤ x ∧ x ≤ far) ∧
  ∀ i j, i < c.length → j < c.length → i ≠ j → (ent t i j ≠ 0 ↔ (c.getD j "", c.getD i "") ∈ rs)
def pre_l_cut (as : List Sl) : Prop := ∃ xs : List Int, xs.length ≤ 5 ∧ (∀ x ∈ xs, Bz 6000 x) ∧ as = [.im (rowL xs)]
def post_l_cut (as : List Sl) (r : D) : Prop := ∀ xs : List Int, as = [.im (rowL xs)] → ∃ (g : Int) (ys : List Int), 0 < g ∧ xs = ys.map (g * ·) ∧ r = rowL ys
def pre_l_free (as : List Sl) : Prop := ∃ (rows : List (List Int)) (n : Nat), 1 ≤ n ∧ n ≤ 5 ∧ rows.length ≤ 25 ∧ (∀ r ∈ rows, r.length = n ∧ ∀ x ∈ r, Bz 120 x) ∧ as = [.im (.list (rows.map rowL))]
def post_l_free (as : List Sl) (r : D) : Prop := ∀ (rows : List (List Int)) (n : Nat), 1 ≤ n → (∀ r ∈ rows, r.length = n) → as = [.im (.list (rows.map rowL))] → ∃ k : Nat, r = .int (k : Nat) ∧ (k = n ↔ KerT n (rows.map toR))
def pre_l_come (as : List Sl) : Prop := ∃ n t sp, n ≤ 5 ∧ Sq n t ∧ TabB 21 t ∧ sp.length ≤ 5 ∧ (∀ i ∈ sp, i < n) ∧ as = [.im (tabD t), .im (spotsD sp), .im (.int (n : Nat))]
def post_l_come (as : List Sl) (r : D) : Prop := ∀ (n : Nat) t sp, Sq n t → TabB 21 t → as = [.im (tabD t), .im (spotsD sp), .im (.int (n : Nat))] → r = .list ((reachI t n sp).map rowL)
def pre_l_does_steer (as : List Sl) : Prop := ∃ c hs t, CrewOk c ∧ HeadsOk c hs ∧ Sq c.length t ∧ TabB 21 t ∧ as = [.im (crewD c), .im (tabD t), .im (crewD hs)]
def post_l_does_steer (as : List Sl) (r : D) : Prop := ∀ c hs t, CrewOk c → HeadsOk c hs → Sq c.length t → TabB 21 t → as = [.im (crewD c), .im (tabD t), .im (crewD hs)] → isB r (Full t c.length (spots c hs))
def pre_l_asked (as : List Sl) : Prop := pre_accepts as
def post_l_asked (as : List Sl) (r : D) : Prop := post_accepts as r
def barPre (as : List Sl) : Prop := ∃ c rs hs, CrewOk c ∧ RoadsOk c rs ∧ HeadsOk c hs ∧ as = [.im (crewD c), .im (roadsD rs), .im (crewD hs)]
def pre_l_barring (k : List D) (as : List Sl) : Prop := KegOk 700000 k ∧ barPre as
structure BarOut (c : List Str) (rs : List (Str × Str)) (hs : List Str) (t : List (List Int)) (line : List Int) (fold : Int) : Prop where
  sq : Sq c.length t
  strong : Strong c rs t
  len : line.length = c.length
  zero : ∀ i, i < c.length → (line.getD i 0 = 0 ↔ c.getD i "" ∈ gameS c rs hs)
  small : ∀ x ∈ line, -1 ≤ x ∧ x ≤ 1
  folds : -2 ≤ fold ∧ fold ≤ 2
  eig : ∀ j, j < c.length → dotI line (colI t j) = fold * line.getD j 0
def post_l_barring (k : List D) (as : List Sl) (r : D) (k' : List D) : Prop := Used 1000 k k' ∧ ∀ c rs hs, CrewOk c → RoadsOk c rs → HeadsOk c hs → as = [.im (crewD c), .im (roadsD rs), .im (crewD hs)] → ∃ t line fold, r = .tuple [tabD t, .tuple [rowD line, .int fold]] ∧ BarOut c rs hs t line fold
def pre_l_low (as : List Sl) : Prop := pre_reduced as
def post_l_low (as : List Sl) (r : D) : Prop := post_reduced as r
def pre_l_add (as : List Sl) : Prop := pre_plus as
def post_l_add (as : List Sl) (r : D) : Prop := post_plus as r
def pre_l_fold (as : List Sl) : Prop := ∃ m q, Bz 4400 m ∧ Bd 4400 q ∧ as = [.im (.int m), .im (fr q)]
def post_l_fold (as : List Sl) (r : D) : Prop := ∀ (m : Int) q, as = [.im (.int m), .im (fr q)] → r = fr ((m : Rat) * q)
def pre_l_after_day (as : List Sl) : Prop := pre_day_of as
def post_l_after_day (as : List Sl) (r : D) : Prop := post_day_of as r
def pre_l_come_to (as : List Sl) : Prop := pre_state_after as
def post_l_come_to (as : List Sl) (r : D) : Prop := post_state_after as r
def pre_l_wide_share (k : List D) (as : List Sl) : Prop := KegOk 900000 k ∧ as = []
def post_l_wide_share (k : List D) (_ : List Sl) (r : D) (k' : List D) : Prop := Used 3 k k' ∧ ∃ q, r = fr q ∧ FrM Mday 61 q
def pre_l_edge (k : List D) (as : List Sl) : Prop := KegOk 800000 k ∧ ∃ c rs, ∃ m : Int, CrewOk c ∧ RoadsOk c rs ∧ 1000000 ≤ m ∧ m ≤ 1000001 ∧ as = [.im (crewD c), .im (roadsD rs), .im (.int m)]
def post_l_edge (k : List D) (as : List Sl) (r : D) (k' : List D) : Prop := Used 100 k k' ∧ ∀ c rs (m : Int), CrewOk c → RoadsOk c rs → as = [.im (crewD c), .im (roadsD rs), .im (.int m)] → ∃ t, r = tabD t ∧ Sq c.length t ∧
  ∀ i j, i < c.length → j < c.length → (if i = j ∨ (c.getD j "", c.getD i "") ∈ rs then ent t i j = m ∨ ent t i j = -m else ent t i j = 0)
def rightPre (k : List D) (as : List Sl) : Prop := KegOk 600000 k ∧ ∃ c rs hs, CrewOk c ∧ RoadsOk c rs ∧ HeadsOk c hs ∧ as = [.im (crewD c), .im (roadsD rs), .im (crewD hs), .im (.str (pageOf c rs))]
def rightPost (k : List D) (_ : List Sl) (r : D) (k' : List D) : Prop := Used 10000 k k' ∧ r = .bool true
def pre_l_bar_right (k : List D) (as : List Sl) : Prop := rightPre k as
def post_l_bar_right (k : List D) (as : List Sl) (r : D) (k' : List D) : Prop := rightPost k as r k'
def pre_l_edge_right (k : List D) (as : List Sl) : Prop := rightPre k as
def post_l_edge_right (k : List D) (as : List Sl) (r : D) (k' : List D) : Prop := rightPost k as r k'
def pre_l_way_right (k : List D) (as : List Sl) : Prop := rightPre k as
def post_l_way_right (k : List D) (as : List Sl) (r : D) (k' : List D) : Prop := rightPost k as r k'
def pre_l_right (k : List D) (as : List Sl) : Prop := KegOk 1 k ∧ as = []
def post_l_right (_ : List D) (_ : List Sl) (r : D) (_ : List D) : Prop := r = .bool true
def pre_law (as : List Sl) : Prop := ∃ ns : List Int, ns.length ≤ 63 ∧ (∀ z ∈ ns, Bz 1048577 z) ∧ as = [.sq (ns.map PyData.int)]
def post_law (_ : List Sl) (r : D) : Prop := r = .bool true
end Dl

end
section
set_option Elab.async false
set_option linter.all false
set_option maxRecDepth 100000
set_option autoImplicit false
/-! The words of each def, printed by gen.py. -/
namespace Dl
open PySem
def d_is_integer : DTS :=
  (dRet (dAnd (dUn (oIsTy "int") (dVar 0)) (dNot (dUn (oIsTy "bool") (dVar 0)))))
def d_is_within : DTS :=
  (dRet (dAnd (dCall pre_is_integer post_is_integer (dCons (dVar 0) dNil)) (dChain oLe oLe (dVar 1) (dVar 0) (dVar 2))))
def d_is_name : DTS :=
  (dSeq (dIf (dOrT (dNotT (dTst (dUn (oIsTy "str") (dVar 0)))) (dNotT (dTst (dChain oLe oLe (dC (.int 1)) (dLen (dVar 0)) (dC (.int 8)))))) (dRet (dC (.bool false))) dNext)
  (dRet (dAnd (dBin oIn (dIxV 0 (dC (.int 0))) (dC (.str "abcdefghijklmnopqrstuvwxyz"))) (dUn oAll (dFr (dLc (iChars (dVar 0)) (gN 1) dYes (dOr (dBinV oIn 1 (dC (.str "abcdefghijklmnopqrstuvwxyz"))) (dBinV oIn 1 (dC (.str "0123456789")))) [1]))))))
def d_wrong_part : DTS :=
  (dSeq (dIf (dOrT (dNotT (dTst (dUn (oIsTy "tuple") (dVar 0)))) (dTst (dBin oEq (dLen (dVar 0)) (dC (.int 0))))) (dRet (dTup (dCons (dC .none) dNil))) dNext)
  (dSeq (dFor (iEnum (dVar 0)) (gTu (gsCons (gN 1) (gsCons (gN 2) gsNil)) 2) (dIf (dOrT (dNotT (dTst (dCall pre_is_name post_is_name (dCons (dVar 2) dNil)))) (dOrT (dTst (dBinV oGe 1 (dC (.int 8)))) (dTst (dBinV oIn 2 (dSl (dVar 0) dNoP (dP (dVar 1))))))) (dRet (dTup (dCons (dVar 1) dNil))) dNext))
  (dRet (dTup dNil))))
def d_is_pair : DTS :=
  (dSeq (dIf (dOrT (dNotT (dTst (dUn (oIsTy "tuple") (dVar 1)))) (dOrT (dTst (dBin oNe (dLen (dVar 1)) (dC (.int 2)))) (dOrT (dTst (dBin oNotIn (dIxV 1 (dC (.int 0))) (dVar 0))) (dTst (dBin oNotIn (dIxV 1 (dC (.int 1))) (dVar 0)))))) (dRet (dC (.bool false))) dNext)
  (dRet (dBin oNe (dIxV 1 (dC (.int 0))) (dIxV 1 (dC (.int 1))))))
def d_wrong_tie : DTS :=
  (dSeq (dIf (dNotT (dTst (dUn (oIsTy "tuple") (dVar 1)))) (dRet (dTup (dCons (dC .none) dNil))) dNext)
  (dSeq (dFor (iEnum (dVar 1)) (gTu (gsCons (gN 2) (gsCons (gN 3) gsNil)) 2) (dIf (dOrT (dNotT (dTst (dCall pre_is_pair post_is_pair (dCons (dVar 0) (dCons (dVar 3) dNil))))) (dTst (dBinV oIn 3 (dSl (dVar 1) dNoP (dP (dVar 2)))))) (dRet (dTup (dCons (dVar 2) dNil))) dNext))
  (dRet (dTup dNil))))
def d_read_works : DTS :=
  (dSeq (dIf (dNotT (dTst (dUn (oIsTy "str") (dVar 0)))) (dRet (dC .none)) dNext)
  (dSeq (dAsg (dFr (dSplit (dVar 0) "\n")) (gN 1))
  (dSeq (dPar 2 3 (dCons (dUn oTuple (dFr (dSplit (dIxV 1 (dC (.int 0))) " "))) (dCons (dUn oTuple (dFr (dLc (iSeq (dSl (dVar 1) (dP (dC (.int 1))) dNoP)) (gN 4) dYes (dUn oTuple (dFr (dSplit (dVar 4) " > "))) [4]))) dNil)))
  (dSeq (dIf (dOrT (dTst (dBin oNe (dCall pre_wrong_part post_wrong_part (dCons (dVar 2) dNil)) (dTup dNil))) (dTst (dBin oNe (dCall pre_wrong_tie post_wrong_tie (dCons (dVar 2) (dCons (dVar 3) dNil))) (dTup dNil)))) (dRet (dC .none)) dNext)
  (dRet (dTup (dCons (dVar 2) (dCons (dVar 3) dNil))))))))
def d_wrong_leader : DTS :=
  (dSeq (dIf (dNotT (dTst (dUn (oIsTy "tuple") (dVar 1)))) (dRet (dTup (dCons (dC .none) dNil))) dNext)
  (dSeq (dFor (iEnum (dVar 1)) (gTu (gsCons (gN 2) (gsCons (gN 3) gsNil)) 2) (dIf (dOrT (dTst (dBinV oNotIn 3 (dVar 0))) (dTst (dBinV oIn 3 (dSl (dVar 1) dNoP (dP (dVar 2)))))) (dRet (dTup (dCons (dVar 2) dNil))) dNext))
  (dRet (dTup dNil))))
def d_is_strong_row : DTS :=
  (dSeq (dIf (dOrT (dNotT (dTst (dUn (oIsTy "tuple") (dVar 2)))) (dTst (dBin oNe (dLen (dVar 2)) (dLenW 0)))) (dRet (dC (.bool false))) dNext)
  (dSeq (dIf (dNotT (dTst (dUn oAll (dFr (dLc (iSeq (dVar 2)) (gN 3) dYes (dCall pre_is_within post_is_within (dCons (dVar 3) (dCons (dBin oSub (dC (.int 0)) (dC (.int 1000000))) (dCons (dC (.int 1000000)) dNil)))) [3]))))) (dRet (dC (.bool false))) dNext)
  (dRet (dUn oAll (dFr (dLc (iEnum (dVar 2)) (gTu (gsCons (gN 4) (gsCons (gN 3) gsNil)) 2) dYes (dOr (dBinV oEq 4 (dVar 1)) (dBin oEq (dBinV oNe 3 (dC (.int 0))) (dBinV oIn 1 (dBin oIx (dPushed (dVar 0)) (dVar 4))))) [4, 3]))))))
def d_wrong_row : DTS :=
  (dSeq (dIf (dOrT (dNotT (dTst (dUn (oIsTy "tuple") (dVar 1)))) (dTst (dBin oNe (dLen (dVar 1)) (dLenW 0)))) (dRet (dTup (dCons (dC .none) dNil))) dNext)
  (dSeq (dFor (iEnum (dVar 1)) (gTu (gsCons (gN 2) (gsCons (gN 3) gsNil)) 2) (dIf (dNotT (dTst (dCall pre_is_strong_row post_is_strong_row (dCons (dVar 0) (dCons (dVar 2) (dCons (dVar 3) dNil)))))) (dRet (dTup (dCons (dVar 2) dNil))) dNext))
  (dRet (dTup dNil))))
def d_is_bar_row : DTS :=
  (dSeq (dIf (dOrT (dNotT (dTst (dUn (oIsTy "tuple") (dVar 2)))) (dOrT (dTst (dBin oNe (dLen (dVar 2)) (dC (.int 2)))) (dNotT (dTst (dCall pre_is_integer post_is_integer (dCons (dIxV 2 (dC (.int 1))) dNil)))))) (dRet (dC (.bool false))) dNext)
  (dSeq (dAsg (dVar 2) (gTu (gsCons (gN 3) (gsCons (gN 4) gsNil)) 2))
  (dSeq (dIf (dOrT (dNotT (dTst (dUn (oIsTy "tuple") (dVar 3)))) (dOrT (dTst (dBin oNe (dLen (dVar 3)) (dLen (dVar 0)))) (dNotT (dTst (dUn oAll (dFr (dLc (iSeq (dVar 3)) (gN 5) dYes (dCall pre_is_integer post_is_integer (dCons (dVar 5) dNil)) [5]))))))) (dRet (dC (.bool false))) dNext)
  (dSeq (dIf (dOrT (dNotT (dTst (dUn oAny (dFr (dLc (iSeq (dVar 3)) (gN 5) dYes (dBinV oNe 5 (dC (.int 0))) [5]))))) (dTst (dUn oAny (dFr (dLc (iSeq (dVar 1)) (gN 6) dYes (dBin oNe (dIxV 3 (dVar 6)) (dC (.int 0))) [6]))))) (dRet (dC (.bool false))) dNext)
  (dSeq (dFor (iRange (dLen (dVar 3))) (gN 6) (dIf (dTst (dBin oNe (dUn oSum (dFr (dLc (iRange (dLen (dVar 3))) (gN 7) dYes (dBin oMul (dIxV 3 (dVar 7)) (dBin oIx (dIxV 0 (dVar 7)) (dVar 6))) [7]))) (dBinV oMul 4 (dIxV 3 (dVar 6))))) (dRet (dC (.bool false))) dNext))
  (dRet (dC (.bool true))))))))
def d_reduced : DTS :=
  (dSeq (dPar 2 3 (dCons (dUn oAbs (dVar 0)) (dCons (dVar 1) dNil)))
  (dSeq (dWhile (dTst (dBinV oNe 3 (dC (.int 0)))) (dPar 2 3 (dCons (dVar 3) (dCons (dBinV oMod 2 (dVar 3)) dNil))))
  (dRet (dTup (dCons (dBinV oDiv 0 (dVar 2)) (dCons (dBinV oDiv 1 (dVar 2)) dNil))))))
def d_plus : DTS :=
  (dRet (dCall pre_reduced post_reduced (dCons (dBin oAdd (dBin oMul (dIxV 0 (dC (.int 0))) (dIxV 1 (dC (.int 1)))) (dBin oMul (dIxV 1 (dC (.int 0))) (dIxV 0 (dC (.int 1))))) (dCons (dBin oMul (dIxV 0 (dC (.int 1))) (dIxV 1 (dC (.int 1)))) dNil))))
def d_minus : DTS :=
  (dRet (dCall pre_plus post_plus (dCons (dVar 0) (dCons (dTup (dCons (dBin oSub (dC (.int 0)) (dIxV 1 (dC (.int 0)))) (dCons (dIxV 1 (dC (.int 1))) dNil))) dNil))))
def d_times : DTS :=
  (dRet (dCall pre_reduced post_reduced (dCons (dBin oMul (dIxV 0 (dC (.int 0))) (dIxV 1 (dC (.int 0)))) (dCons (dBin oMul (dIxV 0 (dC (.int 1))) (dIxV 1 (dC (.int 1)))) dNil))))
def d_over : DTS :=
  (dSeq (dPar 2 3 (dCons (dBin oMul (dIxV 0 (dC (.int 0))) (dIxV 1 (dC (.int 1)))) (dCons (dBin oMul (dIxV 0 (dC (.int 1))) (dIxV 1 (dC (.int 0)))) dNil)))
  (dRet (dIfE (dTst (dBinV oGt 3 (dC (.int 0)))) (dCall pre_reduced post_reduced (dCons (dVar 2) (dCons (dVar 3) dNil))) (dCall pre_reduced post_reduced (dCons (dBin oSub (dC (.int 0)) (dVar 2)) (dCons (dBin oSub (dC (.int 0)) (dVar 3)) dNil))))))
def d_is_fraction : DTS :=
  (dSeq (dIf (dOrT (dNotT (dTst (dUn (oIsTy "tuple") (dVar 0)))) (dOrT (dTst (dBin oNe (dLen (dVar 0)) (dC (.int 2)))) (dOrT (dNotT (dTst (dCall pre_is_integer post_is_integer (dCons (dIxV 0 (dC (.int 0))) dNil)))) (dNotT (dTst (dCall pre_is_integer post_is_integer (dCons (dIxV 0 (dC (.int 1))) dNil))))))) (dRet (dC (.bool false))) dNext)
  (dRet (dAnd (dBin oGe (dIxV 0 (dC (.int 1))) (dC (.int 1))) (dBin oEq (dCall pre_reduced post_reduced (dCons (dIxV 0 (dC (.int 0))) (dCons (dIxV 0 (dC (.int 1))) dNil))) (dVar 0)))))
def d_product_sum : DTS :=
  (dSeq (dAsg (dC (.tuple [.int 0, .int 1])) (gN 2))
  (dSeq (dFor (iZip (dVar 0) (dVar 1)) (gTu (gsCons (gN 3) (gsCons (gN 4) gsNil)) 2) (dAsg (dCall pre_plus post_plus (dCons (dVar 2) (dCons (dCall pre_times post_times (dCons (dVar 3) (dCons (dVar 4) dNil))) dNil))) (gN 2)))
  (dRet (dVar 2))))
def d_less_part : DTS :=
  (dRet (dFr (dLc (iZip (dVar 0) (dVar 2)) (gTu (gsCons (gN 3) (gsCons (gN 4) gsNil)) 2) dYes (dCall pre_minus post_minus (dCons (dVar 3) (dCons (dCall pre_times post_times (dCons (dVar 1) (dCons (dVar 4) dNil))) dNil))) [3, 4])))
def d_stepped : DTS :=
  (dSeq (dPar3 2 3 4 (dCons (dFr (fLst dNil)) (dConsF (fLst dNil) (dCons (dFr (dLc (iSeq (dVar 0)) (gN 5) dYes (dFr (fList (dVar 5))) [5])) dNil))))
  (dSeq (dFor (iRange (dVar 1)) (gN 6) (dSeq (dAsg (dFr (dLc (iEnum (dVar 4)) (gTu (gsCons (gN 8) (gsCons (gN 5) gsNil)) 2) (dTst (dBin oNe (dIxV 5 (dVar 6)) (dC (.tuple [.int 0, .int 1])))) (dVar 8) [8, 5])) (gN 7))
  (dIf (dTst (dBinV oNe 7 (dFr (fLst dNil)))) (dSeq (dAsg (dIxV 4 (dIxV 7 (dC (.int 0)))) (gN 9))
  (dSeq (dAsg (dFr (dLc (iSeq (dVar 9)) (gN 10) dYes (dCall pre_over post_over (dCons (dVar 10) (dCons (dIxV 9 (dVar 6)) dNil))) [10])) (gN 9))
  (dSeq (dAsg (dBin oAdd (dSl (dVar 4) dNoP (dP (dIxV 7 (dC (.int 0))))) (dSl (dVar 4) (dP (dBin oAdd (dIxV 7 (dC (.int 0))) (dC (.int 1)))) dNoP)) (gN 4))
  (dSeq (dAsg (dFr (dLc (iSeq (dVar 4)) (gN 5) dYes (dCall pre_less_part post_less_part (dCons (dVar 5) (dCons (dIxV 5 (dVar 6)) (dCons (dVar 9) dNil)))) [5])) (gN 4))
  (dSeq (dAsg (dBin oAdd (dFr (dLc (iSeq (dVar 2)) (gN 5) dYes (dCall pre_less_part post_less_part (dCons (dVar 5) (dCons (dIxV 5 (dVar 6)) (dCons (dVar 9) dNil)))) [5])) (dFr (fLst (dCons (dVar 9) dNil)))) (gN 2))
  (dApp 3 (dVar 6))))))) dNext)))
  (dFrz 3 (dRet (dTup (dCons (dVar 2) (dCons (dVar 3) (dCons (dVar 4) dNil))))))))
def d_rank_of : DTS :=
  (dRet (dLen (dBin oIx (dCall pre_stepped post_stepped (dCons (dVar 0) (dCons (dVar 1) dNil))) (dC (.int 1)))))
def d_pushed_rows : DTS :=
  (dSeq (dAsg (dLenW 0) (gN 3))
  (dSeq (dAsg (dFr (dLc (iSeq (dVar 1)) (gN 6) dYes (dFr (dLc (iSeq (dVar 6)) (gN 5) dYes (dTup (dCons (dVar 5) (dCons (dC (.int 1)) dNil))) [5])) [6])) (gN 4))
  (dSeq (dAsg (dFr (dLc (iSeq (dVar 2)) (gN 9) dYes (dFr (dLc (iRange (dVar 3)) (gN 8) dYes (dIfE (dTst (dBinV oEq 8 (dVar 9))) (dC (.tuple [.int 1, .int 1])) (dC (.tuple [.int 0, .int 1]))) [8])) [9])) (gN 7))
  (dSeq (dAsg (dFr (fLst dNil)) (gN 10))
  (dSeq (dFor (iRange (dVar 3)) (gN 11) (dSeq (dAsg (dBinV oAdd 10 (dVar 7)) (gN 10))
  (dAsg (dFr (dLc (iSeq (dVar 7)) (gN 12) dYes (dFr (dLc (iSeq (dVar 4)) (gN 6) dYes (dCall pre_product_sum post_product_sum (dCons (dVar 6) (dCons (dVar 12) dNil))) [6])) [12])) (gN 7))))
  (dRet (dVar 10)))))))
def d_rank_by : DTS :=
  (dRet (dCall pre_rank_of post_rank_of (dCons (dCall pre_pushed_rows post_pushed_rows (dCons (dVar 0) (dCons (dVar 1) (dCons (dVar 2) dNil)))) (dCons (dLenW 0) dNil))))
def d_wrong_fraction : DTS :=
  (dSeq (dIf (dOrT (dNotT (dTst (dUn (oIsTy "tuple") (dVar 0)))) (dTst (dBin oNe (dLen (dVar 0)) (dVar 1)))) (dRet (dTup (dCons (dC .none) dNil))) dNext)
  (dSeq (dFor (iEnum (dVar 0)) (gTu (gsCons (gN 2) (gsCons (gN 3) gsNil)) 2) (dIf (dNotT (dTst (dCall pre_is_fraction post_is_fraction (dCons (dVar 3) dNil)))) (dRet (dTup (dCons (dVar 2) dNil))) dNext))
  (dRet (dTup dNil))))
def d_day_of : DTS :=
  (dSeq (dAsgO (dLc (iSeq (dVar 0)) (gN 6) dYes (dCall pre_product_sum post_product_sum (dCons (dFr (dLc (iSeq (dVar 6)) (gN 5) dYes (dTup (dCons (dVar 5) (dCons (dC (.int 1)) dNil))) [5])) (dCons (dVar 2) dNil))) [6]) 4)
  (dSeq (dFor (iZip (dVar 1) (dVar 3)) (gTu (gsCons (gN 7) (gsCons (gN 8) gsNil)) 2) (dAsg (dCall pre_plus post_plus (dCons (dIxV 4 (dVar 7)) (dCons (dVar 8) dNil))) (gSet 4 (dVar 7))))
  (dRet (dUn oTuple (dVar 4)))))
def d_state_after : DTS :=
  (dSeq (dFor (iSeq (dVar 3)) (gN 4) (dAsg (dCall pre_day_of post_day_of (dCons (dVar 0) (dCons (dVar 1) (dCons (dVar 2) (dCons (dVar 4) dNil))))) (gN 2)))
  (dRet (dVar 2)))
def d_bar_shown : DTS :=
  (dSeq (dIf (dOrT (dNotT (dTst (dUn (oIsTy "tuple") (dVar 2)))) (dOrT (dTst (dBin oNe (dLen (dVar 2)) (dC (.int 2)))) (dTst (dBin oNe (dCall pre_wrong_row post_wrong_row (dCons (dVar 0) (dCons (dIxV 2 (dC (.int 0))) dNil))) (dTup dNil))))) (dRet (dC (.bool false))) dNext)
  (dRet (dCall pre_is_bar_row post_is_bar_row (dCons (dIxV 2 (dC (.int 0))) (dCons (dVar 1) (dCons (dIxV 2 (dC (.int 1))) dNil))))))
def d_lot_shown : DTS :=
  (dSeq (dIf (dTst (dBin oNe (dCall pre_wrong_leader post_wrong_leader (dCons (dParts (dVar 0)) (dCons (dIxV 1 (dC (.int 2))) dNil))) (dTup dNil))) (dRet (dC (.bool false))) dNext)
  (dSeq (dAsg (dFr (dLc (iSeq (dIxV 1 (dC (.int 2)))) (gN 4) dYes (dIndex (dParts (dVar 0)) (dVar 4)) [4])) (gN 3))
  (dSeq (dIf (dTst (dBin oEq (dIxV 1 (dC (.int 0))) (dC (.str "fort")))) dNever dNext)
  (dSeq (dIf (dTst (dBin oEq (dIxV 1 (dC (.int 0))) (dC (.str "always")))) dNever dNext)
  (dSeq (dIf (dTst (dBin oEq (dIxV 1 (dC (.int 0))) (dC (.str "not always")))) (dRet (dCall pre_bar_shown post_bar_shown (dCons (dVar 0) (dCons (dVar 3) (dCons (dVar 2) dNil))))) dNext)
  (dSeq (dIf (dOrT (dTst (dBin oNe (dIxV 1 (dC (.int 0))) (dC (.str "sometimes")))) (dTst (dBin oNe (dCall pre_wrong_row post_wrong_row (dCons (dVar 0) (dCons (dVar 2) dNil))) (dTup dNil)))) (dRet (dC (.bool false))) dNext)
  (dRet (dBin oEq (dCall pre_rank_by post_rank_by (dCons (dVar 0) (dCons (dVar 2) (dCons (dVar 3) dNil)))) (dLenW 0)))))))))
def d_way_shown : DTS :=
  (dSeq (dAsg (dSl (dVar 1) (dP (dC (.int 2))) dNoP) (gTu (gsCons (gN 3) (gsCons (gN 4) (gsCons (gN 5) (gsCons (gN 6) gsNil)))) 4))
  (dSeq (dIf (dOrT (dTst (dBin oNe (dCall pre_wrong_row post_wrong_row (dCons (dVar 0) (dCons (dVar 3) dNil))) (dTup dNil))) (dTst (dBin oNe (dCall pre_wrong_leader post_wrong_leader (dCons (dParts (dVar 0)) (dCons (dVar 4) dNil))) (dTup dNil)))) (dRet (dC (.bool false))) dNext)
  (dSeq (dIf (dOrT (dTst (dBin oNe (dCall pre_wrong_fraction post_wrong_fraction (dCons (dVar 5) (dCons (dLenW 0) dNil))) (dTup dNil))) (dTst (dBin oNe (dCall pre_wrong_fraction post_wrong_fraction (dCons (dVar 6) (dCons (dLenW 0) dNil))) (dTup dNil)))) (dRet (dC (.bool false))) dNext)
  (dSeq (dIf (dNotT (dTst (dUn (oIsTy "tuple") (dVar 2)))) (dRet (dC (.bool false))) dNext)
  (dSeq (dIf (dNotT (dTst (dUn oAll (dFr (dLc (iSeq (dVar 2)) (gN 7) dYes (dBin oEq (dCall pre_wrong_fraction post_wrong_fraction (dCons (dVar 7) (dCons (dLen (dVar 4)) dNil))) (dTup dNil)) [7]))))) (dRet (dC (.bool false))) dNext)
  (dSeq (dAsg (dFr (dLc (iSeq (dVar 4)) (gN 9) dYes (dIndex (dParts (dVar 0)) (dVar 9)) [9])) (gN 8))
  (dRet (dBin oEq (dCall pre_state_after post_state_after (dCons (dVar 3) (dCons (dVar 8) (dCons (dVar 5) (dCons (dVar 2) dNil))))) (dVar 6)))))))))
def d_accepts : DTS :=
  (dSeq (dIf (dOrT (dNotT (dTst (dUn (oIsTy "tuple") (dVar 0)))) (dTst (dBin oNotIn (dLen (dVar 0)) (dTup (dCons (dC (.int 3)) (dCons (dC (.int 6)) dNil)))))) (dRet (dC (.bool false))) dNext)
  (dSeq (dAsg (dCall pre_read_works post_read_works (dCons (dIxV 0 (dC (.int 1))) dNil)) (gN 2))
  (dSeq (dIf (dTst (dBinV oIsN 2 (dC .none))) (dRet (dC (.bool false))) dNext)
  (dSeq (dAsg (dMake preWorks mkPushed (dCons (dIxV 2 (dC (.int 0))) (dCons (dIxV 2 (dC (.int 1))) dNil))) (gN 3))
  (dSeq (dIf (dTst (dBin oEq (dLen (dVar 0)) (dC (.int 6)))) (dRet (dAnd (dBin oEq (dIxV 0 (dC (.int 0))) (dC (.str "leads"))) (dCall pre_way_shown post_way_shown (dCons (dVar 3) (dCons (dVar 0) (dCons (dVar 1) dNil)))))) dNext)
  (dRet (dCall pre_lot_shown post_lot_shown (dCons (dVar 3) (dCons (dVar 0) (dCons (dVar 1) dNil))))))))))
def d_l_keg : DTS :=
  (dSeq (dAsg (dIfE (dTst (dBinV oLt 1 (dLen (dVar 0)))) (dIxV 0 (dVar 1)) (dC (.int 0))) (gN 2))
  (dSeq (dAsg (dBin oAdd (dC (.int 693147)) (dBin oMul (dC (.int 40009)) (dVar 1))) (gN 3))
  (dSeq (dFor (iRange (dB2 oMin2 (dLen (dVar 0)) (dC (.int 8)))) (gN 4) (dAsg (dBin oMod (dUn oInt (dBin oAdd (dBin oAdd (dBinV oMul 3 (dBin oAdd (dC (.int 30089)) (dBin oMul (dC (.int 12)) (dVar 4)))) (dBin oMul (dC (.int 31)) (dIxV 0 (dVar 4)))) (dC (.int 13007)))) (dC (.int 2147483137))) (gN 3)))
  (dRetF (fLst (dCons (dIfE (dOrT (dTst (dBinV oLt 2 (dC (.int 0)))) (dTst (dBinV oGe 2 (dBin oPow (dC (.int 10)) (dC (.int 18)))))) (dUn oAbs (dVar 2)) (dC (.int 0))) (dCons (dBin oMod (dUn oInt (dBin oAdd (dBinV oMul 3 (dC (.int 19))) (dBinV oMul 2 (dC (.int 1009))))) (dC (.int 2147483137))) (dCons (dC (.int 1)) dNil))))))))
def d_l_tap : DTS :=
  (dSeq (dIf (dTst (dBin oGt (dIxV 0 (dC (.int 0))) (dC (.int 0)))) (dSeq (dAsg (dB2 oDivmod (dIxV 0 (dC (.int 0))) (dVar 1)) (gTu (gsCons (gSet 0 (dC (.int 0))) (gsCons (gN 2) gsNil)) 2))
  (dRet (dVar 2))) dNext)
  (dSeq (dAsg (dBin oAdd (dIxV 0 (dC (.int 2))) (dC (.int 1))) (gSet 0 (dC (.int 2))))
  (dSeq (dAsg (dBin oMul (dIxV 0 (dC (.int 1))) (dBin oAdd (dBin oMod (dUn oInt (dBin oDiv (dIxV 0 (dC (.int 1))) (dC (.int 8)))) (dC (.int 33013))) (dC (.int 43)))) (gN 3))
  (dSeq (dAsg (dBin oMod (dUn oInt (dBin oAdd (dBinV oAdd 3 (dBin oMul (dC (.int 12007)) (dIxV 0 (dC (.int 2))))) (dC (.int 11)))) (dC (.int 2147483137))) (gSet 0 (dC (.int 1))))
  (dRet (dBin oMod (dUn oInt (dBin oDiv (dIxV 0 (dC (.int 1))) (dC (.int 8192)))) (dVar 1)))))))
def d_l_pick : DTS :=
  (dRet (dIxV 1 (dCallK 0 pre_l_tap post_l_tap (dCons (dLen (dVar 1)) dNil))))
def d_l_mixed : DTS :=
  (dSeq (dPar 2 3 (dConsF (fList (dVar 1)) (dConsF (fLst dNil) dNil)))
  (dSeq (dFor (iRange (dLen (dVar 1))) (gN 4) (dApp 3 (dPop 2 (dCallK 0 pre_l_tap post_l_tap (dCons (dLen (dVar 2)) dNil)))))
  (dFrz 3 (dRet (dVar 3)))))
def d_l_crew : DTS :=
  (dSeq (dAsg (dFr (fLst (dCons (dC (.str "a")) (dCons (dC (.str "b")) (dCons (dC (.str "c")) (dCons (dC (.str "d")) (dCons (dC (.str "e")) (dCons (dC (.str "f")) (dCons (dC (.str "m1")) (dCons (dC (.str "z")) (dCons (dC (.str "x9")) (dCons (dC (.str "pump")) (dCons (dC (.str "q0q0q0q0")) (dCons (dC (.str "aa")) (dCons (dC (.str "ab")) (dCons (dC (.str "n")) dNil)))))))))))))))) (gN 3))
  (dRet (dUn oTuple (dSl (dCallK 0 pre_l_mixed post_l_mixed (dCons (dVar 3) dNil)) dNoP (dP (dBinV oAdd 1 (dCallK 0 pre_l_tap post_l_tap (dCons (dBin oAdd (dBinV oSub 2 (dVar 1)) (dC (.int 1))) dNil))))))))
def d_l_roads : DTS :=
  (dSeq (dPar 2 3 (dCons (dCallK 0 pre_l_pick post_l_pick (dCons (dFr (fLst (dCons (dC (.int 2)) (dCons (dC (.int 3)) (dCons (dC (.int 3)) (dCons (dC (.int 5)) (dCons (dC (.int 8)) dNil))))))) dNil)) (dConsF (fLst dNil) dNil)))
  (dSeq (dFor (iSeq (dVar 1)) (gN 4) (dFor (iSeq (dVar 1)) (gN 5) (dIf (dAndT (dTst (dBinV oNe 4 (dVar 5))) (dTst (dBin oLt (dCallK 0 pre_l_tap post_l_tap (dCons (dC (.int 10)) dNil)) (dVar 2)))) (dApp 3 (dTup (dCons (dVar 4) (dCons (dVar 5) dNil)))) dNext)))
  (dFrz 3 (dRet (dUn oTuple (dCallK 0 pre_l_mixed post_l_mixed (dCons (dVar 3) dNil)))))))
def d_l_heads : DTS :=
  (dSeq (dAsg (dCallK 0 pre_l_pick post_l_pick (dCons (dFr (fLst (dCons (dC (.int 2)) (dCons (dC (.int 4)) (dCons (dC (.int 6)) dNil))))) dNil)) (gN 2))
  (dRet (dUn oTuple (dFr (dLc (iSeq (dCallK 0 pre_l_mixed post_l_mixed (dCons (dVar 1) dNil))) (gN 3) (dTst (dBin oLt (dCallK 0 pre_l_tap post_l_tap (dCons (dC (.int 8)) dNil)) (dVar 2))) (dVar 3) [3])))))
def d_l_page : DTS :=
  (dRet (dJoin "\n" (dBin oAdd (dFr (fLst (dCons (dJoin " " (dVar 0)) dNil))) (dFr (dLc (iSeq (dVar 1)) (gTu (gsCons (gN 2) (gsCons (gN 3) gsNil)) 2) dYes (dBin oAdd (dBinV oAdd 2 (dC (.str " > "))) (dVar 3)) [2, 3])))))
def d_l_pushed : DTS :=
  (dRet (dFr (dLc (iSeq (dVar 0)) (gN 2) (dTst (dBin oEq (dIxV 2 (dC (.int 0))) (dVar 1))) (dIxV 2 (dC (.int 1))) [2])))
def d_l_alone : DTS :=
  (dSeq (dAsg (dFr (dLc (iSeq (dCall pre_l_pushed post_l_pushed (dCons (dVar 0) (dCons (dVar 1) dNil)))) (gN 4) (dTst (dBinV oNotIn 4 (dVar 2))) (dVar 4) [4])) (gN 3))
  (dRet (dIfE (dTst (dBin oEq (dLen (dVar 3)) (dC (.int 1)))) (dVar 3) (dFr (fLst dNil)))))
def d_l_game : DTS :=
  (dSeq (dAsg (dFr (fList (dVar 2))) (gN 3))
  (dSeq (dFor (iRange (dLen (dVar 0))) (gN 4) (dFor (iSeq (dVar 0)) (gN 5) (dIf (dTst (dBinV oIn 5 (dVar 3))) (dAsg (dBinV oAdd 3 (dCall pre_l_alone post_l_alone (dCons (dVar 1) (dCons (dVar 5) (dCons (dVar 3) dNil))))) (gN 3)) dNext)))
  (dRet (dVar 3))))
def d_l_table : DTS :=
  (dSeq (dAsgO (fLst dNil) 4)
  (dSeq (dFor (iSeq (dVar 1)) (gN 5) (dSeq (dAsgO (fLst dNil) 6)
  (dSeq (dFor (iSeq (dVar 1)) (gN 7) (dSeq (dAsg (dBin oAdd (dC (.int 1)) (dCallK 0 pre_l_tap post_l_tap (dCons (dVar 3) dNil))) (gN 8))
  (dSeq (dAsg (dIfE (dTst (dBin oEq (dCallK 0 pre_l_tap post_l_tap (dCons (dC (.int 2)) dNil)) (dC (.int 0)))) (dVar 8) (dBin oSub (dC (.int 0)) (dVar 8))) (gN 8))
  (dSeq (dIf (dTst (dBinV oEq 7 (dVar 5))) (dAsg (dCallK 0 pre_l_pick post_l_pick (dCons (dFr (fLst (dCons (dC (.int 0)) (dCons (dC (.int 0)) (dCons (dVar 8) dNil))))) dNil)) (gN 8)) (dIf (dTst (dBin oNotIn (dTup (dCons (dVar 7) (dCons (dVar 5) dNil))) (dVar 2))) (dAsg (dC (.int 0)) (gN 8)) dNext))
  (dApp 6 (dVar 8))))))
  (dApp 4 (dUn oTuple (dVar 6))))))
  (dRet (dUn oTuple (dVar 4)))))
def d_l_cut : DTS :=
  (dSeq (dAsg (dC (.int 0)) (gN 1))
  (dSeq (dFor (iSeq (dVar 0)) (gN 2) (dSeq (dAsg (dUn oAbs (dVar 2)) (gN 3))
  (dFor (iRange (dC (.int 100000))) (gN 4) (dSeq (dIf (dTst (dBinV oEq 3 (dC (.int 0)))) dBrk dNext)
  (dPar 1 3 (dCons (dVar 3) (dCons (dBin oMod (dUn oInt (dVar 1)) (dVar 3)) dNil)))))))
  (dRet (dIfE (dTst (dBinV oGt 1 (dC (.int 1)))) (dFr (dLc (iSeq (dVar 0)) (gN 2) dYes (dBinV oDiv 2 (dVar 1)) [2])) (dFr (fList (dVar 0)))))))
def d_l_free : DTS :=
  (dSeq (dPar 1 2 (dCons (dFr (dLc (iSeq (dVar 0)) (gN 3) dYes (dCall pre_l_cut post_l_cut (dCons (dVar 3) dNil)) [3])) (dCons (dC (.int 0)) dNil)))
  (dSeq (dFor (iRange (dIfE (dTst (dBinV oNe 0 (dFr (fLst dNil)))) (dLen (dIxV 0 (dC (.int 0)))) (dC (.int 0)))) (gN 4) (dSeq (dAsg (dFr (dLc (iSeq (dVar 1)) (gN 3) (dTst (dBin oNe (dIxV 3 (dVar 4)) (dC (.int 0)))) (dVar 3) [3])) (gN 5))
  (dIf (dTst (dBinV oNe 5 (dFr (fLst dNil)))) (dSeq (dPar 6 2 (dCons (dIxV 5 (dC (.int 0))) (dCons (dBinV oAdd 2 (dC (.int 1))) dNil)))
  (dSeq (dAsgO (dLc (iSeq (dVar 1)) (gN 3) (dTst (dBin oEq (dIxV 3 (dVar 4)) (dC (.int 0)))) (dVar 3) [3]) 7)
  (dSeq (dFor (iSeq (dSl (dVar 5) (dP (dC (.int 1))) dNoP)) (gN 3) (dSeq (dPar 8 9 (dCons (dIxV 6 (dVar 4)) (dCons (dIxV 3 (dVar 4)) dNil)))
  (dApp 7 (dCall pre_l_cut post_l_cut (dCons (dFr (dLc (iZip (dVar 3) (dVar 6)) (gTu (gsCons (gN 10) (gsCons (gN 11) gsNil)) 2) dYes (dBin oSub (dBinV oMul 10 (dVar 8)) (dBinV oMul 11 (dVar 9))) [10, 11])) dNil)))))
  (dFrz 7 (dAsg (dFr (dLc (iSeq (dVar 7)) (gN 3) (dTst (dBin oNe (dFr (dLc (iSeq (dVar 3)) (gN 12) (dTst (dBinV oNe 12 (dC (.int 0)))) (dVar 12) [12])) (dFr (fLst dNil)))) (dVar 3) [3])) (gN 1)))))) dNext)))
  (dRet (dVar 2))))
def d_l_come : DTS :=
  (dSeq (dAsgO (fLst dNil) 3)
  (dSeq (dFor (iSeq (dVar 1)) (gN 4) (dSeq (dAsg (dFr (dLc (iRange (dLen (dVar 0))) (gN 6) dYes (dUn oInt (dBinV oEq 6 (dVar 4))) [6])) (gN 5))
  (dFor (iRange (dVar 2)) (gN 7) (dSeq (dApp 3 (dVar 5))
  (dAsg (dFr (dLc (iSeq (dVar 0)) (gN 8) dYes (dUn oSum (dFr (dLc (iRange (dLen (dVar 5))) (gN 6) dYes (dBin oMul (dIxV 8 (dVar 6)) (dIxV 5 (dVar 6))) [6]))) [8])) (gN 5))))))
  (dFrz 3 (dRet (dVar 3)))))
def d_l_does_steer : DTS :=
  (dRet (dBin oEq (dCall pre_l_free post_l_free (dCons (dCall pre_l_come post_l_come (dCons (dVar 1) (dCons (dFr (dLc (iSeq (dVar 2)) (gN 3) dYes (dIndex (dVar 0) (dVar 3)) [3])) (dCons (dLen (dVar 0)) dNil)))) dNil)) (dLen (dVar 0))))
def d_l_asked : DTS :=
  (dSeq (dAsg (dFr (fLst (dCons (dCall pre_accepts post_accepts (dCons (dVar 0) (dCons (dVar 1) dNil))) (dCons (dCallS pre_accepts post_accepts (dCons (dVar 1) (dCons (dVar 0) dNil))) dNil)))) (gN 2))
  (dRet (dIfE (dTst (dBin oIn (dUn oReprB (dVar 2)) (dFr (fLst (dCons (dC (.str "[True, True]")) (dCons (dC (.str "[False, False]")) dNil)))))) (dIxV 2 (dC (.int 0))) (dC .none))))
def d_l_barring : DTS :=
  (dSeq (dPar 4 5 (dCons (dCall pre_l_game post_l_game (dCons (dVar 1) (dCons (dVar 2) (dCons (dVar 3) dNil)))) (dOne2 (d2Lc (iSeq (dCallK 0 pre_l_table post_l_table (dCons (dVar 1) (dCons (dVar 2) (dCons (dC (.int 5)) dNil))))) 6))))
  (dSeq (dAsg (dFr (dLc (iSeq (dVar 1)) (gN 7) dYes (dIfE (dTst (dBinV oIn 7 (dVar 4))) (dC (.int 0)) (dBin oSub (dC (.int 1)) (dBin oMul (dC (.int 2)) (dCallK 0 pre_l_tap post_l_tap (dCons (dC (.int 2)) dNil))))) [7])) (gN 6))
  (dSeq (dAsg (dBin oSub (dCallK 0 pre_l_tap post_l_tap (dCons (dC (.int 5)) dNil)) (dC (.int 2))) (gN 8))
  (dSeq (dFor (iRange (dLen (dVar 1))) (gN 9) (dSeq (dAsg (dFr (dLc (iRange (dLen (dVar 1))) (gN 11) (dAndT (dTst (dBin oNe (dIxV 6 (dVar 11)) (dC (.int 0)))) (dAndT (dTst (dBinV oNe 11 (dVar 9))) (dTst (dBin oNe (dIx2 5 (dVar 11) (dVar 9)) (dC (.int 0)))))) (dVar 11) [11])) (gN 10))
  (dSeq (dIf (dAndT (dTst (dBin oIn (dIxV 1 (dVar 9)) (dVar 4))) (dTst (dBinV oNe 10 (dFr (fLst dNil))))) (dSeq (dAsg (dC (.int 0)) (gN 12))
  (dSeq (dFor (iSeq (dSl (dVar 10) dNoP (dP (dUn oNeg (dC (.int 1)))))) (gN 11) (dSeq (dAsg (dBin oMul (dIxV 6 (dVar 11)) (dUn oAbs (dIx2 5 (dVar 11) (dVar 9)))) (gSet2 5 (dVar 11) (dVar 9)))
  (dAsg (dBinV oAdd 12 (dUn oAbs (dIx2 5 (dVar 11) (dVar 9)))) (gN 12))))
  (dAsg (dBin oSub (dC (.int 0)) (dBin oMul (dIxV 6 (dIxV 10 (dUn oNeg (dC (.int 1))))) (dVar 12))) (gSet2 5 (dIxV 10 (dUn oNeg (dC (.int 1)))) (dVar 9))))) dNext)
  (dIf (dTst (dBin oNotIn (dIxV 1 (dVar 9)) (dVar 4))) (dSeq (dAsg (dUn oSum (dFr (dLc (iSeq (dVar 10)) (gN 11) dYes (dBin oMul (dIxV 6 (dVar 11)) (dIx2 5 (dVar 11) (dVar 9))) [11]))) (gN 12))
  (dAsg (dBinV oSub 8 (dBin oMul (dIxV 6 (dVar 9)) (dVar 12))) (gSet2 5 (dVar 9) (dVar 9)))) dNext))))
  (dFrz 5 (dRet (dTup (dCons (dUn oTuple (dFr (dLc (iSeq (dVar 5)) (gN 13) dYes (dUn oTuple (dVar 13)) [13]))) (dCons (dTup (dCons (dUn oTuple (dVar 6)) (dCons (dVar 8) dNil))) dNil)))))))))
def d_l_low : DTS :=
  (dSeq (dPar 2 3 (dCons (dUn oAbs (dVar 0)) (dCons (dVar 1) dNil)))
  (dSeq (dFor (iRange (dC (.int 100000))) (gN 4) (dSeq (dIf (dTst (dBinV oEq 3 (dC (.int 0)))) dBrk dNext)
  (dPar 2 3 (dCons (dVar 3) (dCons (dBin oMod (dUn oInt (dVar 2)) (dVar 3)) dNil)))))
  (dRet (dTup (dCons (dBinV oDiv 0 (dVar 2)) (dCons (dBinV oDiv 1 (dVar 2)) dNil))))))
def d_l_add : DTS :=
  (dRet (dCall pre_l_low post_l_low (dCons (dBin oAdd (dBin oMul (dIxV 0 (dC (.int 0))) (dIxV 1 (dC (.int 1)))) (dBin oMul (dIxV 1 (dC (.int 0))) (dIxV 0 (dC (.int 1))))) (dCons (dBin oMul (dIxV 0 (dC (.int 1))) (dIxV 1 (dC (.int 1)))) dNil))))
def d_l_fold : DTS :=
  (dRet (dCall pre_l_low post_l_low (dCons (dBinV oMul 0 (dIxV 1 (dC (.int 0)))) (dCons (dIxV 1 (dC (.int 1))) dNil))))
def d_l_after_day : DTS :=
  (dSeq (dAsgO (fLst dNil) 4)
  (dSeq (dFor (iSeq (dVar 0)) (gN 5) (dSeq (dAsg (dTup (dCons (dC (.int 0)) (dCons (dC (.int 1)) dNil))) (gN 6))
  (dSeq (dFor (iRange (dLen (dVar 5))) (gN 7) (dAsg (dCall pre_l_add post_l_add (dCons (dVar 6) (dCons (dCall pre_l_fold post_l_fold (dCons (dIxV 5 (dVar 7)) (dCons (dIxV 2 (dVar 7)) dNil))) dNil))) (gN 6)))
  (dApp 4 (dVar 6)))))
  (dSeq (dFor (iRange (dLen (dVar 1))) (gN 7) (dAsg (dCall pre_l_add post_l_add (dCons (dIxV 4 (dIxV 1 (dVar 7))) (dCons (dIxV 3 (dVar 7)) dNil))) (gSet 4 (dIxV 1 (dVar 7)))))
  (dRet (dUn oTuple (dVar 4))))))
def d_l_come_to : DTS :=
  (dSeq (dFor (iSeq (dVar 3)) (gN 4) (dAsg (dCall pre_l_after_day post_l_after_day (dCons (dVar 0) (dCons (dVar 1) (dCons (dVar 2) (dCons (dVar 4) dNil))))) (gN 2)))
  (dRet (dVar 2)))
def d_l_wide_share : DTS :=
  (dSeq (dAsg (dBin oMul (dBin oMul (dBin oSub (dC (.int 1)) (dBin oMul (dC (.int 2)) (dCallK 0 pre_l_tap post_l_tap (dCons (dC (.int 2)) dNil)))) (dBin oAdd (dC (.int 1)) (dCallK 0 pre_l_tap post_l_tap (dCons (dBin oPow (dC (.int 10)) (dC (.int 9))) dNil)))) (dBin oAdd (dC (.int 1)) (dCallK 0 pre_l_tap post_l_tap (dCons (dBin oPow (dC (.int 10)) (dC (.int 9))) dNil)))) (gN 1))
  (dRet (dCall pre_l_low post_l_low (dCons (dVar 1) (dCons (dBin oAdd (dBin oPow (dC (.int 10)) (dC (.int 18))) (dC (.int 9))) dNil)))))
def d_l_edge : DTS :=
  (dSeq (dAsgO (fLst dNil) 4)
  (dSeq (dFor (iSeq (dVar 1)) (gN 5) (dSeq (dAsgO (fLst dNil) 6)
  (dSeq (dFor (iSeq (dVar 1)) (gN 7) (dSeq (dAsg (dIfE (dTst (dBin oEq (dCallK 0 pre_l_tap post_l_tap (dCons (dC (.int 2)) dNil)) (dC (.int 0)))) (dVar 3) (dBin oSub (dC (.int 0)) (dVar 3))) (gN 8))
  (dApp 6 (dIfE (dOrT (dTst (dBinV oEq 7 (dVar 5))) (dTst (dBin oIn (dTup (dCons (dVar 7) (dCons (dVar 5) dNil))) (dVar 2)))) (dVar 8) (dC (.int 0))))))
  (dApp 4 (dUn oTuple (dVar 6))))))
  (dRet (dUn oTuple (dVar 4)))))
def d_l_bar_right : DTS :=
  (dSeq (dAsg (dCallK 0 pre_l_barring post_l_barring (dCons (dVar 1) (dCons (dVar 2) (dCons (dVar 3) dNil)))) (gTu (gsCons (gN 5) (gsCons (gN 6) gsNil)) 2))
  (dSeq (dAsg (dBin oLt (dLen (dCall pre_l_game post_l_game (dCons (dVar 1) (dCons (dVar 2) (dCons (dVar 3) dNil))))) (dLen (dVar 1))) (gN 7))
  (dSeq (dAsg (dUn oTuple (dFr (dLc (iSeq (dIxV 6 (dC (.int 0)))) (gN 9) dYes (dBinV oMul 9 (dBin oAdd (dBin oPow (dC (.int 10)) (dC (.int 30))) (dC (.int 7)))) [9]))) (gN 8))
  (dSeq (dAsgO (fLst (dCons (dCall pre_l_asked post_l_asked (dCons (dTup (dCons (dC (.str "not always")) (dCons (dVar 4) (dCons (dVar 3) dNil)))) (dCons (dTup (dCons (dVar 5) (dCons (dTup (dCons (dVar 8) (dCons (dIxV 6 (dC (.int 1))) dNil))) dNil))) dNil))) dNil)) 10)
  (dSeq (dApp 10 (dCall pre_l_asked post_l_asked (dCons (dTup (dCons (dC (.str "not always")) (dCons (dVar 4) (dCons (dVar 3) dNil)))) (dCons (dTup (dCons (dVar 5) (dCons (dTup (dCons (dVar 8) (dCons (dBin oAdd (dIxV 6 (dC (.int 1))) (dBin oPow (dC (.int 10)) (dC (.int 30)))) dNil))) dNil))) dNil))))
  (dSeq (dAsg (dUn oTuple (dFr (dLc (iSeq (dVar 1)) (gN 12) dYes (dBin oMul (dUn oInt (dBinV oNotIn 12 (dVar 3))) (dBin oPow (dC (.int 10)) (dC (.int 25)))) [12]))) (gN 11))
  (dSeq (dAsg (dCallK 0 pre_l_edge post_l_edge (dCons (dVar 1) (dCons (dTup dNil) (dCons (dBin oPow (dC (.int 10)) (dC (.int 6))) dNil)))) (gN 13))
  (dSeq (dAsg (dJoin " " (dVar 1)) (gN 14))
  (dSeq (dAsg (dUn oTuple (dFr (dLc (iRange (dLen (dVar 1))) (gN 16) dYes (dBin oMul (dIxV 11 (dVar 16)) (dUn oInt (dBinV oEq 16 (dBin oSub (dLen (dVar 1)) (dC (.int 1)))))) [16]))) (gN 15))
  (dSeq (dApp 10 (dCall pre_l_asked post_l_asked (dCons (dTup (dCons (dC (.str "not always")) (dCons (dVar 14) (dCons (dVar 3) dNil)))) (dCons (dTup (dCons (dVar 13) (dCons (dTup (dCons (dVar 15) (dCons (dBin oIx (dIxV 13 (dUn oNeg (dC (.int 1)))) (dUn oNeg (dC (.int 1)))) dNil))) dNil))) dNil))))
  (dRet (dBinV oEq 10 (dFr (fLst (dCons (dVar 7) (dCons (dC (.bool false)) (dCons (dBin oNotIn (dIxV 1 (dUn oNeg (dC (.int 1)))) (dVar 3)) dNil)))))))))))))))))
def d_l_edge_right : DTS :=
  (dSeq (dFor (iSeq (dFr (fLst (dCons (dBin oPow (dC (.int 10)) (dC (.int 6))) (dCons (dBin oAdd (dBin oPow (dC (.int 10)) (dC (.int 6))) (dC (.int 1))) dNil))))) (gN 5) (dSeq (dAsg (dCallK 0 pre_l_edge post_l_edge (dCons (dVar 1) (dCons (dVar 2) (dCons (dVar 5) dNil)))) (gN 6))
  (dSeq (dAsg (dAnd (dBinV oEq 5 (dBin oPow (dC (.int 10)) (dC (.int 6)))) (dCall pre_l_does_steer post_l_does_steer (dCons (dVar 1) (dCons (dVar 6) (dCons (dVar 3) dNil))))) (gN 7))
  (dSeq (dIf (dTst (dBin oNe (dCall pre_l_asked post_l_asked (dCons (dTup (dCons (dC (.str "sometimes")) (dCons (dVar 4) (dCons (dVar 3) dNil)))) (dCons (dVar 6) dNil))) (dVar 7))) (dRet (dC (.bool false))) dNext)
  (dSeq (dAsg (dBin oMul (dTup (dCons (dTup (dCons (dC (.int 0)) (dCons (dC (.int 1)) dNil))) dNil)) (dLen (dVar 1))) (gN 8))
  (dSeq (dAsg (dTup (dCons (dC (.str "leads")) (dCons (dVar 4) (dCons (dVar 6) (dCons (dVar 3) (dCons (dVar 8) (dCons (dVar 8) dNil))))))) (gN 9))
  (dIf (dTst (dBin oNe (dCall pre_l_asked post_l_asked (dCons (dVar 9) (dCons (dTup dNil) dNil))) (dBinV oEq 5 (dBin oPow (dC (.int 10)) (dC (.int 6)))))) (dRet (dC (.bool false))) dNext)))))))
  (dRet (dC (.bool true))))
def d_l_way_right : DTS :=
  (dSeq (dPar 5 6 (dCons (dCallK 0 pre_l_table post_l_table (dCons (dVar 1) (dCons (dVar 2) (dCons (dC (.int 3)) dNil)))) (dCons (dFr (dLc (iSeq (dVar 3)) (gN 7) dYes (dIndex (dVar 1) (dVar 7)) [7])) dNil)))
  (dSeq (dPar 8 9 (dCons (dUn oTuple (dFr (dLc (iSeq (dVar 1)) (gN 7) dYes (dCallK 0 pre_l_wide_share post_l_wide_share dNil) [7]))) (dCons (dCallK 0 pre_l_pick post_l_pick (dCons (dFr (fLst (dCons (dC (.int 0)) (dCons (dC (.int 1)) (dCons (dC (.int 3)) (dCons (dC (.int 13)) (dCons (dC (.int 20)) dNil))))))) dNil)) dNil)))
  (dSeq (dAsg (dUn oTuple (dFr (dLc (iRange (dVar 9)) (gN 11) dYes (dUn oTuple (dFr (dLc (iSeq (dVar 3)) (gN 7) dYes (dCallK 0 pre_l_wide_share post_l_wide_share dNil) [7]))) [11]))) (gN 10))
  (dSeq (dPar 12 13 (dCons (dCall pre_l_come_to post_l_come_to (dCons (dVar 5) (dCons (dVar 6) (dCons (dVar 8) (dCons (dVar 10) dNil))))) (dCons (dCallK 0 pre_l_tap post_l_tap (dCons (dLen (dVar 1)) dNil)) dNil)))
  (dSeq (dAsg (dCall pre_l_low post_l_low (dCons (dBin oAdd (dBin oIx (dIxV 12 (dVar 13)) (dC (.int 0))) (dBin oIx (dIxV 12 (dVar 13)) (dC (.int 1)))) (dCons (dBin oIx (dIxV 12 (dVar 13)) (dC (.int 1))) dNil))) (gN 14))
  (dSeq (dAsg (dBin oAdd (dBin oAdd (dSl (dVar 12) dNoP (dP (dVar 13))) (dTup (dCons (dVar 14) dNil))) (dSl (dVar 12) (dP (dBinV oAdd 13 (dC (.int 1)))) dNoP)) (gN 15))
  (dSeq (dAsgO (fLst (dCons (dCall pre_l_asked post_l_asked (dCons (dTup (dCons (dC (.str "leads")) (dCons (dVar 4) (dCons (dVar 5) (dCons (dVar 3) (dCons (dVar 8) (dCons (dVar 12) dNil))))))) (dCons (dVar 10) dNil))) dNil)) 16)
  (dSeq (dApp 16 (dCall pre_l_asked post_l_asked (dCons (dTup (dCons (dC (.str "leads")) (dCons (dVar 4) (dCons (dVar 5) (dCons (dVar 3) (dCons (dVar 8) (dCons (dVar 15) dNil))))))) (dCons (dVar 10) dNil))))
  (dRet (dBinV oEq 16 (dFr (fLst (dCons (dC (.bool true)) (dCons (dC (.bool false)) dNil))))))))))))))
def d_l_right : DTS :=
  (dSeq (dFor (iRange (dC (.int 2))) (gN 1) (dSeq (dAsg (dCallK 0 pre_l_crew post_l_crew (dCons (dC (.int 2)) (dCons (dC (.int 5)) dNil))) (gN 2))
  (dSeq (dPar 3 4 (dCons (dCallK 0 pre_l_roads post_l_roads (dCons (dVar 2) dNil)) (dCons (dCallK 0 pre_l_heads post_l_heads (dCons (dVar 2) dNil)) dNil)))
  (dSeq (dAsg (dCall pre_l_page post_l_page (dCons (dVar 2) (dCons (dVar 3) dNil))) (gN 5))
  (dSeq (dIf (dNotT (dTst (dCallK 0 pre_l_bar_right post_l_bar_right (dCons (dVar 2) (dCons (dVar 3) (dCons (dVar 4) (dCons (dVar 5) dNil))))))) (dRet (dC (.bool false))) dNext)
  (dSeq (dIf (dNotT (dTst (dCallK 0 pre_l_edge_right post_l_edge_right (dCons (dVar 2) (dCons (dVar 3) (dCons (dVar 4) (dCons (dVar 5) dNil))))))) (dRet (dC (.bool false))) dNext)
  (dIf (dNotT (dTst (dCallK 0 pre_l_way_right post_l_way_right (dCons (dVar 2) (dCons (dVar 3) (dCons (dVar 4) (dCons (dVar 5) dNil))))))) (dRet (dC (.bool false))) dNext)))))))
  (dRet (dC (.bool true))))
def d_law : DTS :=
  (dRet (dUn oAll (dFr (dLc (iRange (dB2 oMax2 (dC (.int 2)) (dB2 oMin2 (dLen (dVar 0)) (dC (.int 4))))) (gN 1) dYes (dCallF pre_l_right post_l_right (fCall pre_l_keg post_l_keg (dCons (dVar 0) (dCons (dVar 1) dNil)))) [1]))))
end Dl

end
section
set_option Elab.async false
set_option linter.all false
set_option maxRecDepth 100000
set_option maxHeartbeats 4000000
set_option autoImplicit false
/-! The derivations, printed by gen.py. -/
namespace Dl
open PySem PySem.Spec PyProof.Rows L2
open Evl (Ex)
section
variable {P : Program} {w : World} {K : PySem.W.Frag} {mg : Str → Option Value} {base : Heap} {C : Addr}
abbrev N_is_integer : List Str := ["value"]
theorem sc_is_integer : FnScope N_is_integer ["value"] (defScope s_is_integer) := ⟨rfl, rfl, rfl, by decide +kernel, rfl, by decide +kernel, by decide +kernel⟩
theorem pd_is_integer (T : Tx K mg C) {f : Addr} : Body P w K mg base C f N_is_integer "is_integer" s_is_integer 0 anyG d_is_integer := fun cdv A outer s H E hg hr => by
  have hu := hu64_of hr
  have hu65 := hu65_of hr
  exact
    (pds_one (pds_ret (pd_and (pd_isTy (T := "int") (by decide) T.isinstance T.int (pd_var 0)) (pd_one (pd_not (pd_isTy (T := "bool") (by decide) T.isinstance T.bool (pd_var 0)))))))
abbrev N_is_within : List Str := ["value", "least", "most"]
theorem sc_is_within : FnScope N_is_within ["value", "least", "most"] (defScope s_is_within) := ⟨rfl, rfl, rfl, by decide +kernel, rfl, by decide +kernel, by decide +kernel⟩
theorem pd_is_within (T : Tx K mg C) (c_is_integer : Cal P w K mg base "is_integer" 1 ["value"] (spD K C pre_is_integer post_is_integer)) {f : Addr} : Body P w K mg base C f N_is_within "is_within" s_is_within 1 anyG d_is_within := fun cdv A outer s H E hg hr => by
  have hu := hu64_of hr
  have hu65 := hu65_of hr
  exact
    (pds_one (pds_ret (pd_and (pd_call c_is_integer (hr.mono (by decide)) (pda_cons (pd_var 0) pda_nil)) (pd_one (pd_chain sd_le sd_le (pd_var 1) (pd_var 0) (pd_var 2))))))
abbrev N_is_name : List Str := ["value", "sign"]
theorem sc_is_name : FnScope N_is_name ["value"] (defScope s_is_name) := ⟨rfl, rfl, rfl, by decide +kernel, rfl, by decide +kernel, by decide +kernel⟩
theorem pd_is_name (T : Tx K mg C) {f : Addr} : Body P w K mg base C f N_is_name "is_name" s_is_name 0 anyG d_is_name := fun cdv A outer s H E hg hr => by
  have hu := hu64_of hr
  have hu65 := hu65_of hr
  exact
    (pds_cons (pds_if (pdt_w (pdw_or (pdt_not (pdt_val (pd_isTy (T := "str") (by decide) T.isinstance T.str (pd_var 0)))) (pdw_or1 (pdt_not (pdt_chain sd_le sd_le pd_int (pd_len T.len (pd_var 0)) (T.c_LONGEST_NAME (by rfl))))))) (pds_one (pds_ret pd_bl)) pds_nil)
    (pds_one (pds_ret (pd_and (pd_cmp (sd_in hu65) (pd_ixV 0 pd_int) (T.c_LETTERS (by rfl))) (pd_one (pd_b1 (sd_all rfl) T.all (pd_fr (pdf_lc [("sign", 1)] rfl sc_is_name.nd (pdi_chars (pd_var 0)) rfl (fun _ _ _ _ _ => (pdg_name 1 sc_is_name.nd)) (fun _ _ _ _ _ => pdts_nil) (fun _ _ _ _ _ => (pd_or (pd_cmpV (sd_in hu65) 1 (T.c_LETTERS (by rfl))) (pd_one (pd_cmpV (sd_in hu65) 1 (T.c_DIGITS (by rfl))))))))))))))
abbrev N_wrong_part : List Str := ["parts", "at", "name"]
theorem sc_wrong_part : FnScope N_wrong_part ["parts"] (defScope s_wrong_part) := ⟨rfl, rfl, rfl, by decide +kernel, rfl, by decide +kernel, by decide +kernel⟩
theorem pd_wrong_part (T : Tx K mg C) (c_is_name : Cal P w K mg base "is_name" 1 ["value"] (spD K C pre_is_name post_is_name)) {f : Addr} : Body P w K mg base C f N_wrong_part "wrong_part" s_wrong_part 1 anyG d_wrong_part := fun cdv A outer s H E hg hr => by
  have hu := hu64_of hr
  have hu65 := hu65_of hr
  exact
    (pds_cons (pds_if (pdt_w (pdw_or (pdt_not (pdt_val (pd_isTy (T := "tuple") (by decide) T.isinstance T.tuple (pd_var 0)))) (pdw_or1 (pdt_cmp (sd_eq hu) (pd_len T.len (pd_var 0)) pd_int)))) (pds_one (pds_ret (pd_tup (pda_cons pd_non pda_nil)))) pds_nil)
    (pds_cons (pds_for PassesOwn.never rfl (pdi_enum T.enumerate (pd_var 0)) (pdg_tup rfl (pdgs_cons (pdg_name 1 sc_wrong_part.nd) (pdgs_cons (pdg_name 2 sc_wrong_part.nd) pdgs_nil))) (pds_one (pds_if (pdt_w (pdw_or (pdt_not (pdt_val (pd_call c_is_name (hr.mono (by decide)) (pda_cons (pd_var 2) pda_nil)))) (pdw_or (pdt_cmpV sd_ge 1 (T.c_MOST_PARTS (by rfl))) (pdw_or1 (pdt_cmpV (sd_in hu65) 2 (pd_slice (pd_var 0) pdo_none (pdo_some (pd_var 1)))))))) (pds_one (pds_ret (pd_tup (pda_cons (pd_var 1) pda_nil)))) pds_nil)))
    (pds_one (pds_ret (pd_tup pda_nil)))))
abbrev N_is_pair : List Str := ["parts", "value"]
theorem sc_is_pair : FnScope N_is_pair ["parts", "value"] (defScope s_is_pair) := ⟨rfl, rfl, rfl, by decide +kernel, rfl, by decide +kernel, by decide +kernel⟩
theorem pd_is_pair (T : Tx K mg C) {f : Addr} : Body P w K mg base C f N_is_pair "is_pair" s_is_pair 0 anyG d_is_pair := fun cdv A outer s H E hg hr => by
  have hu := hu64_of hr
  have hu65 := hu65_of hr
  exact
    (pds_cons (pds_if (pdt_w (pdw_or (pdt_not (pdt_val (pd_isTy (T := "tuple") (by decide) T.isinstance T.tuple (pd_var 1)))) (pdw_or (pdt_cmp (sd_ne hu) (pd_len T.len (pd_var 1)) pd_int) (pdw_or (pdt_cmp (sd_notIn hu65) (pd_ixV 1 pd_int) (pd_var 0)) (pdw_or1 (pdt_cmp (sd_notIn hu65) (pd_ixV 1 pd_int) (pd_var 0))))))) (pds_one (pds_ret pd_bl)) pds_nil)
    (pds_one (pds_ret (pd_cmp (sd_ne hu) (pd_ixV 1 pd_int) (pd_ixV 1 pd_int)))))
abbrev N_wrong_tie : List Str := ["parts", "ties", "at", "tie"]
theorem sc_wrong_tie : FnScope N_wrong_tie ["parts", "ties"] (defScope s_wrong_tie) := ⟨rfl, rfl, rfl, by decide +kernel, rfl, by decide +kernel, by decide +kernel⟩
theorem pd_wrong_tie (T : Tx K mg C) (c_is_pair : Cal P w K mg base "is_pair" 1 ["parts", "value"] (spD K C pre_is_pair post_is_pair)) {f : Addr} : Body P w K mg base C f N_wrong_tie "wrong_tie" s_wrong_tie 1 anyG d_wrong_tie := fun cdv A outer s H E hg hr => by
  have hu := hu64_of hr
  have hu65 := hu65_of hr
  exact
    (pds_cons (pds_if (pdt_not (pdt_val (pd_isTy (T := "tuple") (by decide) T.isinstance T.tuple (pd_var 1)))) (pds_one (pds_ret (pd_tup (pda_cons pd_non pda_nil)))) pds_nil)
    (pds_cons (pds_for PassesOwn.never rfl (pdi_enum T.enumerate (pd_var 1)) (pdg_tup rfl (pdgs_cons (pdg_name 2 sc_wrong_tie.nd) (pdgs_cons (pdg_name 3 sc_wrong_tie.nd) pdgs_nil))) (pds_one (pds_if (pdt_w (pdw_or (pdt_not (pdt_val (pd_call c_is_pair (hr.mono (by decide)) (pda_cons (pd_var 0) (pda_cons (pd_var 3) pda_nil))))) (pdw_or1 (pdt_cmpV (sd_in hu65) 3 (pd_slice (pd_var 1) pdo_none (pdo_some (pd_var 2))))))) (pds_one (pds_ret (pd_tup (pda_cons (pd_var 2) pda_nil)))) pds_nil)))
    (pds_one (pds_ret (pd_tup pda_nil)))))
abbrev N_read_works : List Str := ["text", "lines", "parts", "ties", "line"]
theorem sc_read_works : FnScope N_read_works ["text"] (defScope s_read_works) := ⟨rfl, rfl, rfl, by decide +kernel, rfl, by decide +kernel, by decide +kernel⟩
theorem pd_read_works (T : Tx K mg C) (c_wrong_part : Cal P w K mg base "wrong_part" 2 ["parts"] (spD K C pre_wrong_part post_wrong_part)) (c_wrong_tie : Cal P w K mg base "wrong_tie" 2 ["parts", "ties"] (spD K C pre_wrong_tie post_wrong_tie)) {f : Addr} : Body P w K mg base C f N_read_works "read_works" s_read_works 2 anyG d_read_works := fun cdv A outer s H E hg hr => by
  have hu := hu64_of hr
  have hu65 := hu65_of hr
  exact
    (pds_cons (pds_if (pdt_not (pdt_val (pd_isTy (T := "str") (by decide) T.isinstance T.str (pd_var 0)))) (pds_one (pds_ret pd_non)) pds_nil)
    (pds_cons (pds_asg (pd_fr (pdf_split (pd_var 0))) (pdg_name 1 sc_read_works.nd))
    (pds_cons (pds_par 2 3 rfl sc_read_works.nd (pda_cons (pd_t1 sd_tuple T.tuple (pd_fr (pdf_split (pd_ixV 1 pd_int)))) (pda_cons (pd_t1 sd_tuple T.tuple (pd_fr (pdf_lc [("line", 4)] rfl sc_read_works.nd (pdi_seq (pd_slice (pd_var 1) (pdo_some pd_int) pdo_none)) rfl (fun _ _ _ _ _ => (pdg_name 4 sc_read_works.nd)) (fun _ _ _ _ _ => pdts_nil) (fun _ _ _ _ _ => (pd_t1 sd_tuple T.tuple (pd_fr (pdf_split (pd_var 4)))))))) pda_nil)))
    (pds_cons (pds_if (pdt_w (pdw_or (pdt_cmp (sd_ne hu) (pd_call c_wrong_part (hr.mono (by decide)) (pda_cons (pd_var 2) pda_nil)) (pd_tup pda_nil)) (pdw_or1 (pdt_cmp (sd_ne hu) (pd_call c_wrong_tie (hr.mono (by decide)) (pda_cons (pd_var 2) (pda_cons (pd_var 3) pda_nil))) (pd_tup pda_nil))))) (pds_one (pds_ret pd_non)) pds_nil)
    (pds_one (pds_ret (pd_tup (pda_cons (pd_var 2) (pda_cons (pd_var 3) pda_nil)))))))))
abbrev N_wrong_leader : List Str := ["parts", "leaders", "at", "part"]
theorem sc_wrong_leader : FnScope N_wrong_leader ["parts", "leaders"] (defScope s_wrong_leader) := ⟨rfl, rfl, rfl, by decide +kernel, rfl, by decide +kernel, by decide +kernel⟩
theorem pd_wrong_leader (T : Tx K mg C) {f : Addr} : Body P w K mg base C f N_wrong_leader "wrong_leader" s_wrong_leader 0 anyG d_wrong_leader := fun cdv A outer s H E hg hr => by
  have hu := hu64_of hr
  have hu65 := hu65_of hr
  exact
    (pds_cons (pds_if (pdt_not (pdt_val (pd_isTy (T := "tuple") (by decide) T.isinstance T.tuple (pd_var 1)))) (pds_one (pds_ret (pd_tup (pda_cons pd_non pda_nil)))) pds_nil)
    (pds_cons (pds_for PassesOwn.never rfl (pdi_enum T.enumerate (pd_var 1)) (pdg_tup rfl (pdgs_cons (pdg_name 2 sc_wrong_leader.nd) (pdgs_cons (pdg_name 3 sc_wrong_leader.nd) pdgs_nil))) (pds_one (pds_if (pdt_w (pdw_or (pdt_cmpV (sd_notIn hu65) 3 (pd_var 0)) (pdw_or1 (pdt_cmpV (sd_in hu65) 3 (pd_slice (pd_var 1) pdo_none (pdo_some (pd_var 2))))))) (pds_one (pds_ret (pd_tup (pda_cons (pd_var 2) pda_nil)))) pds_nil)))
    (pds_one (pds_ret (pd_tup pda_nil)))))
abbrev N_is_strong_row : List Str := ["works", "at", "value", "each", "place"]
theorem sc_is_strong_row : FnScope N_is_strong_row ["works", "at", "value"] (defScope s_is_strong_row) := ⟨rfl, rfl, rfl, by decide +kernel, rfl, by decide +kernel, by decide +kernel⟩
theorem pd_is_strong_row (T : Tx K mg C) (W : WorkK P w K mg base C) (c_is_within : Cal P w K mg base "is_within" 2 ["value", "least", "most"] (spD K C pre_is_within post_is_within)) {f : Addr} : Body P w K mg base C f N_is_strong_row "is_strong_row" s_is_strong_row 2 anyG d_is_strong_row := fun cdv A outer s H E hg hr => by
  have hu := hu64_of hr
  have hu65 := hu65_of hr
  exact
    (pds_cons (pds_if (pdt_w (pdw_or (pdt_not (pdt_val (pd_isTy (T := "tuple") (by decide) T.isinstance T.tuple (pd_var 2)))) (pdw_or1 (pdt_cmp (sd_ne hu) (pd_len T.len (pd_var 2)) (pd_lenW 0 W (hr.mono (by decide)) T.len))))) (pds_one (pds_ret pd_bl)) pds_nil)
    (pds_cons (pds_if (pdt_not (pdt_val (pd_b1 (sd_all rfl) T.all (pd_fr (pdf_lc [("each", 3)] rfl sc_is_strong_row.nd (pdi_seq (pd_var 2)) rfl (fun _ _ _ _ _ => (pdg_name 3 sc_is_strong_row.nd)) (fun _ _ _ _ _ => pdts_nil) (fun _ _ _ _ _ => (pd_call c_is_within (hr.mono (by decide)) (pda_cons (pd_var 3) (pda_cons (pd_op sd_sub pd_int (T.c_MOST_STRENGTH (by rfl))) (pda_cons (T.c_MOST_STRENGTH (by rfl)) pda_nil)))))))))) (pds_one (pds_ret pd_bl)) pds_nil)
    (pds_one (pds_ret (pd_b1 (sd_all rfl) T.all (pd_fr (pdf_lc [("place", 4), ("each", 3)] rfl sc_is_strong_row.nd (pdi_enum T.enumerate (pd_var 2)) rfl (fun _ _ _ _ _ => (pdg_tup rfl (pdgs_cons (pdg_name 4 sc_is_strong_row.nd) (pdgs_cons (pdg_name 3 sc_is_strong_row.nd) pdgs_nil)))) (fun _ _ _ _ _ => pdts_nil) (fun _ _ _ _ _ => (pd_or (pd_cmpV (sd_eq hu) 4 (pd_var 1)) (pd_one (pd_cmp (sd_eq hu) (pd_cmpV (sd_ne hu) 3 pd_int) (pd_cmpV (sd_in hu65) 1 (pd_ix (pd_pushed W (pd_var 0)) (pd_var 4))))))))))))))
abbrev N_wrong_row : List Str := ["works", "strengths", "at", "row"]
theorem sc_wrong_row : FnScope N_wrong_row ["works", "strengths"] (defScope s_wrong_row) := ⟨rfl, rfl, rfl, by decide +kernel, rfl, by decide +kernel, by decide +kernel⟩
theorem pd_wrong_row (T : Tx K mg C) (W : WorkK P w K mg base C) (c_is_strong_row : Cal P w K mg base "is_strong_row" 3 ["works", "at", "value"] (spD K C pre_is_strong_row post_is_strong_row)) {f : Addr} : Body P w K mg base C f N_wrong_row "wrong_row" s_wrong_row 3 anyG d_wrong_row := fun cdv A outer s H E hg hr => by
  have hu := hu64_of hr
  have hu65 := hu65_of hr
  exact
    (pds_cons (pds_if (pdt_w (pdw_or (pdt_not (pdt_val (pd_isTy (T := "tuple") (by decide) T.isinstance T.tuple (pd_var 1)))) (pdw_or1 (pdt_cmp (sd_ne hu) (pd_len T.len (pd_var 1)) (pd_lenW 0 W (hr.mono (by decide)) T.len))))) (pds_one (pds_ret (pd_tup (pda_cons pd_non pda_nil)))) pds_nil)
    (pds_cons (pds_for PassesOwn.never rfl (pdi_enum T.enumerate (pd_var 1)) (pdg_tup rfl (pdgs_cons (pdg_name 2 sc_wrong_row.nd) (pdgs_cons (pdg_name 3 sc_wrong_row.nd) pdgs_nil))) (pds_one (pds_if (pdt_not (pdt_val (pd_call c_is_strong_row (hr.mono (by decide)) (pda_cons (pd_var 0) (pda_cons (pd_var 2) (pda_cons (pd_var 3) pda_nil)))))) (pds_one (pds_ret (pd_tup (pda_cons (pd_var 2) pda_nil)))) pds_nil)))
    (pds_one (pds_ret (pd_tup pda_nil)))))
abbrev N_is_bar_row : List Str := ["strengths", "row", "value", "line", "ratio", "each", "at", "place"]
theorem sc_is_bar_row : FnScope N_is_bar_row ["strengths", "row", "value"] (defScope s_is_bar_row) := ⟨rfl, rfl, rfl, by decide +kernel, rfl, by decide +kernel, by decide +kernel⟩
theorem pd_is_bar_row (T : Tx K mg C) (c_is_integer : Cal P w K mg base "is_integer" 1 ["value"] (spD K C pre_is_integer post_is_integer)) {f : Addr} : Body P w K mg base C f N_is_bar_row "is_bar_row" s_is_bar_row 1 anyG d_is_bar_row := fun cdv A outer s H E hg hr => by
  have hu := hu64_of hr
  have hu65 := hu65_of hr
  exact
    (pds_cons (pds_if (pdt_w (pdw_or (pdt_not (pdt_val (pd_isTy (T := "tuple") (by decide) T.isinstance T.tuple (pd_var 2)))) (pdw_or (pdt_cmp (sd_ne hu) (pd_len T.len (pd_var 2)) pd_int) (pdw_or1 (pdt_not (pdt_val (pd_call c_is_integer (hr.mono (by decide)) (pda_cons (pd_ixV 2 pd_int) pda_nil)))))))) (pds_one (pds_ret pd_bl)) pds_nil)
    (pds_cons (pds_asg (pd_var 2) (pdg_tup rfl (pdgs_cons (pdg_name 3 sc_is_bar_row.nd) (pdgs_cons (pdg_name 4 sc_is_bar_row.nd) pdgs_nil))))
    (pds_cons (pds_if (pdt_w (pdw_or (pdt_not (pdt_val (pd_isTy (T := "tuple") (by decide) T.isinstance T.tuple (pd_var 3)))) (pdw_or (pdt_cmp (sd_ne hu) (pd_len T.len (pd_var 3)) (pd_len T.len (pd_var 0))) (pdw_or1 (pdt_not (pdt_val (pd_b1 (sd_all rfl) T.all (pd_fr (pdf_lc [("each", 5)] rfl sc_is_bar_row.nd (pdi_seq (pd_var 3)) rfl (fun _ _ _ _ _ => (pdg_name 5 sc_is_bar_row.nd)) (fun _ _ _ _ _ => pdts_nil) (fun _ _ _ _ _ => (pd_call c_is_integer (hr.mono (by decide)) (pda_cons (pd_var 5) pda_nil)))))))))))) (pds_one (pds_ret pd_bl)) pds_nil)
    (pds_cons (pds_if (pdt_w (pdw_or (pdt_not (pdt_val (pd_b1 (sd_any rfl) T.any (pd_fr (pdf_lc [("each", 5)] rfl sc_is_bar_row.nd (pdi_seq (pd_var 3)) rfl (fun _ _ _ _ _ => (pdg_name 5 sc_is_bar_row.nd)) (fun _ _ _ _ _ => pdts_nil) (fun _ _ _ _ _ => (pd_cmpV (sd_ne hu) 5 pd_int))))))) (pdw_or1 (pdt_val (pd_b1 (sd_any rfl) T.any (pd_fr (pdf_lc [("at", 6)] rfl sc_is_bar_row.nd (pdi_seq (pd_var 1)) rfl (fun _ _ _ _ _ => (pdg_name 6 sc_is_bar_row.nd)) (fun _ _ _ _ _ => pdts_nil) (fun _ _ _ _ _ => (pd_cmp (sd_ne hu) (pd_ixV 3 (pd_var 6)) pd_int))))))))) (pds_one (pds_ret pd_bl)) pds_nil)
    (pds_cons (pds_for PassesOwn.never rfl (pdi_range T.range (pd_len T.len (pd_var 3))) (pdg_name 6 sc_is_bar_row.nd) (pds_one (pds_if (pdt_cmp (sd_ne hu) (pd_b1 (sd_sum rfl) T.sum (pd_fr (pdf_lc [("place", 7)] rfl sc_is_bar_row.nd (pdi_range T.range (pd_len T.len (pd_var 3))) rfl (fun _ _ _ _ _ => (pdg_name 7 sc_is_bar_row.nd)) (fun _ _ _ _ _ => pdts_nil) (fun _ _ _ _ _ => (pd_op sd_mul (pd_ixV 3 (pd_var 7)) (pd_ix (pd_ixV 0 (pd_var 7)) (pd_var 6))))))) (pd_opV sd_mul 4 (pd_ixV 3 (pd_var 6)))) (pds_one (pds_ret pd_bl)) pds_nil)))
    (pds_one (pds_ret pd_bl)))))))
abbrev N_reduced : List Str := ["top", "bottom", "one", "other"]
theorem sc_reduced : FnScope N_reduced ["top", "bottom"] (defScope s_reduced) := ⟨rfl, rfl, rfl, by decide +kernel, rfl, by decide +kernel, by decide +kernel⟩
theorem pd_reduced (T : Tx K mg C) {f : Addr} : Body P w K mg base C f N_reduced "reduced" s_reduced 0 anyG d_reduced := fun cdv A outer s H E hg hr => by
  have hu := hu64_of hr
  have hu65 := hu65_of hr
  exact
    (pds_cons (pds_par 2 3 rfl sc_reduced.nd (pda_cons (pd_b1 sd_abs T.abs (pd_var 0)) (pda_cons (pd_var 1) pda_nil)))
    (pds_cons (pds_while PassesOwn.never (pdt_cmpV (sd_ne hu) 3 pd_int) (pds_one (pds_par 2 3 rfl sc_reduced.nd (pda_cons (pd_var 3) (pda_cons (pd_opV sd_mod 2 (pd_var 3)) pda_nil)))))
    (pds_one (pds_ret (pd_tup (pda_cons (pd_opV sd_div 0 (pd_var 2)) (pda_cons (pd_opV sd_div 1 (pd_var 2)) pda_nil)))))))
end
end Dl

end
section
set_option Elab.async false
set_option linter.all false
set_option maxRecDepth 100000
set_option maxHeartbeats 4000000
set_option autoImplicit false
/-! The derivations, printed by gen.py. -/
namespace Dl
open PySem PySem.Spec PyProof.Rows L2
open Evl (Ex)
section
variable {P : Program} {w : World} {K : PySem.W.Frag} {mg : Str → Option Value} {base : Heap} {C : Addr}
abbrev N_plus : List Str := ["one", "other"]
theorem sc_plus : FnScope N_plus ["one", "other"] (defScope s_plus) := ⟨rfl, rfl, rfl, by decide +kernel, rfl, by decide +kernel, by decide +kernel⟩
theorem pd_plus (T : Tx K mg C) (c_reduced : Cal P w K mg base "reduced" 1 ["top", "bottom"] (spD K C pre_reduced post_reduced)) {f : Addr} : Body P w K mg base C f N_plus "plus" s_plus 1 anyG d_plus := fun cdv A outer s H E hg hr => by
  have hu := hu64_of hr
  have hu65 := hu65_of hr
  exact
    (pds_one (pds_ret (pd_call c_reduced (hr.mono (by decide)) (pda_cons (pd_op sd_add (pd_op sd_mul (pd_ixV 0 pd_int) (pd_ixV 1 pd_int)) (pd_op sd_mul (pd_ixV 1 pd_int) (pd_ixV 0 pd_int))) (pda_cons (pd_op sd_mul (pd_ixV 0 pd_int) (pd_ixV 1 pd_int)) pda_nil)))))
abbrev N_minus : List Str := ["one", "other"]
theorem sc_minus : FnScope N_minus ["one", "other"] (defScope s_minus) := ⟨rfl, rfl, rfl, by decide +kernel, rfl, by decide +kernel, by decide +kernel⟩
theorem pd_minus (T : Tx K mg C) (c_plus : Cal P w K mg base "plus" 2 ["one", "other"] (spD K C pre_plus post_plus)) {f : Addr} : Body P w K mg base C f N_minus "minus" s_minus 2 anyG d_minus := fun cdv A outer s H E hg hr => by
  have hu := hu64_of hr
  have hu65 := hu65_of hr
  exact
    (pds_one (pds_ret (pd_call c_plus (hr.mono (by decide)) (pda_cons (pd_var 0) (pda_cons (pd_tup (pda_cons (pd_op sd_sub pd_int (pd_ixV 1 pd_int)) (pda_cons (pd_ixV 1 pd_int) pda_nil))) pda_nil)))))
abbrev N_times : List Str := ["one", "other"]
theorem sc_times : FnScope N_times ["one", "other"] (defScope s_times) := ⟨rfl, rfl, rfl, by decide +kernel, rfl, by decide +kernel, by decide +kernel⟩
theorem pd_times (T : Tx K mg C) (c_reduced : Cal P w K mg base "reduced" 1 ["top", "bottom"] (spD K C pre_reduced post_reduced)) {f : Addr} : Body P w K mg base C f N_times "times" s_times 1 anyG d_times := fun cdv A outer s H E hg hr => by
  have hu := hu64_of hr
  have hu65 := hu65_of hr
  exact
    (pds_one (pds_ret (pd_call c_reduced (hr.mono (by decide)) (pda_cons (pd_op sd_mul (pd_ixV 0 pd_int) (pd_ixV 1 pd_int)) (pda_cons (pd_op sd_mul (pd_ixV 0 pd_int) (pd_ixV 1 pd_int)) pda_nil)))))
abbrev N_over : List Str := ["one", "other", "top", "bottom"]
theorem sc_over : FnScope N_over ["one", "other"] (defScope s_over) := ⟨rfl, rfl, rfl, by decide +kernel, rfl, by decide +kernel, by decide +kernel⟩
theorem pd_over (T : Tx K mg C) (c_reduced : Cal P w K mg base "reduced" 1 ["top", "bottom"] (spD K C pre_reduced post_reduced)) {f : Addr} : Body P w K mg base C f N_over "over" s_over 1 anyG d_over := fun cdv A outer s H E hg hr => by
  have hu := hu64_of hr
  have hu65 := hu65_of hr
  exact
    (pds_cons (pds_par 2 3 rfl sc_over.nd (pda_cons (pd_op sd_mul (pd_ixV 0 pd_int) (pd_ixV 1 pd_int)) (pda_cons (pd_op sd_mul (pd_ixV 0 pd_int) (pd_ixV 1 pd_int)) pda_nil)))
    (pds_one (pds_ret (pd_ifE (pdt_cmpV sd_gt 3 pd_int) (pd_call c_reduced (hr.mono (by decide)) (pda_cons (pd_var 2) (pda_cons (pd_var 3) pda_nil))) (pd_call c_reduced (hr.mono (by decide)) (pda_cons (pd_op sd_sub pd_int (pd_var 2)) (pda_cons (pd_op sd_sub pd_int (pd_var 3)) pda_nil)))))))
abbrev N_is_fraction : List Str := ["value"]
theorem sc_is_fraction : FnScope N_is_fraction ["value"] (defScope s_is_fraction) := ⟨rfl, rfl, rfl, by decide +kernel, rfl, by decide +kernel, by decide +kernel⟩
theorem pd_is_fraction (T : Tx K mg C) (c_is_integer : Cal P w K mg base "is_integer" 1 ["value"] (spD K C pre_is_integer post_is_integer)) (c_reduced : Cal P w K mg base "reduced" 1 ["top", "bottom"] (spD K C pre_reduced post_reduced)) {f : Addr} : Body P w K mg base C f N_is_fraction "is_fraction" s_is_fraction 1 anyG d_is_fraction := fun cdv A outer s H E hg hr => by
  have hu := hu64_of hr
  have hu65 := hu65_of hr
  exact
    (pds_cons (pds_if (pdt_w (pdw_or (pdt_not (pdt_val (pd_isTy (T := "tuple") (by decide) T.isinstance T.tuple (pd_var 0)))) (pdw_or (pdt_cmp (sd_ne hu) (pd_len T.len (pd_var 0)) pd_int) (pdw_or (pdt_not (pdt_val (pd_call c_is_integer (hr.mono (by decide)) (pda_cons (pd_ixV 0 pd_int) pda_nil)))) (pdw_or1 (pdt_not (pdt_val (pd_call c_is_integer (hr.mono (by decide)) (pda_cons (pd_ixV 0 pd_int) pda_nil))))))))) (pds_one (pds_ret pd_bl)) pds_nil)
    (pds_one (pds_ret (pd_and (pd_cmp sd_ge (pd_ixV 0 pd_int) pd_int) (pd_one (pd_cmp (sd_eq hu) (pd_call c_reduced (hr.mono (by decide)) (pda_cons (pd_ixV 0 pd_int) (pda_cons (pd_ixV 0 pd_int) pda_nil))) (pd_var 0)))))))
abbrev N_product_sum : List Str := ["one", "other", "found", "here", "there"]
theorem sc_product_sum : FnScope N_product_sum ["one", "other"] (defScope s_product_sum) := ⟨rfl, rfl, rfl, by decide +kernel, rfl, by decide +kernel, by decide +kernel⟩
theorem pd_product_sum (T : Tx K mg C) (c_plus : Cal P w K mg base "plus" 2 ["one", "other"] (spD K C pre_plus post_plus)) (c_times : Cal P w K mg base "times" 2 ["one", "other"] (spD K C pre_times post_times)) {f : Addr} : Body P w K mg base C f N_product_sum "product_sum" s_product_sum 2 anyG d_product_sum := fun cdv A outer s H E hg hr => by
  have hu := hu64_of hr
  have hu65 := hu65_of hr
  exact
    (pds_cons (pds_asg (T.c_NOUGHT (by rfl)) (pdg_name 2 sc_product_sum.nd))
    (pds_cons (pds_for PassesOwn.never rfl (pdi_zip T.zip (pd_var 0) (pd_var 1)) (pdg_tup rfl (pdgs_cons (pdg_name 3 sc_product_sum.nd) (pdgs_cons (pdg_name 4 sc_product_sum.nd) pdgs_nil))) (pds_one (pds_asg (pd_call c_plus (hr.mono (by decide)) (pda_cons (pd_var 2) (pda_cons (pd_call c_times (hr.mono (by decide)) (pda_cons (pd_var 3) (pda_cons (pd_var 4) pda_nil))) pda_nil))) (pdg_name 2 sc_product_sum.nd))))
    (pds_one (pds_ret (pd_var 2)))))
abbrev N_less_part : List Str := ["row", "part", "other", "one", "two"]
theorem sc_less_part : FnScope N_less_part ["row", "part", "other"] (defScope s_less_part) := ⟨rfl, rfl, rfl, by decide +kernel, rfl, by decide +kernel, by decide +kernel⟩
theorem pd_less_part (T : Tx K mg C) (c_minus : Cal P w K mg base "minus" 3 ["one", "other"] (spD K C pre_minus post_minus)) (c_times : Cal P w K mg base "times" 2 ["one", "other"] (spD K C pre_times post_times)) {f : Addr} : Body P w K mg base C f N_less_part "less_part" s_less_part 3 anyG d_less_part := fun cdv A outer s H E hg hr => by
  have hu := hu64_of hr
  have hu65 := hu65_of hr
  exact
    (pds_one (pds_ret (pd_fr (pdf_lc [("one", 3), ("two", 4)] rfl sc_less_part.nd (pdi_zip T.zip (pd_var 0) (pd_var 2)) rfl (fun _ _ _ _ _ => (pdg_tup rfl (pdgs_cons (pdg_name 3 sc_less_part.nd) (pdgs_cons (pdg_name 4 sc_less_part.nd) pdgs_nil)))) (fun _ _ _ _ _ => pdts_nil) (fun _ _ _ _ _ => (pd_call c_minus (hr.mono (by decide)) (pda_cons (pd_var 3) (pda_cons (pd_call c_times (hr.mono (by decide)) (pda_cons (pd_var 1) (pda_cons (pd_var 4) pda_nil))) pda_nil))))))))
abbrev N_stepped : List Str := ["rows", "width", "found", "heads", "rest", "row", "at", "some", "place", "first", "each"]
theorem sc_stepped : FnScope N_stepped ["rows", "width"] (defScope s_stepped) := ⟨rfl, rfl, rfl, by decide +kernel, rfl, by decide +kernel, by decide +kernel⟩
theorem pd_stepped (T : Tx K mg C) (c_less_part : Cal P w K mg base "less_part" 4 ["row", "part", "other"] (spD K C pre_less_part post_less_part)) (c_over : Cal P w K mg base "over" 2 ["one", "other"] (spD K C pre_over post_over)) {f : Addr} : Body P w K mg base C f N_stepped "stepped" s_stepped 4 anyG d_stepped := fun cdv A outer s H E hg hr => by
  have hu := hu64_of hr
  have hu65 := hu65_of hr
  exact
    (pds_cons (pds_par3 2 3 4 rfl sc_stepped.nd (pda_cons (pd_fr (pdf_lst pda_nil)) (pda_consF (pdf_lst pda_nil) (pda_cons (pd_fr (pdf_lc [("row", 5)] rfl sc_stepped.nd (pdi_seq (pd_var 0)) rfl (fun _ _ _ _ _ => (pdg_name 5 sc_stepped.nd)) (fun _ _ _ _ _ => pdts_nil) (fun _ _ _ _ _ => (pd_fr (pdf_list T.list (pd_var 5)))))) pda_nil))))
    (pds_cons (pds_for PassesOwn.never rfl (pdi_range T.range (pd_var 1)) (pdg_name 6 sc_stepped.nd) (pds_cons (pds_setLc 7 [("place", 8), ("row", 5)] rfl sc_stepped.nd (pdi_enum T.enumerate (pd_var 4)) rfl (fun _ _ _ _ _ => (pdg_tup rfl (pdgs_cons (pdg_name 8 sc_stepped.nd) (pdgs_cons (pdg_name 5 sc_stepped.nd) pdgs_nil)))) (fun _ _ _ _ _ => (pdts_one (pdt_cmp (sd_ne hu) (pd_ixV 5 (pd_var 6)) (T.c_NOUGHT (by rfl))))) (fun _ _ _ _ _ => (pd_var 8)))
    (pds_one (pds_if (pdt_cmpV (sd_ne hu) 7 (pd_fr (pdf_lst pda_nil))) (pds_cons (pds_asg (pd_ixV 4 (pd_ixV 7 pd_int)) (pdg_name 9 sc_stepped.nd))
    (pds_cons (pds_asg (pd_fr (pdf_lc [("each", 10)] rfl sc_stepped.nd (pdi_seq (pd_var 9)) rfl (fun _ _ _ _ _ => (pdg_name 10 sc_stepped.nd)) (fun _ _ _ _ _ => pdts_nil) (fun _ _ _ _ _ => (pd_call c_over (hr.mono (by decide)) (pda_cons (pd_var 10) (pda_cons (pd_ixV 9 (pd_var 6)) pda_nil)))))) (pdg_name 9 sc_stepped.nd))
    (pds_cons (pds_asg (pd_op sd_add (pd_slice (pd_var 4) pdo_none (pdo_some (pd_ixV 7 pd_int))) (pd_slice (pd_var 4) (pdo_some (pd_op sd_add (pd_ixV 7 pd_int) pd_int)) pdo_none)) (pdg_name 4 sc_stepped.nd))
    (pds_cons (pds_setLc 4 [("row", 5)] rfl sc_stepped.nd (pdi_seq (pd_var 4)) rfl (fun _ _ _ _ _ => (pdg_name 5 sc_stepped.nd)) (fun _ _ _ _ _ => pdts_nil) (fun _ _ _ _ _ => (pd_call c_less_part (hr.mono (by decide)) (pda_cons (pd_var 5) (pda_cons (pd_ixV 5 (pd_var 6)) (pda_cons (pd_var 9) pda_nil))))))
    (pds_cons (pds_asg (pd_op sd_add (pd_fr (pdf_lc [("row", 5)] rfl sc_stepped.nd (pdi_seq (pd_var 2)) rfl (fun _ _ _ _ _ => (pdg_name 5 sc_stepped.nd)) (fun _ _ _ _ _ => pdts_nil) (fun _ _ _ _ _ => (pd_call c_less_part (hr.mono (by decide)) (pda_cons (pd_var 5) (pda_cons (pd_ixV 5 (pd_var 6)) (pda_cons (pd_var 9) pda_nil))))))) (pd_fr (pdf_lst (pda_cons (pd_var 9) pda_nil)))) (pdg_name 2 sc_stepped.nd))
    (pds_one (pds_app 3 (pd_var 6)))))))) pds_nil))))
    (pds_frz 3 (pds_one (pds_ret (pd_tup (pda_cons (pd_var 2) (pda_cons (pd_var 3) (pda_cons (pd_var 4) pda_nil)))))))))
abbrev N_rank_of : List Str := ["rows", "width"]
theorem sc_rank_of : FnScope N_rank_of ["rows", "width"] (defScope s_rank_of) := ⟨rfl, rfl, rfl, by decide +kernel, rfl, by decide +kernel, by decide +kernel⟩
theorem pd_rank_of (T : Tx K mg C) (c_stepped : Cal P w K mg base "stepped" 5 ["rows", "width"] (spD K C pre_stepped post_stepped)) {f : Addr} : Body P w K mg base C f N_rank_of "rank_of" s_rank_of 5 anyG d_rank_of := fun cdv A outer s H E hg hr => by
  have hu := hu64_of hr
  have hu65 := hu65_of hr
  exact
    (pds_one (pds_ret (pd_len T.len (pd_ix (pd_call c_stepped (hr.mono (by decide)) (pda_cons (pd_var 0) (pda_cons (pd_var 1) pda_nil))) pd_int))))
abbrev N_pushed_rows : List Str := ["works", "strengths", "row", "count", "table", "each", "line", "here", "place", "at", "found", "day", "one"]
theorem sc_pushed_rows : FnScope N_pushed_rows ["works", "strengths", "row"] (defScope s_pushed_rows) := ⟨rfl, rfl, rfl, by decide +kernel, rfl, by decide +kernel, by decide +kernel⟩
theorem pd_pushed_rows (T : Tx K mg C) (W : WorkK P w K mg base C) (c_product_sum : Cal P w K mg base "product_sum" 3 ["one", "other"] (spD K C pre_product_sum post_product_sum)) {f : Addr} : Body P w K mg base C f N_pushed_rows "pushed_rows" s_pushed_rows 3 anyG d_pushed_rows := fun cdv A outer s H E hg hr => by
  have hu := hu64_of hr
  have hu65 := hu65_of hr
  exact
    (pds_cons (pds_asg (pd_lenW 0 W (hr.mono (by decide)) T.len) (pdg_name 3 sc_pushed_rows.nd))
    (pds_cons (pds_asg (pd_fr (pdf_lc [("line", 6)] rfl sc_pushed_rows.nd (pdi_seq (pd_var 1)) rfl (fun _ _ _ _ _ => (pdg_name 6 sc_pushed_rows.nd)) (fun _ _ _ _ _ => pdts_nil) (fun _ _ _ _ _ => (pd_fr (pdf_lc [("each", 5)] rfl sc_pushed_rows.nd (pdi_seq (pd_var 6)) rfl (fun _ _ _ _ _ => (pdg_name 5 sc_pushed_rows.nd)) (fun _ _ _ _ _ => pdts_nil) (fun _ _ _ _ _ => (pd_tup (pda_cons (pd_var 5) (pda_cons pd_int pda_nil))))))))) (pdg_name 4 sc_pushed_rows.nd))
    (pds_cons (pds_setLc 7 [("at", 9)] rfl sc_pushed_rows.nd (pdi_seq (pd_var 2)) rfl (fun _ _ _ _ _ => (pdg_name 9 sc_pushed_rows.nd)) (fun _ _ _ _ _ => pdts_nil) (fun _ _ _ _ _ => (pd_fr (pdf_lc [("place", 8)] rfl sc_pushed_rows.nd (pdi_range T.range (pd_var 3)) rfl (fun _ _ _ _ _ => (pdg_name 8 sc_pushed_rows.nd)) (fun _ _ _ _ _ => pdts_nil) (fun _ _ _ _ _ => (pd_ifE (pdt_cmpV (sd_eq hu) 8 (pd_var 9)) (T.c_ONE (by rfl)) (T.c_NOUGHT (by rfl))))))))
    (pds_cons (pds_asg (pd_fr (pdf_lst pda_nil)) (pdg_name 10 sc_pushed_rows.nd))
    (pds_cons (pds_for PassesOwn.never rfl (pdi_range T.range (pd_var 3)) (pdg_name 11 sc_pushed_rows.nd) (pds_cons (pds_asg (pd_opV sd_add 10 (pd_var 7)) (pdg_name 10 sc_pushed_rows.nd))
    (pds_one (pds_setLc 7 [("one", 12)] rfl sc_pushed_rows.nd (pdi_seq (pd_var 7)) rfl (fun _ _ _ _ _ => (pdg_name 12 sc_pushed_rows.nd)) (fun _ _ _ _ _ => pdts_nil) (fun _ _ _ _ _ => (pd_fr (pdf_lc [("line", 6)] rfl sc_pushed_rows.nd (pdi_seq (pd_var 4)) rfl (fun _ _ _ _ _ => (pdg_name 6 sc_pushed_rows.nd)) (fun _ _ _ _ _ => pdts_nil) (fun _ _ _ _ _ => (pd_call c_product_sum (hr.mono (by decide)) (pda_cons (pd_var 6) (pda_cons (pd_var 12) pda_nil)))))))))))
    (pds_one (pds_ret (pd_var 10))))))))
abbrev N_rank_by : List Str := ["works", "strengths", "row"]
theorem sc_rank_by : FnScope N_rank_by ["works", "strengths", "row"] (defScope s_rank_by) := ⟨rfl, rfl, rfl, by decide +kernel, rfl, by decide +kernel, by decide +kernel⟩
theorem pd_rank_by (T : Tx K mg C) (W : WorkK P w K mg base C) (c_pushed_rows : Cal P w K mg base "pushed_rows" 4 ["works", "strengths", "row"] (spD K C pre_pushed_rows post_pushed_rows)) (c_rank_of : Cal P w K mg base "rank_of" 6 ["rows", "width"] (spD K C pre_rank_of post_rank_of)) {f : Addr} : Body P w K mg base C f N_rank_by "rank_by" s_rank_by 6 anyG d_rank_by := fun cdv A outer s H E hg hr => by
  have hu := hu64_of hr
  have hu65 := hu65_of hr
  exact
    (pds_one (pds_ret (pd_call c_rank_of (hr.mono (by decide)) (pda_cons (pd_call c_pushed_rows (hr.mono (by decide)) (pda_cons (pd_var 0) (pda_cons (pd_var 1) (pda_cons (pd_var 2) pda_nil)))) (pda_cons (pd_lenW 0 W (hr.mono (by decide)) T.len) pda_nil)))))
abbrev N_wrong_fraction : List Str := ["value", "count", "at", "each"]
theorem sc_wrong_fraction : FnScope N_wrong_fraction ["value", "count"] (defScope s_wrong_fraction) := ⟨rfl, rfl, rfl, by decide +kernel, rfl, by decide +kernel, by decide +kernel⟩
theorem pd_wrong_fraction (T : Tx K mg C) (c_is_fraction : Cal P w K mg base "is_fraction" 2 ["value"] (spD K C pre_is_fraction post_is_fraction)) {f : Addr} : Body P w K mg base C f N_wrong_fraction "wrong_fraction" s_wrong_fraction 2 anyG d_wrong_fraction := fun cdv A outer s H E hg hr => by
  have hu := hu64_of hr
  have hu65 := hu65_of hr
  exact
    (pds_cons (pds_if (pdt_w (pdw_or (pdt_not (pdt_val (pd_isTy (T := "tuple") (by decide) T.isinstance T.tuple (pd_var 0)))) (pdw_or1 (pdt_cmp (sd_ne hu) (pd_len T.len (pd_var 0)) (pd_var 1))))) (pds_one (pds_ret (pd_tup (pda_cons pd_non pda_nil)))) pds_nil)
    (pds_cons (pds_for PassesOwn.never rfl (pdi_enum T.enumerate (pd_var 0)) (pdg_tup rfl (pdgs_cons (pdg_name 2 sc_wrong_fraction.nd) (pdgs_cons (pdg_name 3 sc_wrong_fraction.nd) pdgs_nil))) (pds_one (pds_if (pdt_not (pdt_val (pd_call c_is_fraction (hr.mono (by decide)) (pda_cons (pd_var 3) pda_nil)))) (pds_one (pds_ret (pd_tup (pda_cons (pd_var 2) pda_nil)))) pds_nil)))
    (pds_one (pds_ret (pd_tup pda_nil)))))
abbrev N_day_of : List Str := ["strengths", "row", "state", "push", "found", "each", "line", "at", "part"]
theorem sc_day_of : FnScope N_day_of ["strengths", "row", "state", "push"] (defScope s_day_of) := ⟨rfl, rfl, rfl, by decide +kernel, rfl, by decide +kernel, by decide +kernel⟩
theorem pd_day_of (T : Tx K mg C) (c_plus : Cal P w K mg base "plus" 2 ["one", "other"] (spD K C pre_plus post_plus)) (c_product_sum : Cal P w K mg base "product_sum" 3 ["one", "other"] (spD K C pre_product_sum post_product_sum)) {f : Addr} : Body P w K mg base C f N_day_of "day_of" s_day_of 3 anyG d_day_of := fun cdv A outer s H E hg hr => by
  have hu := hu64_of hr
  have hu65 := hu65_of hr
  exact
    (pds_cons (pds_setLcO 4 [("line", 6)] rfl sc_day_of.nd (pdi_seq (pd_var 0)) rfl (fun _ _ _ _ _ => (pdg_name 6 sc_day_of.nd)) (fun _ _ _ _ _ => pdts_nil) (fun _ _ _ _ _ => (pd_call c_product_sum (hr.mono (by decide)) (pda_cons (pd_fr (pdf_lc [("each", 5)] rfl sc_day_of.nd (pdi_seq (pd_var 6)) rfl (fun _ _ _ _ _ => (pdg_name 5 sc_day_of.nd)) (fun _ _ _ _ _ => pdts_nil) (fun _ _ _ _ _ => (pd_tup (pda_cons (pd_var 5) (pda_cons pd_int pda_nil)))))) (pda_cons (pd_var 2) pda_nil)))))
    (pds_cons (pds_for PassesOwn.never rfl (pdi_zip T.zip (pd_var 1) (pd_var 3)) (pdg_tup rfl (pdgs_cons (pdg_name 7 sc_day_of.nd) (pdgs_cons (pdg_name 8 sc_day_of.nd) pdgs_nil))) (pds_one (pds_asg (pd_call c_plus (hr.mono (by decide)) (pda_cons (pd_ixV 4 (pd_var 7)) (pda_cons (pd_var 8) pda_nil))) (pdg_set 4 (pd_var 7)))))
    (pds_one (pds_ret (pd_t1 sd_tuple T.tuple (pd_var 4))))))
abbrev N_state_after : List Str := ["strengths", "row", "state", "pushes", "push"]
theorem sc_state_after : FnScope N_state_after ["strengths", "row", "state", "pushes"] (defScope s_state_after) := ⟨rfl, rfl, rfl, by decide +kernel, rfl, by decide +kernel, by decide +kernel⟩
theorem pd_state_after (T : Tx K mg C) (c_day_of : Cal P w K mg base "day_of" 4 ["strengths", "row", "state", "push"] (spD K C pre_day_of post_day_of)) {f : Addr} : Body P w K mg base C f N_state_after "state_after" s_state_after 4 anyG d_state_after := fun cdv A outer s H E hg hr => by
  have hu := hu64_of hr
  have hu65 := hu65_of hr
  exact
    (pds_cons (pds_for PassesOwn.never rfl (pdi_seq (pd_var 3)) (pdg_name 4 sc_state_after.nd) (pds_one (pds_asg (pd_call c_day_of (hr.mono (by decide)) (pda_cons (pd_var 0) (pda_cons (pd_var 1) (pda_cons (pd_var 2) (pda_cons (pd_var 4) pda_nil))))) (pdg_name 2 sc_state_after.nd))))
    (pds_one (pds_ret (pd_var 2))))
abbrev N_bar_shown : List Str := ["works", "row", "certificate"]
theorem sc_bar_shown : FnScope N_bar_shown ["works", "row", "certificate"] (defScope s_bar_shown) := ⟨rfl, rfl, rfl, by decide +kernel, rfl, by decide +kernel, by decide +kernel⟩
theorem pd_bar_shown (T : Tx K mg C) (c_is_bar_row : Cal P w K mg base "is_bar_row" 2 ["strengths", "row", "value"] (spD K C pre_is_bar_row post_is_bar_row)) (c_wrong_row : Cal P w K mg base "wrong_row" 4 ["works", "strengths"] (spD K C pre_wrong_row post_wrong_row)) {f : Addr} : Body P w K mg base C f N_bar_shown "bar_shown" s_bar_shown 4 anyG d_bar_shown := fun cdv A outer s H E hg hr => by
  have hu := hu64_of hr
  have hu65 := hu65_of hr
  exact
    (pds_cons (pds_if (pdt_w (pdw_or (pdt_not (pdt_val (pd_isTy (T := "tuple") (by decide) T.isinstance T.tuple (pd_var 2)))) (pdw_or (pdt_cmp (sd_ne hu) (pd_len T.len (pd_var 2)) pd_int) (pdw_or1 (pdt_cmp (sd_ne hu) (pd_call c_wrong_row (hr.mono (by decide)) (pda_cons (pd_var 0) (pda_cons (pd_ixV 2 pd_int) pda_nil))) (pd_tup pda_nil)))))) (pds_one (pds_ret pd_bl)) pds_nil)
    (pds_one (pds_ret (pd_call c_is_bar_row (hr.mono (by decide)) (pda_cons (pd_ixV 2 pd_int) (pda_cons (pd_var 1) (pda_cons (pd_ixV 2 pd_int) pda_nil)))))))
abbrev N_lot_shown : List Str := ["works", "claim", "certificate", "row", "part", "lot"]
theorem sc_lot_shown : FnScope N_lot_shown ["works", "claim", "certificate"] (defScope s_lot_shown) := ⟨rfl, rfl, rfl, by decide +kernel, rfl, by decide +kernel, by decide +kernel⟩
theorem pd_lot_shown (T : Tx K mg C) (W : WorkK P w K mg base C) (c_bar_shown : Cal P w K mg base "bar_shown" 5 ["works", "row", "certificate"] (spD K C pre_bar_shown post_bar_shown)) (c_rank_by : Cal P w K mg base "rank_by" 7 ["works", "strengths", "row"] (spD K C pre_rank_by post_rank_by)) (c_wrong_leader : Cal P w K mg base "wrong_leader" 1 ["parts", "leaders"] (spD K C pre_wrong_leader post_wrong_leader)) (c_wrong_row : Cal P w K mg base "wrong_row" 4 ["works", "strengths"] (spD K C pre_wrong_row post_wrong_row)) {f : Addr} : Body P w K mg base C f N_lot_shown "lot_shown" s_lot_shown 7 anyG d_lot_shown := fun cdv A outer s H E hg hr => by
  have hu := hu64_of hr
  have hu65 := hu65_of hr
  exact
    (pds_cons (pds_if (pdt_cmp (sd_ne hu) (pd_call c_wrong_leader (hr.mono (by decide)) (pda_cons (pd_parts W (hr.mono (by decide)) (pd_var 0)) (pda_cons (pd_ixV 1 pd_int) pda_nil))) (pd_tup pda_nil)) (pds_one (pds_ret pd_bl)) pds_nil)
    (pds_cons (pds_setLc 3 [("part", 4)] rfl sc_lot_shown.nd (pdi_seq (pd_ixV 1 pd_int)) rfl (fun _ _ _ _ _ => (pdg_name 4 sc_lot_shown.nd)) (fun _ _ _ _ _ => pdts_nil) (fun _ _ _ _ _ => (pd_index (pd_parts W (hr.mono (by decide)) (pd_var 0)) (pd_var 4))))
    (pds_cons (pds_if (pdt_cmp (sd_eq hu) (pd_ixV 1 pd_int) pd_str) pdss_never pds_nil)
    (pds_cons (pds_if (pdt_cmp (sd_eq hu) (pd_ixV 1 pd_int) pd_str) pdss_never pds_nil)
    (pds_cons (pds_if (pdt_cmp (sd_eq hu) (pd_ixV 1 pd_int) pd_str) (pds_one (pds_ret (pd_call c_bar_shown (hr.mono (by decide)) (pda_cons (pd_var 0) (pda_cons (pd_var 3) (pda_cons (pd_var 2) pda_nil)))))) pds_nil)
    (pds_cons (pds_if (pdt_w (pdw_or (pdt_cmp (sd_ne hu) (pd_ixV 1 pd_int) pd_str) (pdw_or1 (pdt_cmp (sd_ne hu) (pd_call c_wrong_row (hr.mono (by decide)) (pda_cons (pd_var 0) (pda_cons (pd_var 2) pda_nil))) (pd_tup pda_nil))))) (pds_one (pds_ret pd_bl)) pds_nil)
    (pds_one (pds_ret (pd_cmp (sd_eq hu) (pd_call c_rank_by (hr.mono (by decide)) (pda_cons (pd_var 0) (pda_cons (pd_var 2) (pda_cons (pd_var 3) pda_nil)))) (pd_lenW 0 W (hr.mono (by decide)) T.len))))))))))
abbrev N_way_shown : List Str := ["works", "claim", "certificate", "strengths", "leaders", "first", "last", "push", "row", "part"]
theorem sc_way_shown : FnScope N_way_shown ["works", "claim", "certificate"] (defScope s_way_shown) := ⟨rfl, rfl, rfl, by decide +kernel, rfl, by decide +kernel, by decide +kernel⟩
theorem pd_way_shown (T : Tx K mg C) (W : WorkK P w K mg base C) (c_state_after : Cal P w K mg base "state_after" 5 ["strengths", "row", "state", "pushes"] (spD K C pre_state_after post_state_after)) (c_wrong_fraction : Cal P w K mg base "wrong_fraction" 3 ["value", "count"] (spD K C pre_wrong_fraction post_wrong_fraction)) (c_wrong_leader : Cal P w K mg base "wrong_leader" 1 ["parts", "leaders"] (spD K C pre_wrong_leader post_wrong_leader)) (c_wrong_row : Cal P w K mg base "wrong_row" 4 ["works", "strengths"] (spD K C pre_wrong_row post_wrong_row)) {f : Addr} : Body P w K mg base C f N_way_shown "way_shown" s_way_shown 5 anyG d_way_shown := fun cdv A outer s H E hg hr => by
  have hu := hu64_of hr
  have hu65 := hu65_of hr
  exact
    (pds_cons (pds_asg (pd_slice (pd_var 1) (pdo_some pd_int) pdo_none) (pdg_tup rfl (pdgs_cons (pdg_name 3 sc_way_shown.nd) (pdgs_cons (pdg_name 4 sc_way_shown.nd) (pdgs_cons (pdg_name 5 sc_way_shown.nd) (pdgs_cons (pdg_name 6 sc_way_shown.nd) pdgs_nil))))))
    (pds_cons (pds_if (pdt_w (pdw_or (pdt_cmp (sd_ne hu) (pd_call c_wrong_row (hr.mono (by decide)) (pda_cons (pd_var 0) (pda_cons (pd_var 3) pda_nil))) (pd_tup pda_nil)) (pdw_or1 (pdt_cmp (sd_ne hu) (pd_call c_wrong_leader (hr.mono (by decide)) (pda_cons (pd_parts W (hr.mono (by decide)) (pd_var 0)) (pda_cons (pd_var 4) pda_nil))) (pd_tup pda_nil))))) (pds_one (pds_ret pd_bl)) pds_nil)
    (pds_cons (pds_if (pdt_w (pdw_or (pdt_cmp (sd_ne hu) (pd_call c_wrong_fraction (hr.mono (by decide)) (pda_cons (pd_var 5) (pda_cons (pd_lenW 0 W (hr.mono (by decide)) T.len) pda_nil))) (pd_tup pda_nil)) (pdw_or1 (pdt_cmp (sd_ne hu) (pd_call c_wrong_fraction (hr.mono (by decide)) (pda_cons (pd_var 6) (pda_cons (pd_lenW 0 W (hr.mono (by decide)) T.len) pda_nil))) (pd_tup pda_nil))))) (pds_one (pds_ret pd_bl)) pds_nil)
    (pds_cons (pds_if (pdt_not (pdt_val (pd_isTy (T := "tuple") (by decide) T.isinstance T.tuple (pd_var 2)))) (pds_one (pds_ret pd_bl)) pds_nil)
    (pds_cons (pds_if (pdt_not (pdt_val (pd_b1 (sd_all rfl) T.all (pd_fr (pdf_lc [("push", 7)] rfl sc_way_shown.nd (pdi_seq (pd_var 2)) rfl (fun _ _ _ _ _ => (pdg_name 7 sc_way_shown.nd)) (fun _ _ _ _ _ => pdts_nil) (fun _ _ _ _ _ => (pd_cmp (sd_eq hu) (pd_call c_wrong_fraction (hr.mono (by decide)) (pda_cons (pd_var 7) (pda_cons (pd_len T.len (pd_var 4)) pda_nil))) (pd_tup pda_nil)))))))) (pds_one (pds_ret pd_bl)) pds_nil)
    (pds_cons (pds_setLc 8 [("part", 9)] rfl sc_way_shown.nd (pdi_seq (pd_var 4)) rfl (fun _ _ _ _ _ => (pdg_name 9 sc_way_shown.nd)) (fun _ _ _ _ _ => pdts_nil) (fun _ _ _ _ _ => (pd_index (pd_parts W (hr.mono (by decide)) (pd_var 0)) (pd_var 9))))
    (pds_one (pds_ret (pd_cmp (sd_eq hu) (pd_call c_state_after (hr.mono (by decide)) (pda_cons (pd_var 3) (pda_cons (pd_var 8) (pda_cons (pd_var 5) (pda_cons (pd_var 2) pda_nil))))) (pd_var 6))))))))))
end
end Dl

end
section
set_option Elab.async false
set_option linter.all false
set_option maxRecDepth 100000
set_option maxHeartbeats 4000000
set_option autoImplicit false
/-! The derivations, printed by gen.py. -/
namespace Dl
open PySem PySem.Spec PyProof.Rows L2
open Evl (Ex)
section
variable {P : Program} {w : World} {K : PySem.W.Frag} {mg : Str → Option Value} {base : Heap} {C : Addr}
abbrev N_accepts : List Str := ["claim", "certificate", "found", "works"]
theorem sc_accepts : FnScope N_accepts ["claim", "certificate"] (defScope s_accepts) := ⟨rfl, rfl, rfl, by decide +kernel, rfl, by decide +kernel, by decide +kernel⟩
theorem pd_accepts (T : Tx K mg C) (c_Works : CalM P w K mg base C "Works" 3 ["self", "parts", "ties"] preWorks mkPushed) (c_lot_shown : Cal P w K mg base "lot_shown" 8 ["works", "claim", "certificate"] (spD K C pre_lot_shown post_lot_shown)) (c_read_works : Cal P w K mg base "read_works" 3 ["text"] (spD K C pre_read_works post_read_works)) (c_way_shown : Cal P w K mg base "way_shown" 6 ["works", "claim", "certificate"] (spD K C pre_way_shown post_way_shown)) {f : Addr} : Body P w K mg base C f N_accepts "accepts" s_accepts 8 anyG d_accepts := fun cdv A outer s H E hg hr => by
  have hu := hu64_of hr
  have hu65 := hu65_of hr
  exact
    (pds_cons (pds_if (pdt_w (pdw_or (pdt_not (pdt_val (pd_isTy (T := "tuple") (by decide) T.isinstance T.tuple (pd_var 0)))) (pdw_or1 (pdt_cmp (sd_notIn hu65) (pd_len T.len (pd_var 0)) (pd_tup (pda_cons pd_int (pda_cons pd_int pda_nil))))))) (pds_one (pds_ret pd_bl)) pds_nil)
    (pds_cons (pds_asg (pd_call c_read_works (hr.mono (by decide)) (pda_cons (pd_ixV 0 pd_int) pda_nil)) (pdg_name 2 sc_accepts.nd))
    (pds_cons (pds_if (pdt_cmpV sd_isN 2 pd_non) (pds_one (pds_ret pd_bl)) pds_nil)
    (pds_cons (pds_asg (pd_make c_Works (hr.mono (by decide)) (pda_cons (pd_ixV 2 pd_int) (pda_cons (pd_ixV 2 pd_int) pda_nil))) (pdg_name 3 sc_accepts.nd))
    (pds_cons (pds_if (pdt_cmp (sd_eq hu) (pd_len T.len (pd_var 0)) pd_int) (pds_one (pds_ret (pd_and (pd_cmp (sd_eq hu) (pd_ixV 0 pd_int) pd_str) (pd_one (pd_call c_way_shown (hr.mono (by decide)) (pda_cons (pd_var 3) (pda_cons (pd_var 0) (pda_cons (pd_var 1) pda_nil)))))))) pds_nil)
    (pds_one (pds_ret (pd_call c_lot_shown (hr.mono (by decide)) (pda_cons (pd_var 3) (pda_cons (pd_var 0) (pda_cons (pd_var 1) pda_nil)))))))))))
abbrev N_l_keg : List Str := ["_law_cells", "_law_at", "_law_own", "_law_mixed_here", "_law_k"]
theorem sc_l_keg : FnScope N_l_keg ["_law_cells", "_law_at"] (defScope s_l_keg) := ⟨rfl, rfl, rfl, by decide +kernel, rfl, by decide +kernel, by decide +kernel⟩
theorem pd_l_keg (T : Tx K mg C) {f : Addr} : Body P w K mg base C f N_l_keg "_law_keg" s_l_keg 0 anyG d_l_keg := fun cdv A outer s H E hg hr => by
  have hu := hu64_of hr
  have hu65 := hu65_of hr
  exact
    (pds_cons (pds_asg (pd_ifE (pdt_cmpV sd_lt 1 (pd_len T.len (pd_var 0))) (pd_ixV 0 (pd_var 1)) pd_int) (pdg_name 2 sc_l_keg.nd))
    (pds_cons (pds_asg (pd_op sd_add pd_int (pd_op sd_mul pd_int (pd_var 1))) (pdg_name 3 sc_l_keg.nd))
    (pds_cons (pds_for PassesOwn.never rfl (pdi_range T.range (pd_b2 (sd_min2 rfl) T.min (pd_len T.len (pd_var 0)) pd_int)) (pdg_name 4 sc_l_keg.nd) (pds_one (pds_asg (pd_op sd_mod (pd_t1 sd_int T.int (pd_op sd_add (pd_op sd_add (pd_opV sd_mul 3 (pd_op sd_add pd_int (pd_op sd_mul pd_int (pd_var 4)))) (pd_op sd_mul pd_int (pd_ixV 0 (pd_var 4)))) pd_int)) pd_int) (pdg_name 3 sc_l_keg.nd))))
    (pds_one (pds_retF (pdf_lst (pda_cons (pd_ifE (pdt_w (pdw_or (pdt_cmpV sd_lt 2 pd_int) (pdw_or1 (pdt_cmpV sd_ge 2 (pd_op sd_pow pd_int pd_int))))) (pd_b1 sd_abs T.abs (pd_var 2)) pd_int) (pda_cons (pd_op sd_mod (pd_t1 sd_int T.int (pd_op sd_add (pd_opV sd_mul 3 pd_int) (pd_opV sd_mul 2 pd_int))) pd_int) (pda_cons pd_int pda_nil)))))))))
abbrev N_l_tap : List Str := ["_law_keg_here", "_law_upto", "_law_figure", "_law_mixed_here"]
theorem sc_l_tap : FnScope N_l_tap ["_law_keg_here", "_law_upto"] (defScope s_l_tap) := ⟨rfl, rfl, rfl, by decide +kernel, rfl, by decide +kernel, by decide +kernel⟩
theorem pd_l_tap (T : Tx K mg C) {f : Addr} : Body P w K mg base C f N_l_tap "_law_tap" s_l_tap 0 anyG d_l_tap := fun cdv A outer s H E hg hr => by
  have hu := hu64_of hr
  have hu65 := hu65_of hr
  exact
    (pds_cons (pds_if (pdt_cmp sd_gt (pd_ixV 0 pd_int) pd_int) (pds_cons (pds_asg (pd_b2 sd_divmod T.divmod (pd_ixV 0 pd_int) (pd_var 1)) (pdg_tup rfl (pdgs_cons (pdg_set 0 pd_int) (pdgs_cons (pdg_name 2 sc_l_tap.nd) pdgs_nil))))
    (pds_one (pds_ret (pd_var 2)))) pds_nil)
    (pds_cons (pds_asg (pd_op sd_add (pd_ixV 0 pd_int) pd_int) (pdg_set 0 pd_int))
    (pds_cons (pds_asg (pd_op sd_mul (pd_ixV 0 pd_int) (pd_op sd_add (pd_op sd_mod (pd_t1 sd_int T.int (pd_op sd_div (pd_ixV 0 pd_int) pd_int)) pd_int) pd_int)) (pdg_name 3 sc_l_tap.nd))
    (pds_cons (pds_asg (pd_op sd_mod (pd_t1 sd_int T.int (pd_op sd_add (pd_opV sd_add 3 (pd_op sd_mul pd_int (pd_ixV 0 pd_int))) pd_int)) pd_int) (pdg_set 0 pd_int))
    (pds_one (pds_ret (pd_op sd_mod (pd_t1 sd_int T.int (pd_op sd_div (pd_ixV 0 pd_int) pd_int)) (pd_var 1))))))))
abbrev N_l_pick : List Str := ["_law_keg_here", "_law_things"]
theorem sc_l_pick : FnScope N_l_pick ["_law_keg_here", "_law_things"] (defScope s_l_pick) := ⟨rfl, rfl, rfl, by decide +kernel, rfl, by decide +kernel, by decide +kernel⟩
theorem pd_l_pick (T : Tx K mg C) (c_l_tap : Cal P w K mg base "_law_tap" 1 ["_law_keg_here", "_law_upto"] (spK K C pre_l_tap post_l_tap)) {f : Addr} : Body P w K mg base C f N_l_pick "_law_pick" s_l_pick 1 anyG d_l_pick := fun cdv A outer s H E hg hr => by
  have hu := hu64_of hr
  have hu65 := hu65_of hr
  exact
    (pds_one (pds_ret (pd_ixV 1 (pd_callK 0 c_l_tap (hr.mono (by decide)) (pda_cons (pd_len T.len (pd_var 1)) pda_nil)))))
abbrev N_l_mixed : List Str := ["_law_keg_here", "_law_things", "_law_left", "_law_found", "_law_turn"]
theorem sc_l_mixed : FnScope N_l_mixed ["_law_keg_here", "_law_things"] (defScope s_l_mixed) := ⟨rfl, rfl, rfl, by decide +kernel, rfl, by decide +kernel, by decide +kernel⟩
theorem pd_l_mixed (T : Tx K mg C) (c_l_tap : Cal P w K mg base "_law_tap" 1 ["_law_keg_here", "_law_upto"] (spK K C pre_l_tap post_l_tap)) {f : Addr} : Body P w K mg base C f N_l_mixed "_law_mixed" s_l_mixed 1 anyG d_l_mixed := fun cdv A outer s H E hg hr => by
  have hu := hu64_of hr
  have hu65 := hu65_of hr
  exact
    (pds_cons (pds_par 2 3 rfl sc_l_mixed.nd (pda_consF (pdf_list T.list (pd_var 1)) (pda_consF (pdf_lst pda_nil) pda_nil)))
    (pds_cons (pds_for PassesOwn.never rfl (pdi_range T.range (pd_len T.len (pd_var 1))) (pdg_name 4 sc_l_mixed.nd) (pds_one (pds_app 3 (pd_pop 2 (pd_callK 0 c_l_tap (hr.mono (by decide)) (pda_cons (pd_len T.len (pd_var 2)) pda_nil))))))
    (pds_frz 3 (pds_one (pds_ret (pd_var 3))))))
abbrev N_l_crew : List Str := ["_law_keg_here", "_law_least", "_law_most", "_law_some"]
theorem sc_l_crew : FnScope N_l_crew ["_law_keg_here", "_law_least", "_law_most"] (defScope s_l_crew) := ⟨rfl, rfl, rfl, by decide +kernel, rfl, by decide +kernel, by decide +kernel⟩
theorem pd_l_crew (T : Tx K mg C) (c_l_mixed : Cal P w K mg base "_law_mixed" 2 ["_law_keg_here", "_law_things"] (spK K C pre_l_mixed post_l_mixed)) (c_l_tap : Cal P w K mg base "_law_tap" 1 ["_law_keg_here", "_law_upto"] (spK K C pre_l_tap post_l_tap)) {f : Addr} : Body P w K mg base C f N_l_crew "_law_crew" s_l_crew 2 anyG d_l_crew := fun cdv A outer s H E hg hr => by
  have hu := hu64_of hr
  have hu65 := hu65_of hr
  exact
    (pds_cons (pds_asg (pd_fr (pdf_lst (pda_cons pd_str (pda_cons pd_str (pda_cons pd_str (pda_cons pd_str (pda_cons pd_str (pda_cons pd_str (pda_cons pd_str (pda_cons pd_str (pda_cons pd_str (pda_cons pd_str (pda_cons pd_str (pda_cons pd_str (pda_cons pd_str (pda_cons pd_str pda_nil)))))))))))))))) (pdg_name 3 sc_l_crew.nd))
    (pds_one (pds_ret (pd_t1 sd_tuple T.tuple (pd_slice (pd_callK 0 c_l_mixed (hr.mono (by decide)) (pda_cons (pd_var 3) pda_nil)) pdo_none (pdo_some (pd_opV sd_add 1 (pd_callK 0 c_l_tap (hr.mono (by decide)) (pda_cons (pd_op sd_add (pd_opV sd_sub 2 (pd_var 1)) pd_int) pda_nil)))))))))
abbrev N_l_roads : List Str := ["_law_keg_here", "_law_crew_here", "_law_dense", "_law_found", "_law_here", "_law_there"]
theorem sc_l_roads : FnScope N_l_roads ["_law_keg_here", "_law_crew_here"] (defScope s_l_roads) := ⟨rfl, rfl, rfl, by decide +kernel, rfl, by decide +kernel, by decide +kernel⟩
theorem pd_l_roads (T : Tx K mg C) (c_l_mixed : Cal P w K mg base "_law_mixed" 2 ["_law_keg_here", "_law_things"] (spK K C pre_l_mixed post_l_mixed)) (c_l_pick : Cal P w K mg base "_law_pick" 2 ["_law_keg_here", "_law_things"] (spK K C pre_l_pick post_l_pick)) (c_l_tap : Cal P w K mg base "_law_tap" 1 ["_law_keg_here", "_law_upto"] (spK K C pre_l_tap post_l_tap)) {f : Addr} : Body P w K mg base C f N_l_roads "_law_roads" s_l_roads 2 anyG d_l_roads := fun cdv A outer s H E hg hr => by
  have hu := hu64_of hr
  have hu65 := hu65_of hr
  exact
    (pds_cons (pds_par 2 3 rfl sc_l_roads.nd (pda_cons (pd_callK 0 c_l_pick (hr.mono (by decide)) (pda_cons (pd_fr (pdf_lst (pda_cons pd_int (pda_cons pd_int (pda_cons pd_int (pda_cons pd_int (pda_cons pd_int pda_nil))))))) pda_nil)) (pda_consF (pdf_lst pda_nil) pda_nil)))
    (pds_cons (pds_for PassesOwn.never rfl (pdi_seq (pd_var 1)) (pdg_name 4 sc_l_roads.nd) (pds_one (pds_for PassesOwn.never rfl (pdi_seq (pd_var 1)) (pdg_name 5 sc_l_roads.nd) (pds_one (pds_if (pdt_w (pdw_and (pdt_cmpV (sd_ne hu) 4 (pd_var 5)) (pdw_and1 (pdt_cmp sd_lt (pd_callK 0 c_l_tap (hr.mono (by decide)) (pda_cons pd_int pda_nil)) (pd_var 2))))) (pds_one (pds_app 3 (pd_tup (pda_cons (pd_var 4) (pda_cons (pd_var 5) pda_nil))))) pds_nil)))))
    (pds_frz 3 (pds_one (pds_ret (pd_t1 sd_tuple T.tuple (pd_callK 0 c_l_mixed (hr.mono (by decide)) (pda_cons (pd_var 3) pda_nil))))))))
abbrev N_l_heads : List Str := ["_law_keg_here", "_law_crew_here", "_law_share", "_law_name_here"]
theorem sc_l_heads : FnScope N_l_heads ["_law_keg_here", "_law_crew_here"] (defScope s_l_heads) := ⟨rfl, rfl, rfl, by decide +kernel, rfl, by decide +kernel, by decide +kernel⟩
theorem pd_l_heads (T : Tx K mg C) (c_l_mixed : Cal P w K mg base "_law_mixed" 2 ["_law_keg_here", "_law_things"] (spK K C pre_l_mixed post_l_mixed)) (c_l_pick : Cal P w K mg base "_law_pick" 2 ["_law_keg_here", "_law_things"] (spK K C pre_l_pick post_l_pick)) (c_l_tap : Cal P w K mg base "_law_tap" 1 ["_law_keg_here", "_law_upto"] (spK K C pre_l_tap post_l_tap)) {f : Addr} : Body P w K mg base C f N_l_heads "_law_heads" s_l_heads 2 anyG d_l_heads := fun cdv A outer s H E hg hr => by
  have hu := hu64_of hr
  have hu65 := hu65_of hr
  exact
    (pds_cons (pds_asg (pd_callK 0 c_l_pick (hr.mono (by decide)) (pda_cons (pd_fr (pdf_lst (pda_cons pd_int (pda_cons pd_int (pda_cons pd_int pda_nil))))) pda_nil)) (pdg_name 2 sc_l_heads.nd))
    (pds_one (pds_ret (pd_t1 sd_tuple T.tuple (pd_fr (pdf_lc [("_law_name_here", 3)] rfl sc_l_heads.nd (pdi_seq (pd_callK 0 c_l_mixed (hr.mono (by decide)) (pda_cons (pd_var 1) pda_nil))) rfl (fun _ _ _ _ _ => (pdg_name 3 sc_l_heads.nd)) (fun _ _ _ _ _ => (pdts_one (pdt_cmp sd_lt (pd_callK 0 c_l_tap (hr.mono (by decide)) (pda_cons pd_int pda_nil)) (pd_var 2)))) (fun _ _ _ _ _ => (pd_var 3))))))))
abbrev N_l_page : List Str := ["_law_crew_here", "_law_roads_here", "_law_here", "_law_there"]
theorem sc_l_page : FnScope N_l_page ["_law_crew_here", "_law_roads_here"] (defScope s_l_page) := ⟨rfl, rfl, rfl, by decide +kernel, rfl, by decide +kernel, by decide +kernel⟩
theorem pd_l_page (T : Tx K mg C) {f : Addr} : Body P w K mg base C f N_l_page "_law_page" s_l_page 0 anyG d_l_page := fun cdv A outer s H E hg hr => by
  have hu := hu64_of hr
  have hu65 := hu65_of hr
  exact
    (pds_one (pds_ret (pd_join (pd_op sd_add (pd_fr (pdf_lst (pda_cons (pd_join (pd_var 0)) pda_nil))) (pd_fr (pdf_lc [("_law_here", 2), ("_law_there", 3)] rfl sc_l_page.nd (pdi_seq (pd_var 1)) rfl (fun _ _ _ _ _ => (pdg_tup rfl (pdgs_cons (pdg_name 2 sc_l_page.nd) (pdgs_cons (pdg_name 3 sc_l_page.nd) pdgs_nil)))) (fun _ _ _ _ _ => pdts_nil) (fun _ _ _ _ _ => (pd_op sd_add (pd_opV sd_add 2 pd_str) (pd_var 3)))))))))
abbrev N_l_pushed : List Str := ["_law_roads_here", "_law_here", "_law_pair"]
theorem sc_l_pushed : FnScope N_l_pushed ["_law_roads_here", "_law_here"] (defScope s_l_pushed) := ⟨rfl, rfl, rfl, by decide +kernel, rfl, by decide +kernel, by decide +kernel⟩
theorem pd_l_pushed (T : Tx K mg C) {f : Addr} : Body P w K mg base C f N_l_pushed "_law_pushed" s_l_pushed 0 anyG d_l_pushed := fun cdv A outer s H E hg hr => by
  have hu := hu64_of hr
  have hu65 := hu65_of hr
  exact
    (pds_one (pds_ret (pd_fr (pdf_lc [("_law_pair", 2)] rfl sc_l_pushed.nd (pdi_seq (pd_var 0)) rfl (fun _ _ _ _ _ => (pdg_name 2 sc_l_pushed.nd)) (fun _ _ _ _ _ => (pdts_one (pdt_cmp (sd_eq hu) (pd_ixV 2 pd_int) (pd_var 1)))) (fun _ _ _ _ _ => (pd_ixV 2 pd_int))))))
abbrev N_l_alone : List Str := ["_law_roads_here", "_law_here", "_law_sure", "_law_fresh", "_law_there"]
theorem sc_l_alone : FnScope N_l_alone ["_law_roads_here", "_law_here", "_law_sure"] (defScope s_l_alone) := ⟨rfl, rfl, rfl, by decide +kernel, rfl, by decide +kernel, by decide +kernel⟩
theorem pd_l_alone (T : Tx K mg C) (c_l_pushed : Cal P w K mg base "_law_pushed" 1 ["_law_roads_here", "_law_here"] (spD K C pre_l_pushed post_l_pushed)) {f : Addr} : Body P w K mg base C f N_l_alone "_law_alone" s_l_alone 1 anyG d_l_alone := fun cdv A outer s H E hg hr => by
  have hu := hu64_of hr
  have hu65 := hu65_of hr
  exact
    (pds_cons (pds_setLc 3 [("_law_there", 4)] rfl sc_l_alone.nd (pdi_seq (pd_call c_l_pushed (hr.mono (by decide)) (pda_cons (pd_var 0) (pda_cons (pd_var 1) pda_nil)))) rfl (fun _ _ _ _ _ => (pdg_name 4 sc_l_alone.nd)) (fun _ _ _ _ _ => (pdts_one (pdt_cmpV (sd_notIn hu65) 4 (pd_var 2)))) (fun _ _ _ _ _ => (pd_var 4)))
    (pds_one (pds_ret (pd_ifE (pdt_cmp (sd_eq hu) (pd_len T.len (pd_var 3)) pd_int) (pd_var 3) (pd_fr (pdf_lst pda_nil))))))
abbrev N_l_game : List Str := ["_law_crew_here", "_law_roads_here", "_law_heads_here", "_law_sure", "_law_turn", "_law_here"]
theorem sc_l_game : FnScope N_l_game ["_law_crew_here", "_law_roads_here", "_law_heads_here"] (defScope s_l_game) := ⟨rfl, rfl, rfl, by decide +kernel, rfl, by decide +kernel, by decide +kernel⟩
theorem pd_l_game (T : Tx K mg C) (c_l_alone : Cal P w K mg base "_law_alone" 2 ["_law_roads_here", "_law_here", "_law_sure"] (spD K C pre_l_alone post_l_alone)) {f : Addr} : Body P w K mg base C f N_l_game "_law_game" s_l_game 2 anyG d_l_game := fun cdv A outer s H E hg hr => by
  have hu := hu64_of hr
  have hu65 := hu65_of hr
  exact
    (pds_cons (pds_asg (pd_fr (pdf_list T.list (pd_var 2))) (pdg_name 3 sc_l_game.nd))
    (pds_cons (pds_for PassesOwn.never rfl (pdi_range T.range (pd_len T.len (pd_var 0))) (pdg_name 4 sc_l_game.nd) (pds_one (pds_for PassesOwn.never rfl (pdi_seq (pd_var 0)) (pdg_name 5 sc_l_game.nd) (pds_one (pds_if (pdt_cmpV (sd_in hu65) 5 (pd_var 3)) (pds_one (pds_asg (pd_opV sd_add 3 (pd_call c_l_alone (hr.mono (by decide)) (pda_cons (pd_var 1) (pda_cons (pd_var 5) (pda_cons (pd_var 3) pda_nil))))) (pdg_name 3 sc_l_game.nd))) pds_nil)))))
    (pds_one (pds_ret (pd_var 3)))))
abbrev N_l_table : List Str := ["_law_keg_here", "_law_crew_here", "_law_roads_here", "_law_far", "_law_found", "_law_there", "_law_row", "_law_here", "_law_much"]
theorem sc_l_table : FnScope N_l_table ["_law_keg_here", "_law_crew_here", "_law_roads_here", "_law_far"] (defScope s_l_table) := ⟨rfl, rfl, rfl, by decide +kernel, rfl, by decide +kernel, by decide +kernel⟩
theorem pd_l_table (T : Tx K mg C) (c_l_pick : Cal P w K mg base "_law_pick" 2 ["_law_keg_here", "_law_things"] (spK K C pre_l_pick post_l_pick)) (c_l_tap : Cal P w K mg base "_law_tap" 1 ["_law_keg_here", "_law_upto"] (spK K C pre_l_tap post_l_tap)) {f : Addr} : Body P w K mg base C f N_l_table "_law_table" s_l_table 2 anyG d_l_table := fun cdv A outer s H E hg hr => by
  have hu := hu64_of hr
  have hu65 := hu65_of hr
  exact
    (pds_cons (pds_asgO 4 (pdf_lst pda_nil) sc_l_table.nd)
    (pds_cons (pds_for PassesOwn.never rfl (pdi_seq (pd_var 1)) (pdg_name 5 sc_l_table.nd) (pds_cons (pds_asgO 6 (pdf_lst pda_nil) sc_l_table.nd)
    (pds_cons (pds_for PassesOwn.never rfl (pdi_seq (pd_var 1)) (pdg_name 7 sc_l_table.nd) (pds_cons (pds_asg (pd_op sd_add pd_int (pd_callK 0 c_l_tap (hr.mono (by decide)) (pda_cons (pd_var 3) pda_nil))) (pdg_name 8 sc_l_table.nd))
    (pds_cons (pds_asg (pd_ifE (pdt_cmp (sd_eq hu) (pd_callK 0 c_l_tap (hr.mono (by decide)) (pda_cons pd_int pda_nil)) pd_int) (pd_var 8) (pd_op sd_sub pd_int (pd_var 8))) (pdg_name 8 sc_l_table.nd))
    (pds_cons (pds_if (pdt_cmpV (sd_eq hu) 7 (pd_var 5)) (pds_one (pds_asg (pd_callK 0 c_l_pick (hr.mono (by decide)) (pda_cons (pd_fr (pdf_lst (pda_cons pd_int (pda_cons pd_int (pda_cons (pd_var 8) pda_nil))))) pda_nil)) (pdg_name 8 sc_l_table.nd))) (pds_one (pds_if (pdt_cmp (sd_notIn hu65) (pd_tup (pda_cons (pd_var 7) (pda_cons (pd_var 5) pda_nil))) (pd_var 2)) (pds_one (pds_asg pd_int (pdg_name 8 sc_l_table.nd))) pds_nil)))
    (pds_one (pds_app 6 (pd_var 8)))))))
    (pds_one (pds_app 4 (pd_t1 sd_tuple T.tuple (pd_var 6)))))))
    (pds_one (pds_ret (pd_t1 sd_tuple T.tuple (pd_var 4))))))
abbrev N_l_cut : List Str := ["_law_row", "_law_high", "_law_each", "_law_less", "_law_turn"]
theorem sc_l_cut : FnScope N_l_cut ["_law_row"] (defScope s_l_cut) := ⟨rfl, rfl, rfl, by decide +kernel, rfl, by decide +kernel, by decide +kernel⟩
theorem pd_l_cut (T : Tx K mg C) {f : Addr} : Body P w K mg base C f N_l_cut "_law_cut" s_l_cut 0 anyG d_l_cut := fun cdv A outer s H E hg hr => by
  have hu := hu64_of hr
  have hu65 := hu65_of hr
  exact
    (pds_cons (pds_asg pd_int (pdg_name 1 sc_l_cut.nd))
    (pds_cons (pds_for PassesOwn.never rfl (pdi_seq (pd_var 0)) (pdg_name 2 sc_l_cut.nd) (pds_cons (pds_asg (pd_b1 sd_abs T.abs (pd_var 2)) (pdg_name 3 sc_l_cut.nd))
    (pds_one (pds_for PassesOwn.never rfl (pdi_range T.range pd_int) (pdg_name 4 sc_l_cut.nd) (pds_cons (pds_if (pdt_cmpV (sd_eq hu) 3 pd_int) (pds_one pds_brk) pds_nil)
    (pds_one (pds_parC 1 3 rfl sc_l_cut.nd (pda_cons (pd_var 3) (pda_cons (pd_op sd_mod (pd_t1 sd_int T.int (pd_var 1)) (pd_var 3)) pda_nil)))))))))
    (pds_one (pds_ret (pd_ifE (pdt_cmpV sd_gt 1 pd_int) (pd_fr (pdf_lc [("_law_each", 2)] rfl sc_l_cut.nd (pdi_seq (pd_var 0)) rfl (fun _ _ _ _ _ => (pdg_name 2 sc_l_cut.nd)) (fun _ _ _ _ _ => pdts_nil) (fun _ _ _ _ _ => (pd_opV sd_div 2 (pd_var 1))))) (pd_fr (pdf_list T.list (pd_var 0))))))))
abbrev N_l_free : List Str := ["_law_rows", "_law_left", "_law_many_free", "_law_row", "_law_at", "_law_some", "_law_top", "_law_rest", "_law_high", "_law_less", "_law_near", "_law_far", "_law_each"]
theorem sc_l_free : FnScope N_l_free ["_law_rows"] (defScope s_l_free) := ⟨rfl, rfl, rfl, by decide +kernel, rfl, by decide +kernel, by decide +kernel⟩
theorem pd_l_free (T : Tx K mg C) (c_l_cut : Cal P w K mg base "_law_cut" 1 ["_law_row"] (spD K C pre_l_cut post_l_cut)) {f : Addr} : Body P w K mg base C f N_l_free "_law_free" s_l_free 1 anyG d_l_free := fun cdv A outer s H E hg hr => by
  have hu := hu64_of hr
  have hu65 := hu65_of hr
  exact
    (pds_cons (pds_par 1 2 rfl sc_l_free.nd (pda_cons (pd_fr (pdf_lc [("_law_row", 3)] rfl sc_l_free.nd (pdi_seq (pd_var 0)) rfl (fun _ _ _ _ _ => (pdg_name 3 sc_l_free.nd)) (fun _ _ _ _ _ => pdts_nil) (fun _ _ _ _ _ => (pd_call c_l_cut (hr.mono (by decide)) (pda_cons (pd_var 3) pda_nil))))) (pda_cons pd_int pda_nil)))
    (pds_cons (pds_for PassesOwn.never rfl (pdi_range T.range (pd_ifE (pdt_cmpV (sd_ne hu) 0 (pd_fr (pdf_lst pda_nil))) (pd_len T.len (pd_ixV 0 pd_int)) pd_int)) (pdg_name 4 sc_l_free.nd) (pds_cons (pds_setLc 5 [("_law_row", 3)] rfl sc_l_free.nd (pdi_seq (pd_var 1)) rfl (fun _ _ _ _ _ => (pdg_name 3 sc_l_free.nd)) (fun _ _ _ _ _ => (pdts_one (pdt_cmp (sd_ne hu) (pd_ixV 3 (pd_var 4)) pd_int))) (fun _ _ _ _ _ => (pd_var 3)))
    (pds_one (pds_if (pdt_cmpV (sd_ne hu) 5 (pd_fr (pdf_lst pda_nil))) (pds_cons (pds_par 6 2 rfl sc_l_free.nd (pda_cons (pd_ixV 5 pd_int) (pda_cons (pd_opV sd_add 2 pd_int) pda_nil)))
    (pds_cons (pds_setLcO 7 [("_law_row", 3)] rfl sc_l_free.nd (pdi_seq (pd_var 1)) rfl (fun _ _ _ _ _ => (pdg_name 3 sc_l_free.nd)) (fun _ _ _ _ _ => (pdts_one (pdt_cmp (sd_eq hu) (pd_ixV 3 (pd_var 4)) pd_int))) (fun _ _ _ _ _ => (pd_var 3)))
    (pds_cons (pds_for PassesOwn.never rfl (pdi_seq (pd_slice (pd_var 5) (pdo_some pd_int) pdo_none)) (pdg_name 3 sc_l_free.nd) (pds_cons (pds_parC 8 9 rfl sc_l_free.nd (pda_cons (pd_ixV 6 (pd_var 4)) (pda_cons (pd_ixV 3 (pd_var 4)) pda_nil)))
    (pds_one (pds_app 7 (pd_call c_l_cut (hr.mono (by decide)) (pda_cons (pd_fr (pdf_lc [("_law_near", 10), ("_law_far", 11)] rfl sc_l_free.nd (pdi_zip T.zip (pd_var 3) (pd_var 6)) rfl (fun _ _ _ _ _ => (pdg_tup rfl (pdgs_cons (pdg_name 10 sc_l_free.nd) (pdgs_cons (pdg_name 11 sc_l_free.nd) pdgs_nil)))) (fun _ _ _ _ _ => pdts_nil) (fun _ _ _ _ _ => (pd_op sd_sub (pd_opV sd_mul 10 (pd_var 8)) (pd_opV sd_mul 11 (pd_var 9)))))) pda_nil))))))
    (pds_frz 7 (pds_one (pds_setLc 1 [("_law_row", 3)] rfl sc_l_free.nd (pdi_seq (pd_var 7)) rfl (fun _ _ _ _ _ => (pdg_name 3 sc_l_free.nd)) (fun _ _ _ _ _ => (pdts_one (pdt_cmp (sd_ne hu) (pd_fr (pdf_lc [("_law_each", 12)] rfl sc_l_free.nd (pdi_seq (pd_var 3)) rfl (fun _ _ _ _ _ => (pdg_name 12 sc_l_free.nd)) (fun _ _ _ _ _ => (pdts_one (pdt_cmpV (sd_ne hu) 12 pd_int))) (fun _ _ _ _ _ => (pd_var 12)))) (pd_fr (pdf_lst pda_nil))))) (fun _ _ _ _ _ => (pd_var 3)))))))) pds_nil))))
    (pds_one (pds_ret (pd_var 2)))))
abbrev N_l_come : List Str := ["_law_table_here", "_law_spots", "_law_days_here", "_law_found", "_law_spot", "_law_row", "_law_k", "_law_turn", "_law_line"]
theorem sc_l_come : FnScope N_l_come ["_law_table_here", "_law_spots", "_law_days_here"] (defScope s_l_come) := ⟨rfl, rfl, rfl, by decide +kernel, rfl, by decide +kernel, by decide +kernel⟩
theorem pd_l_come (T : Tx K mg C) {f : Addr} : Body P w K mg base C f N_l_come "_law_come" s_l_come 0 anyG d_l_come := fun cdv A outer s H E hg hr => by
  have hu := hu64_of hr
  have hu65 := hu65_of hr
  exact
    (pds_cons (pds_asgO 3 (pdf_lst pda_nil) sc_l_come.nd)
    (pds_cons (pds_for PassesOwn.never rfl (pdi_seq (pd_var 1)) (pdg_name 4 sc_l_come.nd) (pds_cons (pds_asg (pd_fr (pdf_lc [("_law_k", 6)] rfl sc_l_come.nd (pdi_range T.range (pd_len T.len (pd_var 0))) rfl (fun _ _ _ _ _ => (pdg_name 6 sc_l_come.nd)) (fun _ _ _ _ _ => pdts_nil) (fun _ _ _ _ _ => (pd_t1 sd_int T.int (pd_cmpV (sd_eq hu) 6 (pd_var 4)))))) (pdg_name 5 sc_l_come.nd))
    (pds_one (pds_for PassesOwn.never rfl (pdi_range T.range (pd_var 2)) (pdg_name 7 sc_l_come.nd) (pds_cons (pds_app 3 (pd_var 5))
    (pds_one (pds_asg (pd_fr (pdf_lc [("_law_line", 8)] rfl sc_l_come.nd (pdi_seq (pd_var 0)) rfl (fun _ _ _ _ _ => (pdg_name 8 sc_l_come.nd)) (fun _ _ _ _ _ => pdts_nil) (fun _ _ _ _ _ => (pd_b1 (sd_sum rfl) T.sum (pd_fr (pdf_lc [("_law_k", 6)] rfl sc_l_come.nd (pdi_range T.range (pd_len T.len (pd_var 5))) rfl (fun _ _ _ _ _ => (pdg_name 6 sc_l_come.nd)) (fun _ _ _ _ _ => pdts_nil) (fun _ _ _ _ _ => (pd_op sd_mul (pd_ixV 8 (pd_var 6)) (pd_ixV 5 (pd_var 6)))))))))) (pdg_name 5 sc_l_come.nd))))))))
    (pds_frz 3 (pds_one (pds_ret (pd_var 3))))))
abbrev N_l_does_steer : List Str := ["_law_crew_here", "_law_table_here", "_law_heads_here", "_law_each"]
theorem sc_l_does_steer : FnScope N_l_does_steer ["_law_crew_here", "_law_table_here", "_law_heads_here"] (defScope s_l_does_steer) := ⟨rfl, rfl, rfl, by decide +kernel, rfl, by decide +kernel, by decide +kernel⟩
theorem pd_l_does_steer (T : Tx K mg C) (c_l_come : Cal P w K mg base "_law_come" 1 ["_law_table_here", "_law_spots", "_law_days_here"] (spD K C pre_l_come post_l_come)) (c_l_free : Cal P w K mg base "_law_free" 2 ["_law_rows"] (spD K C pre_l_free post_l_free)) {f : Addr} : Body P w K mg base C f N_l_does_steer "_law_does_steer" s_l_does_steer 2 anyG d_l_does_steer := fun cdv A outer s H E hg hr => by
  have hu := hu64_of hr
  have hu65 := hu65_of hr
  exact
    (pds_one (pds_ret (pd_cmp (sd_eq hu) (pd_call c_l_free (hr.mono (by decide)) (pda_cons (pd_call c_l_come (hr.mono (by decide)) (pda_cons (pd_var 1) (pda_cons (pd_fr (pdf_lc [("_law_each", 3)] rfl sc_l_does_steer.nd (pdi_seq (pd_var 2)) rfl (fun _ _ _ _ _ => (pdg_name 3 sc_l_does_steer.nd)) (fun _ _ _ _ _ => pdts_nil) (fun _ _ _ _ _ => (pd_index (pd_var 0) (pd_var 3))))) (pda_cons (pd_len T.len (pd_var 0)) pda_nil)))) pda_nil)) (pd_len T.len (pd_var 0)))))
abbrev N_l_asked : List Str := ["_law_said", "_law_paper_here", "_law_answers"]
theorem sc_l_asked : FnScope N_l_asked ["_law_said", "_law_paper_here"] (defScope s_l_asked) := ⟨rfl, rfl, rfl, by decide +kernel, rfl, by decide +kernel, by decide +kernel⟩
theorem pd_l_asked (T : Tx K mg C) (c_accepts : Cal P w K mg base "accepts" 9 ["claim", "certificate"] (spD K C pre_accepts post_accepts)) (cS_accepts : CalS P w K mg base "accepts" 9 "claim" "certificate" (spD K C pre_accepts post_accepts)) {f : Addr} : Body P w K mg base C f N_l_asked "_law_asked" s_l_asked 9 noG d_l_asked := fun cdv A outer s H E hg hr => by
  have hu := hu64_of hr
  have hu65 := hu65_of hr
  exact
    (pds_cons (pds_asg (pd_fr (pdf_lst (pda_cons (pd_call c_accepts (hr.mono (by decide)) (pda_cons (pd_var 0) (pda_cons (pd_var 1) pda_nil))) (pda_cons (pd_callS cS_accepts (hr.mono (by decide)) (pd_var 1) (pd_var 0)) pda_nil)))) (pdg_name 2 sc_l_asked.nd))
    (pds_one (pds_ret (pd_ifE (pdt_cmp (sd_in hu65) (pd_repr hg (hr.mono (by decide)) T.repr (pd_var 2)) (pd_fr (pdf_lst (pda_cons pd_str (pda_cons pd_str pda_nil))))) (pd_ixV 2 pd_int) pd_non))))
abbrev N_l_barring : List Str := ["_law_keg_here", "_law_crew_here", "_law_roads_here", "_law_heads_here", "_law_sure", "_law_table_here", "_law_row", "_law_here", "_law_many_fold", "_law_i", "_law_inner", "_law_j", "_law_total", "_law_line"]
theorem sc_l_barring : FnScope N_l_barring ["_law_keg_here", "_law_crew_here", "_law_roads_here", "_law_heads_here"] (defScope s_l_barring) := ⟨rfl, rfl, rfl, by decide +kernel, rfl, by decide +kernel, by decide +kernel⟩
theorem pd_l_barring (T : Tx K mg C) (c_l_game : Cal P w K mg base "_law_game" 3 ["_law_crew_here", "_law_roads_here", "_law_heads_here"] (spD K C pre_l_game post_l_game)) (c_l_table : Cal P w K mg base "_law_table" 3 ["_law_keg_here", "_law_crew_here", "_law_roads_here", "_law_far"] (spK K C pre_l_table post_l_table)) (c_l_tap : Cal P w K mg base "_law_tap" 1 ["_law_keg_here", "_law_upto"] (spK K C pre_l_tap post_l_tap)) {f : Addr} : Body P w K mg base C f N_l_barring "_law_barring" s_l_barring 3 anyG d_l_barring := fun cdv A outer s H E hg hr => by
  have hu := hu64_of hr
  have hu65 := hu65_of hr
  exact
    (pds_cons (pds_parC 4 5 rfl sc_l_barring.nd (pda_cons (pd_call c_l_game (hr.mono (by decide)) (pda_cons (pd_var 1) (pda_cons (pd_var 2) (pda_cons (pd_var 3) pda_nil)))) (pda_one2 (pd2_lc rfl sc_l_barring.nd (pdi_seq (pd_callK 0 c_l_table (hr.mono (by decide)) (pda_cons (pd_var 1) (pda_cons (pd_var 2) (pda_cons pd_int pda_nil))))) (fun _ _ _ _ _ => pg_name sc_l_barring.nd rfl (by first | exact .inl rfl | exact .inr rfl)) (fun _ _ _ _ _ => pe_callTy call_list_of (by rfl) T.list (by decide +kernel) (pa_cons (pv 6) pa_nil))))))
    (pds_cons (pds_asg (pd_fr (pdf_lc [("_law_here", 7)] rfl sc_l_barring.nd (pdi_seq (pd_var 1)) rfl (fun _ _ _ _ _ => (pdg_name 7 sc_l_barring.nd)) (fun _ _ _ _ _ => pdts_nil) (fun _ _ _ _ _ => (pd_ifE (pdt_cmpV (sd_in hu65) 7 (pd_var 4)) pd_int (pd_op sd_sub pd_int (pd_op sd_mul pd_int (pd_callK 0 c_l_tap (hr.mono (by decide)) (pda_cons pd_int pda_nil)))))))) (pdg_name 6 sc_l_barring.nd))
    (pds_cons (pds_asg (pd_op sd_sub (pd_callK 0 c_l_tap (hr.mono (by decide)) (pda_cons pd_int pda_nil)) pd_int) (pdg_name 8 sc_l_barring.nd))
    (pds_cons (pds_for PassesOwn.never rfl (pdi_range T.range (pd_len T.len (pd_var 1))) (pdg_name 9 sc_l_barring.nd) (pds_cons (pds_setLc 10 [("_law_j", 11)] rfl sc_l_barring.nd (pdi_range T.range (pd_len T.len (pd_var 1))) rfl (fun _ _ _ _ _ => (pdg_name 11 sc_l_barring.nd)) (fun _ _ _ _ _ => (pdts_one (pdt_w (pdw_and (pdt_cmp (sd_ne hu) (pd_ixV 6 (pd_var 11)) pd_int) (pdw_and (pdt_cmpV (sd_ne hu) 11 (pd_var 9)) (pdw_and1 (pdt_cmp (sd_ne hu) (pd_ix2 5 (pd_var 11) (pd_var 9)) pd_int))))))) (fun _ _ _ _ _ => (pd_var 11)))
    (pds_cons (pds_if (pdt_w (pdw_and (pdt_cmp (sd_in hu65) (pd_ixV 1 (pd_var 9)) (pd_var 4)) (pdw_and1 (pdt_cmpV (sd_ne hu) 10 (pd_fr (pdf_lst pda_nil)))))) (pds_cons (pds_asg pd_int (pdg_name 12 sc_l_barring.nd))
    (pds_cons (pds_for PassesOwn.never rfl (pdi_seq (pd_slice (pd_var 10) pdo_none (pdo_some (pd_un sd_neg pd_int)))) (pdg_name 11 sc_l_barring.nd) (pds_cons (pds_asg (pd_op sd_mul (pd_ixV 6 (pd_var 11)) (pd_b1 sd_abs T.abs (pd_ix2 5 (pd_var 11) (pd_var 9)))) (pdg_set2 5 (pd_var 11) (pd_var 9)))
    (pds_one (pds_asg (pd_opV sd_add 12 (pd_b1 sd_abs T.abs (pd_ix2 5 (pd_var 11) (pd_var 9)))) (pdg_name 12 sc_l_barring.nd)))))
    (pds_one (pds_asg (pd_op sd_sub pd_int (pd_op sd_mul (pd_ixV 6 (pd_ixV 10 (pd_un sd_neg pd_int))) (pd_var 12))) (pdg_set2 5 (pd_ixV 10 (pd_un sd_neg pd_int)) (pd_var 9)))))) pds_nil)
    (pds_one (pds_if (pdt_cmp (sd_notIn hu65) (pd_ixV 1 (pd_var 9)) (pd_var 4)) (pds_cons (pds_asg (pd_b1 (sd_sum rfl) T.sum (pd_fr (pdf_lc [("_law_j", 11)] rfl sc_l_barring.nd (pdi_seq (pd_var 10)) rfl (fun _ _ _ _ _ => (pdg_name 11 sc_l_barring.nd)) (fun _ _ _ _ _ => pdts_nil) (fun _ _ _ _ _ => (pd_op sd_mul (pd_ixV 6 (pd_var 11)) (pd_ix2 5 (pd_var 11) (pd_var 9))))))) (pdg_name 12 sc_l_barring.nd))
    (pds_one (pds_asg (pd_opV sd_sub 8 (pd_op sd_mul (pd_ixV 6 (pd_var 9)) (pd_var 12))) (pdg_set2 5 (pd_var 9) (pd_var 9))))) pds_nil)))))
    (pds_frz 5 (pds_one (pds_ret (pd_tup (pda_cons (pd_t1 sd_tuple T.tuple (pd_fr (pdf_lc [("_law_line", 13)] rfl sc_l_barring.nd (pdi_seq (pd_var 5)) rfl (fun _ _ _ _ _ => (pdg_name 13 sc_l_barring.nd)) (fun _ _ _ _ _ => pdts_nil) (fun _ _ _ _ _ => (pd_t1 sd_tuple T.tuple (pd_var 13)))))) (pda_cons (pd_tup (pda_cons (pd_t1 sd_tuple T.tuple (pd_var 6)) (pda_cons (pd_var 8) pda_nil))) pda_nil))))))))))
abbrev N_l_low : List Str := ["_law_top", "_law_bottom", "_law_high", "_law_less", "_law_turn"]
theorem sc_l_low : FnScope N_l_low ["_law_top", "_law_bottom"] (defScope s_l_low) := ⟨rfl, rfl, rfl, by decide +kernel, rfl, by decide +kernel, by decide +kernel⟩
theorem pd_l_low (T : Tx K mg C) {f : Addr} : Body P w K mg base C f N_l_low "_law_low" s_l_low 0 anyG d_l_low := fun cdv A outer s H E hg hr => by
  have hu := hu64_of hr
  have hu65 := hu65_of hr
  exact
    (pds_cons (pds_par 2 3 rfl sc_l_low.nd (pda_cons (pd_b1 sd_abs T.abs (pd_var 0)) (pda_cons (pd_var 1) pda_nil)))
    (pds_cons (pds_for PassesOwn.never rfl (pdi_range T.range pd_int) (pdg_name 4 sc_l_low.nd) (pds_cons (pds_if (pdt_cmpV (sd_eq hu) 3 pd_int) (pds_one pds_brk) pds_nil)
    (pds_one (pds_par 2 3 rfl sc_l_low.nd (pda_cons (pd_var 3) (pda_cons (pd_op sd_mod (pd_t1 sd_int T.int (pd_var 2)) (pd_var 3)) pda_nil))))))
    (pds_one (pds_ret (pd_tup (pda_cons (pd_opV sd_div 0 (pd_var 2)) (pda_cons (pd_opV sd_div 1 (pd_var 2)) pda_nil)))))))
abbrev N_l_add : List Str := ["_law_near", "_law_far"]
theorem sc_l_add : FnScope N_l_add ["_law_near", "_law_far"] (defScope s_l_add) := ⟨rfl, rfl, rfl, by decide +kernel, rfl, by decide +kernel, by decide +kernel⟩
theorem pd_l_add (T : Tx K mg C) (c_l_low : Cal P w K mg base "_law_low" 1 ["_law_top", "_law_bottom"] (spD K C pre_l_low post_l_low)) {f : Addr} : Body P w K mg base C f N_l_add "_law_add" s_l_add 1 anyG d_l_add := fun cdv A outer s H E hg hr => by
  have hu := hu64_of hr
  have hu65 := hu65_of hr
  exact
    (pds_one (pds_ret (pd_call c_l_low (hr.mono (by decide)) (pda_cons (pd_op sd_add (pd_op sd_mul (pd_ixV 0 pd_int) (pd_ixV 1 pd_int)) (pd_op sd_mul (pd_ixV 1 pd_int) (pd_ixV 0 pd_int))) (pda_cons (pd_op sd_mul (pd_ixV 0 pd_int) (pd_ixV 1 pd_int)) pda_nil)))))
abbrev N_l_fold : List Str := ["_law_much", "_law_share"]
theorem sc_l_fold : FnScope N_l_fold ["_law_much", "_law_share"] (defScope s_l_fold) := ⟨rfl, rfl, rfl, by decide +kernel, rfl, by decide +kernel, by decide +kernel⟩
theorem pd_l_fold (T : Tx K mg C) (c_l_low : Cal P w K mg base "_law_low" 1 ["_law_top", "_law_bottom"] (spD K C pre_l_low post_l_low)) {f : Addr} : Body P w K mg base C f N_l_fold "_law_fold" s_l_fold 1 anyG d_l_fold := fun cdv A outer s H E hg hr => by
  have hu := hu64_of hr
  have hu65 := hu65_of hr
  exact
    (pds_one (pds_ret (pd_call c_l_low (hr.mono (by decide)) (pda_cons (pd_opV sd_mul 0 (pd_ixV 1 pd_int)) (pda_cons (pd_ixV 1 pd_int) pda_nil)))))
abbrev N_l_after_day : List Str := ["_law_table_here", "_law_spots", "_law_state_here", "_law_shove", "_law_found", "_law_line", "_law_total", "_law_k"]
theorem sc_l_after_day : FnScope N_l_after_day ["_law_table_here", "_law_spots", "_law_state_here", "_law_shove"] (defScope s_l_after_day) := ⟨rfl, rfl, rfl, by decide +kernel, rfl, by decide +kernel, by decide +kernel⟩
theorem pd_l_after_day (T : Tx K mg C) (c_l_add : Cal P w K mg base "_law_add" 2 ["_law_near", "_law_far"] (spD K C pre_l_add post_l_add)) (c_l_fold : Cal P w K mg base "_law_fold" 2 ["_law_much", "_law_share"] (spD K C pre_l_fold post_l_fold)) {f : Addr} : Body P w K mg base C f N_l_after_day "_law_after_day" s_l_after_day 2 anyG d_l_after_day := fun cdv A outer s H E hg hr => by
  have hu := hu64_of hr
  have hu65 := hu65_of hr
  exact
    (pds_cons (pds_asgO 4 (pdf_lst pda_nil) sc_l_after_day.nd)
    (pds_cons (pds_for PassesOwn.never rfl (pdi_seq (pd_var 0)) (pdg_name 5 sc_l_after_day.nd) (pds_cons (pds_asg (pd_tup (pda_cons pd_int (pda_cons pd_int pda_nil))) (pdg_name 6 sc_l_after_day.nd))
    (pds_cons (pds_for PassesOwn.never rfl (pdi_range T.range (pd_len T.len (pd_var 5))) (pdg_name 7 sc_l_after_day.nd) (pds_one (pds_asg (pd_call c_l_add (hr.mono (by decide)) (pda_cons (pd_var 6) (pda_cons (pd_call c_l_fold (hr.mono (by decide)) (pda_cons (pd_ixV 5 (pd_var 7)) (pda_cons (pd_ixV 2 (pd_var 7)) pda_nil))) pda_nil))) (pdg_name 6 sc_l_after_day.nd))))
    (pds_one (pds_app 4 (pd_var 6))))))
    (pds_cons (pds_for PassesOwn.never rfl (pdi_range T.range (pd_len T.len (pd_var 1))) (pdg_name 7 sc_l_after_day.nd) (pds_one (pds_asg (pd_call c_l_add (hr.mono (by decide)) (pda_cons (pd_ixV 4 (pd_ixV 1 (pd_var 7))) (pda_cons (pd_ixV 3 (pd_var 7)) pda_nil))) (pdg_set 4 (pd_ixV 1 (pd_var 7))))))
    (pds_one (pds_ret (pd_t1 sd_tuple T.tuple (pd_var 4)))))))
abbrev N_l_come_to : List Str := ["_law_table_here", "_law_spots", "_law_state_here", "_law_shoves", "_law_shove"]
theorem sc_l_come_to : FnScope N_l_come_to ["_law_table_here", "_law_spots", "_law_state_here", "_law_shoves"] (defScope s_l_come_to) := ⟨rfl, rfl, rfl, by decide +kernel, rfl, by decide +kernel, by decide +kernel⟩
theorem pd_l_come_to (T : Tx K mg C) (c_l_after_day : Cal P w K mg base "_law_after_day" 3 ["_law_table_here", "_law_spots", "_law_state_here", "_law_shove"] (spD K C pre_l_after_day post_l_after_day)) {f : Addr} : Body P w K mg base C f N_l_come_to "_law_come_to" s_l_come_to 3 anyG d_l_come_to := fun cdv A outer s H E hg hr => by
  have hu := hu64_of hr
  have hu65 := hu65_of hr
  exact
    (pds_cons (pds_for PassesOwn.never rfl (pdi_seq (pd_var 3)) (pdg_name 4 sc_l_come_to.nd) (pds_one (pds_asg (pd_call c_l_after_day (hr.mono (by decide)) (pda_cons (pd_var 0) (pda_cons (pd_var 1) (pda_cons (pd_var 2) (pda_cons (pd_var 4) pda_nil))))) (pdg_name 2 sc_l_come_to.nd))))
    (pds_one (pds_ret (pd_var 2))))
abbrev N_l_wide_share : List Str := ["_law_keg_here", "_law_top"]
theorem sc_l_wide_share : FnScope N_l_wide_share ["_law_keg_here"] (defScope s_l_wide_share) := ⟨rfl, rfl, rfl, by decide +kernel, rfl, by decide +kernel, by decide +kernel⟩
theorem pd_l_wide_share (T : Tx K mg C) (c_l_low : Cal P w K mg base "_law_low" 1 ["_law_top", "_law_bottom"] (spD K C pre_l_low post_l_low)) (c_l_tap : Cal P w K mg base "_law_tap" 1 ["_law_keg_here", "_law_upto"] (spK K C pre_l_tap post_l_tap)) {f : Addr} : Body P w K mg base C f N_l_wide_share "_law_wide_share" s_l_wide_share 1 anyG d_l_wide_share := fun cdv A outer s H E hg hr => by
  have hu := hu64_of hr
  have hu65 := hu65_of hr
  exact
    (pds_cons (pds_asg (pd_op sd_mul (pd_op sd_mul (pd_op sd_sub pd_int (pd_op sd_mul pd_int (pd_callK 0 c_l_tap (hr.mono (by decide)) (pda_cons pd_int pda_nil)))) (pd_op sd_add pd_int (pd_callK 0 c_l_tap (hr.mono (by decide)) (pda_cons (pd_op sd_pow pd_int pd_int) pda_nil)))) (pd_op sd_add pd_int (pd_callK 0 c_l_tap (hr.mono (by decide)) (pda_cons (pd_op sd_pow pd_int pd_int) pda_nil)))) (pdg_name 1 sc_l_wide_share.nd))
    (pds_one (pds_ret (pd_call c_l_low (hr.mono (by decide)) (pda_cons (pd_var 1) (pda_cons (pd_op sd_add (pd_op sd_pow pd_int pd_int) pd_int) pda_nil))))))
abbrev N_l_edge : List Str := ["_law_keg_here", "_law_crew_here", "_law_roads_here", "_law_most_here", "_law_found", "_law_there", "_law_row", "_law_here", "_law_much"]
theorem sc_l_edge : FnScope N_l_edge ["_law_keg_here", "_law_crew_here", "_law_roads_here", "_law_most_here"] (defScope s_l_edge) := ⟨rfl, rfl, rfl, by decide +kernel, rfl, by decide +kernel, by decide +kernel⟩
theorem pd_l_edge (T : Tx K mg C) (c_l_tap : Cal P w K mg base "_law_tap" 1 ["_law_keg_here", "_law_upto"] (spK K C pre_l_tap post_l_tap)) {f : Addr} : Body P w K mg base C f N_l_edge "_law_edge" s_l_edge 1 anyG d_l_edge := fun cdv A outer s H E hg hr => by
  have hu := hu64_of hr
  have hu65 := hu65_of hr
  exact
    (pds_cons (pds_asgO 4 (pdf_lst pda_nil) sc_l_edge.nd)
    (pds_cons (pds_for PassesOwn.never rfl (pdi_seq (pd_var 1)) (pdg_name 5 sc_l_edge.nd) (pds_cons (pds_asgO 6 (pdf_lst pda_nil) sc_l_edge.nd)
    (pds_cons (pds_for PassesOwn.never rfl (pdi_seq (pd_var 1)) (pdg_name 7 sc_l_edge.nd) (pds_cons (pds_asg (pd_ifE (pdt_cmp (sd_eq hu) (pd_callK 0 c_l_tap (hr.mono (by decide)) (pda_cons pd_int pda_nil)) pd_int) (pd_var 3) (pd_op sd_sub pd_int (pd_var 3))) (pdg_name 8 sc_l_edge.nd))
    (pds_one (pds_app 6 (pd_ifE (pdt_w (pdw_or (pdt_cmpV (sd_eq hu) 7 (pd_var 5)) (pdw_or1 (pdt_cmp (sd_in hu65) (pd_tup (pda_cons (pd_var 7) (pda_cons (pd_var 5) pda_nil))) (pd_var 2))))) (pd_var 8) pd_int)))))
    (pds_one (pds_app 4 (pd_t1 sd_tuple T.tuple (pd_var 6)))))))
    (pds_one (pds_ret (pd_t1 sd_tuple T.tuple (pd_var 4))))))
abbrev N_l_bar_right : List Str := ["_law_keg_here", "_law_crew_here", "_law_roads_here", "_law_heads_here", "_law_page_here", "_law_table_here", "_law_bar_here", "_law_is_bar_here", "_law_wide", "_law_each", "_law_told", "_law_own", "_law_here", "_law_flat", "_law_lone", "_law_row", "_law_k"]
theorem sc_l_bar_right : FnScope N_l_bar_right ["_law_keg_here", "_law_crew_here", "_law_roads_here", "_law_heads_here", "_law_page_here"] (defScope s_l_bar_right) := ⟨rfl, rfl, rfl, by decide +kernel, rfl, by decide +kernel, by decide +kernel⟩
theorem pd_l_bar_right (T : Tx K mg C) (c_l_asked : CalG P w K mg base "_law_asked" 10 ["_law_said", "_law_paper_here"] (spD K C pre_l_asked post_l_asked)) (c_l_barring : Cal P w K mg base "_law_barring" 4 ["_law_keg_here", "_law_crew_here", "_law_roads_here", "_law_heads_here"] (spK K C pre_l_barring post_l_barring)) (c_l_edge : Cal P w K mg base "_law_edge" 2 ["_law_keg_here", "_law_crew_here", "_law_roads_here", "_law_most_here"] (spK K C pre_l_edge post_l_edge)) (c_l_game : Cal P w K mg base "_law_game" 3 ["_law_crew_here", "_law_roads_here", "_law_heads_here"] (spD K C pre_l_game post_l_game)) {f : Addr} : Body P w K mg base C f N_l_bar_right "_law_bar_right" s_l_bar_right 10 noG d_l_bar_right := fun cdv A outer s H E hg hr => by
  have hu := hu64_of hr
  have hu65 := hu65_of hr
  exact
    (pds_cons (pds_asg (pd_callK 0 c_l_barring (hr.mono (by decide)) (pda_cons (pd_var 1) (pda_cons (pd_var 2) (pda_cons (pd_var 3) pda_nil)))) (pdg_tup rfl (pdgs_cons (pdg_name 5 sc_l_bar_right.nd) (pdgs_cons (pdg_name 6 sc_l_bar_right.nd) pdgs_nil))))
    (pds_cons (pds_asg (pd_cmp sd_lt (pd_len T.len (pd_call c_l_game (hr.mono (by decide)) (pda_cons (pd_var 1) (pda_cons (pd_var 2) (pda_cons (pd_var 3) pda_nil))))) (pd_len T.len (pd_var 1))) (pdg_name 7 sc_l_bar_right.nd))
    (pds_cons (pds_asg (pd_t1 sd_tuple T.tuple (pd_fr (pdf_lc [("_law_each", 9)] rfl sc_l_bar_right.nd (pdi_seq (pd_ixV 6 pd_int)) rfl (fun _ _ _ _ _ => (pdg_name 9 sc_l_bar_right.nd)) (fun _ _ _ _ _ => pdts_nil) (fun _ _ _ _ _ => (pd_opV sd_mul 9 (pd_op sd_add (pd_op sd_pow pd_int pd_int) pd_int)))))) (pdg_name 8 sc_l_bar_right.nd))
    (pds_cons (pds_asgO 10 (pdf_lst (pda_cons (pd_callBy (CallBy.ofG c_l_asked hg (hr.mono (by decide))) (pda_cons (pd_tup (pda_cons pd_str (pda_cons (pd_var 4) (pda_cons (pd_var 3) pda_nil)))) (pda_cons (pd_tup (pda_cons (pd_var 5) (pda_cons (pd_tup (pda_cons (pd_var 8) (pda_cons (pd_ixV 6 pd_int) pda_nil))) pda_nil))) pda_nil))) pda_nil)) sc_l_bar_right.nd)
    (pds_cons (pds_app 10 (pd_callBy (CallBy.ofG c_l_asked hg (hr.mono (by decide))) (pda_cons (pd_tup (pda_cons pd_str (pda_cons (pd_var 4) (pda_cons (pd_var 3) pda_nil)))) (pda_cons (pd_tup (pda_cons (pd_var 5) (pda_cons (pd_tup (pda_cons (pd_var 8) (pda_cons (pd_op sd_add (pd_ixV 6 pd_int) (pd_op sd_pow pd_int pd_int)) pda_nil))) pda_nil))) pda_nil))))
    (pds_cons (pds_asg (pd_t1 sd_tuple T.tuple (pd_fr (pdf_lc [("_law_here", 12)] rfl sc_l_bar_right.nd (pdi_seq (pd_var 1)) rfl (fun _ _ _ _ _ => (pdg_name 12 sc_l_bar_right.nd)) (fun _ _ _ _ _ => pdts_nil) (fun _ _ _ _ _ => (pd_op sd_mul (pd_t1 sd_int T.int (pd_cmpV (sd_notIn hu65) 12 (pd_var 3))) (pd_op sd_pow pd_int pd_int)))))) (pdg_name 11 sc_l_bar_right.nd))
    (pds_cons (pds_asg (pd_callK 0 c_l_edge (hr.mono (by decide)) (pda_cons (pd_var 1) (pda_cons (pd_tup pda_nil) (pda_cons (pd_op sd_pow pd_int pd_int) pda_nil)))) (pdg_name 13 sc_l_bar_right.nd))
    (pds_cons (pds_asg (pd_join (pd_var 1)) (pdg_name 14 sc_l_bar_right.nd))
    (pds_cons (pds_asg (pd_t1 sd_tuple T.tuple (pd_fr (pdf_lc [("_law_k", 16)] rfl sc_l_bar_right.nd (pdi_range T.range (pd_len T.len (pd_var 1))) rfl (fun _ _ _ _ _ => (pdg_name 16 sc_l_bar_right.nd)) (fun _ _ _ _ _ => pdts_nil) (fun _ _ _ _ _ => (pd_op sd_mul (pd_ixV 11 (pd_var 16)) (pd_t1 sd_int T.int (pd_cmpV (sd_eq hu) 16 (pd_op sd_sub (pd_len T.len (pd_var 1)) pd_int)))))))) (pdg_name 15 sc_l_bar_right.nd))
    (pds_cons (pds_app 10 (pd_callBy (CallBy.ofG c_l_asked hg (hr.mono (by decide))) (pda_cons (pd_tup (pda_cons pd_str (pda_cons (pd_var 14) (pda_cons (pd_var 3) pda_nil)))) (pda_cons (pd_tup (pda_cons (pd_var 13) (pda_cons (pd_tup (pda_cons (pd_var 15) (pda_cons (pd_ix (pd_ixV 13 (pd_un sd_neg pd_int)) (pd_un sd_neg pd_int)) pda_nil))) pda_nil))) pda_nil))))
    (pds_one (pds_ret (pd_cmpV (sd_eq hu) 10 (pd_fr (pdf_lst (pda_cons (pd_var 7) (pda_cons pd_bl (pda_cons (pd_cmp (sd_notIn hu65) (pd_ixV 1 (pd_un sd_neg pd_int)) (pd_var 3)) pda_nil))))))))))))))))))
abbrev N_l_edge_right : List Str := ["_law_keg_here", "_law_crew_here", "_law_roads_here", "_law_heads_here", "_law_page_here", "_law_most_here", "_law_table_here", "_law_due", "_law_still", "_law_said"]
theorem sc_l_edge_right : FnScope N_l_edge_right ["_law_keg_here", "_law_crew_here", "_law_roads_here", "_law_heads_here", "_law_page_here"] (defScope s_l_edge_right) := ⟨rfl, rfl, rfl, by decide +kernel, rfl, by decide +kernel, by decide +kernel⟩
theorem pd_l_edge_right (T : Tx K mg C) (c_l_asked : CalG P w K mg base "_law_asked" 10 ["_law_said", "_law_paper_here"] (spD K C pre_l_asked post_l_asked)) (c_l_does_steer : Cal P w K mg base "_law_does_steer" 3 ["_law_crew_here", "_law_table_here", "_law_heads_here"] (spD K C pre_l_does_steer post_l_does_steer)) (c_l_edge : Cal P w K mg base "_law_edge" 2 ["_law_keg_here", "_law_crew_here", "_law_roads_here", "_law_most_here"] (spK K C pre_l_edge post_l_edge)) {f : Addr} : Body P w K mg base C f N_l_edge_right "_law_edge_right" s_l_edge_right 10 noG d_l_edge_right := fun cdv A outer s H E hg hr => by
  have hu := hu64_of hr
  have hu65 := hu65_of hr
  exact
    (pds_cons (pds_for PassesOwn.never rfl (pdi_seq (pd_fr (pdf_lst (pda_cons (pd_op sd_pow pd_int pd_int) (pda_cons (pd_op sd_add (pd_op sd_pow pd_int pd_int) pd_int) pda_nil))))) (pdg_name 5 sc_l_edge_right.nd) (pds_cons (pds_asg (pd_callK 0 c_l_edge (hr.mono (by decide)) (pda_cons (pd_var 1) (pda_cons (pd_var 2) (pda_cons (pd_var 5) pda_nil)))) (pdg_name 6 sc_l_edge_right.nd))
    (pds_cons (pds_asg (pd_and (pd_cmpV (sd_eq hu) 5 (pd_op sd_pow pd_int pd_int)) (pd_one (pd_call c_l_does_steer (hr.mono (by decide)) (pda_cons (pd_var 1) (pda_cons (pd_var 6) (pda_cons (pd_var 3) pda_nil)))))) (pdg_name 7 sc_l_edge_right.nd))
    (pds_cons (pds_if (pdt_cmp (sd_ne hu) (pd_callBy (CallBy.ofG c_l_asked hg (hr.mono (by decide))) (pda_cons (pd_tup (pda_cons pd_str (pda_cons (pd_var 4) (pda_cons (pd_var 3) pda_nil)))) (pda_cons (pd_var 6) pda_nil))) (pd_var 7)) (pds_one (pds_ret pd_bl)) pds_nil)
    (pds_cons (pds_asg (pd_op sd_mul (pd_tup (pda_cons (pd_tup (pda_cons pd_int (pda_cons pd_int pda_nil))) pda_nil)) (pd_len T.len (pd_var 1))) (pdg_name 8 sc_l_edge_right.nd))
    (pds_cons (pds_asg (pd_tup (pda_cons pd_str (pda_cons (pd_var 4) (pda_cons (pd_var 6) (pda_cons (pd_var 3) (pda_cons (pd_var 8) (pda_cons (pd_var 8) pda_nil))))))) (pdg_name 9 sc_l_edge_right.nd))
    (pds_one (pds_if (pdt_cmp (sd_ne hu) (pd_callBy (CallBy.ofG c_l_asked hg (hr.mono (by decide))) (pda_cons (pd_var 9) (pda_cons (pd_tup pda_nil) pda_nil))) (pd_cmpV (sd_eq hu) 5 (pd_op sd_pow pd_int pd_int))) (pds_one (pds_ret pd_bl)) pds_nil))))))))
    (pds_one (pds_ret pd_bl)))
abbrev N_l_way_right : List Str := ["_law_keg_here", "_law_crew_here", "_law_roads_here", "_law_heads_here", "_law_page_here", "_law_table_here", "_law_spots", "_law_here", "_law_begun", "_law_many_days", "_law_shoves", "_law_k", "_law_ended", "_law_at", "_law_near", "_law_wrong", "_law_told"]
theorem sc_l_way_right : FnScope N_l_way_right ["_law_keg_here", "_law_crew_here", "_law_roads_here", "_law_heads_here", "_law_page_here"] (defScope s_l_way_right) := ⟨rfl, rfl, rfl, by decide +kernel, rfl, by decide +kernel, by decide +kernel⟩
theorem pd_l_way_right (T : Tx K mg C) (c_l_asked : CalG P w K mg base "_law_asked" 10 ["_law_said", "_law_paper_here"] (spD K C pre_l_asked post_l_asked)) (c_l_come_to : Cal P w K mg base "_law_come_to" 4 ["_law_table_here", "_law_spots", "_law_state_here", "_law_shoves"] (spD K C pre_l_come_to post_l_come_to)) (c_l_low : Cal P w K mg base "_law_low" 1 ["_law_top", "_law_bottom"] (spD K C pre_l_low post_l_low)) (c_l_pick : Cal P w K mg base "_law_pick" 2 ["_law_keg_here", "_law_things"] (spK K C pre_l_pick post_l_pick)) (c_l_table : Cal P w K mg base "_law_table" 3 ["_law_keg_here", "_law_crew_here", "_law_roads_here", "_law_far"] (spK K C pre_l_table post_l_table)) (c_l_tap : Cal P w K mg base "_law_tap" 1 ["_law_keg_here", "_law_upto"] (spK K C pre_l_tap post_l_tap)) (c_l_wide_share : Cal P w K mg base "_law_wide_share" 2 ["_law_keg_here"] (spK K C pre_l_wide_share post_l_wide_share)) {f : Addr} : Body P w K mg base C f N_l_way_right "_law_way_right" s_l_way_right 10 noG d_l_way_right := fun cdv A outer s H E hg hr => by
  have hu := hu64_of hr
  have hu65 := hu65_of hr
  exact
    (pds_cons (pds_par 5 6 rfl sc_l_way_right.nd (pda_cons (pd_callK 0 c_l_table (hr.mono (by decide)) (pda_cons (pd_var 1) (pda_cons (pd_var 2) (pda_cons pd_int pda_nil)))) (pda_cons (pd_fr (pdf_lc [("_law_here", 7)] rfl sc_l_way_right.nd (pdi_seq (pd_var 3)) rfl (fun _ _ _ _ _ => (pdg_name 7 sc_l_way_right.nd)) (fun _ _ _ _ _ => pdts_nil) (fun _ _ _ _ _ => (pd_index (pd_var 1) (pd_var 7))))) pda_nil)))
    (pds_cons (pds_par 8 9 rfl sc_l_way_right.nd (pda_cons (pd_t1 sd_tuple T.tuple (pd_fr (pdf_lc [("_law_here", 7)] rfl sc_l_way_right.nd (pdi_seq (pd_var 1)) rfl (fun _ _ _ _ _ => (pdg_name 7 sc_l_way_right.nd)) (fun _ _ _ _ _ => pdts_nil) (fun _ _ _ _ _ => (pd_callK 0 c_l_wide_share (hr.mono (by decide)) pda_nil))))) (pda_cons (pd_callK 0 c_l_pick (hr.mono (by decide)) (pda_cons (pd_fr (pdf_lst (pda_cons pd_int (pda_cons pd_int (pda_cons pd_int (pda_cons pd_int (pda_cons pd_int pda_nil))))))) pda_nil)) pda_nil)))
    (pds_cons (pds_asg (pd_t1 sd_tuple T.tuple (pd_fr (pdf_lc [("_law_k", 11)] rfl sc_l_way_right.nd (pdi_range T.range (pd_var 9)) rfl (fun _ _ _ _ _ => (pdg_name 11 sc_l_way_right.nd)) (fun _ _ _ _ _ => pdts_nil) (fun _ _ _ _ _ => (pd_t1 sd_tuple T.tuple (pd_fr (pdf_lc [("_law_here", 7)] rfl sc_l_way_right.nd (pdi_seq (pd_var 3)) rfl (fun _ _ _ _ _ => (pdg_name 7 sc_l_way_right.nd)) (fun _ _ _ _ _ => pdts_nil) (fun _ _ _ _ _ => (pd_callK 0 c_l_wide_share (hr.mono (by decide)) pda_nil))))))))) (pdg_name 10 sc_l_way_right.nd))
    (pds_cons (pds_par 12 13 rfl sc_l_way_right.nd (pda_cons (pd_call c_l_come_to (hr.mono (by decide)) (pda_cons (pd_var 5) (pda_cons (pd_var 6) (pda_cons (pd_var 8) (pda_cons (pd_var 10) pda_nil))))) (pda_cons (pd_callK 0 c_l_tap (hr.mono (by decide)) (pda_cons (pd_len T.len (pd_var 1)) pda_nil)) pda_nil)))
    (pds_cons (pds_asg (pd_call c_l_low (hr.mono (by decide)) (pda_cons (pd_op sd_add (pd_ix (pd_ixV 12 (pd_var 13)) pd_int) (pd_ix (pd_ixV 12 (pd_var 13)) pd_int)) (pda_cons (pd_ix (pd_ixV 12 (pd_var 13)) pd_int) pda_nil))) (pdg_name 14 sc_l_way_right.nd))
    (pds_cons (pds_asg (pd_op sd_add (pd_op sd_add (pd_slice (pd_var 12) pdo_none (pdo_some (pd_var 13))) (pd_tup (pda_cons (pd_var 14) pda_nil))) (pd_slice (pd_var 12) (pdo_some (pd_opV sd_add 13 pd_int)) pdo_none)) (pdg_name 15 sc_l_way_right.nd))
    (pds_cons (pds_asgO 16 (pdf_lst (pda_cons (pd_callBy (CallBy.ofG c_l_asked hg (hr.mono (by decide))) (pda_cons (pd_tup (pda_cons pd_str (pda_cons (pd_var 4) (pda_cons (pd_var 5) (pda_cons (pd_var 3) (pda_cons (pd_var 8) (pda_cons (pd_var 12) pda_nil))))))) (pda_cons (pd_var 10) pda_nil))) pda_nil)) sc_l_way_right.nd)
    (pds_cons (pds_app 16 (pd_callBy (CallBy.ofG c_l_asked hg (hr.mono (by decide))) (pda_cons (pd_tup (pda_cons pd_str (pda_cons (pd_var 4) (pda_cons (pd_var 5) (pda_cons (pd_var 3) (pda_cons (pd_var 8) (pda_cons (pd_var 15) pda_nil))))))) (pda_cons (pd_var 10) pda_nil))))
    (pds_one (pds_ret (pd_cmpV (sd_eq hu) 16 (pd_fr (pdf_lst (pda_cons pd_bl (pda_cons pd_bl pda_nil)))))))))))))))
abbrev N_l_right : List Str := ["_law_keg_here", "_law_turn", "_law_crew_here", "_law_roads_here", "_law_heads_here", "_law_page_here"]
theorem sc_l_right : FnScope N_l_right ["_law_keg_here"] (defScope s_l_right) := ⟨rfl, rfl, rfl, by decide +kernel, rfl, by decide +kernel, by decide +kernel⟩
theorem pd_l_right (T : Tx K mg C) (c_l_bar_right : CalG P w K mg base "_law_bar_right" 11 ["_law_keg_here", "_law_crew_here", "_law_roads_here", "_law_heads_here", "_law_page_here"] (spK K C pre_l_bar_right post_l_bar_right)) (c_l_crew : Cal P w K mg base "_law_crew" 3 ["_law_keg_here", "_law_least", "_law_most"] (spK K C pre_l_crew post_l_crew)) (c_l_edge_right : CalG P w K mg base "_law_edge_right" 11 ["_law_keg_here", "_law_crew_here", "_law_roads_here", "_law_heads_here", "_law_page_here"] (spK K C pre_l_edge_right post_l_edge_right)) (c_l_heads : Cal P w K mg base "_law_heads" 3 ["_law_keg_here", "_law_crew_here"] (spK K C pre_l_heads post_l_heads)) (c_l_page : Cal P w K mg base "_law_page" 1 ["_law_crew_here", "_law_roads_here"] (spD K C pre_l_page post_l_page)) (c_l_roads : Cal P w K mg base "_law_roads" 3 ["_law_keg_here", "_law_crew_here"] (spK K C pre_l_roads post_l_roads)) (c_l_way_right : CalG P w K mg base "_law_way_right" 11 ["_law_keg_here", "_law_crew_here", "_law_roads_here", "_law_heads_here", "_law_page_here"] (spK K C pre_l_way_right post_l_way_right)) {f : Addr} : Body P w K mg base C f N_l_right "_law_right" s_l_right 11 noG d_l_right := fun cdv A outer s H E hg hr => by
  have hu := hu64_of hr
  have hu65 := hu65_of hr
  exact
    (pds_cons (pds_for PassesOwn.never rfl (pdi_range T.range pd_int) (pdg_name 1 sc_l_right.nd) (pds_cons (pds_asg (pd_callK 0 c_l_crew (hr.mono (by decide)) (pda_cons pd_int (pda_cons pd_int pda_nil))) (pdg_name 2 sc_l_right.nd))
    (pds_cons (pds_par 3 4 rfl sc_l_right.nd (pda_cons (pd_callK 0 c_l_roads (hr.mono (by decide)) (pda_cons (pd_var 2) pda_nil)) (pda_cons (pd_callK 0 c_l_heads (hr.mono (by decide)) (pda_cons (pd_var 2) pda_nil)) pda_nil)))
    (pds_cons (pds_asg (pd_call c_l_page (hr.mono (by decide)) (pda_cons (pd_var 2) (pda_cons (pd_var 3) pda_nil))) (pdg_name 5 sc_l_right.nd))
    (pds_cons (pds_if (pdt_not (pdt_val (pd_callKBy 0 (CallBy.ofG c_l_bar_right hg (hr.mono (by decide))) (pda_cons (pd_var 2) (pda_cons (pd_var 3) (pda_cons (pd_var 4) (pda_cons (pd_var 5) pda_nil))))))) (pds_one (pds_ret pd_bl)) pds_nil)
    (pds_cons (pds_if (pdt_not (pdt_val (pd_callKBy 0 (CallBy.ofG c_l_edge_right hg (hr.mono (by decide))) (pda_cons (pd_var 2) (pda_cons (pd_var 3) (pda_cons (pd_var 4) (pda_cons (pd_var 5) pda_nil))))))) (pds_one (pds_ret pd_bl)) pds_nil)
    (pds_one (pds_if (pdt_not (pdt_val (pd_callKBy 0 (CallBy.ofG c_l_way_right hg (hr.mono (by decide))) (pda_cons (pd_var 2) (pda_cons (pd_var 3) (pda_cons (pd_var 4) (pda_cons (pd_var 5) pda_nil))))))) (pds_one (pds_ret pd_bl)) pds_nil))))))))
    (pds_one (pds_ret pd_bl)))
abbrev N_law : List Str := ["_law_cells", "_law_at"]
theorem sc_law : FnScope N_law ["_law_cells"] (defScope s_law) := ⟨rfl, rfl, rfl, by decide +kernel, rfl, by decide +kernel, by decide +kernel⟩
theorem pd_law (T : Tx K mg C) (c_l_keg : Cal P w K mg base "_law_keg" 1 ["_law_cells", "_law_at"] (spF K C pre_l_keg post_l_keg)) (c_l_right : CalG P w K mg base "_law_right" 12 ["_law_keg_here"] (spK K C pre_l_right post_l_right)) {f : Addr} : Body P w K mg base C f N_law "law" s_law 12 noG d_law := fun cdv A outer s H E hg hr => by
  have hu := hu64_of hr
  have hu65 := hu65_of hr
  exact
    (pds_one (pds_ret (pd_b1 (sd_all rfl) T.all (pd_fr (pdf_lc [("_law_at", 1)] rfl sc_law.nd (pdi_range T.range (pd_b2 (sd_max2 rfl) T.max pd_int (pd_b2 (sd_min2 rfl) T.min (pd_len T.len (pd_var 0)) pd_int))) rfl (fun _ _ _ _ _ => (pdg_name 1 sc_law.nd)) (fun _ _ _ _ _ => pdts_nil) (fun _ _ _ _ _ => (pd_callFBy (CallBy.ofG c_l_right hg (hr.mono (by decide))) (pdf_call c_l_keg (hr.mono (by decide)) (pda_cons (pd_var 0) (pda_cons (pd_var 1) pda_nil))))))))))
end
end Dl

end
section
set_option Elab.async false
set_option linter.all false
set_option maxRecDepth 100000
set_option maxHeartbeats 4000000
set_option autoImplicit false
/-! Walks over data: loops, comprehensions, data that may be compared. -/
namespace Dl
open PySem
theorem ift {b : Bool} {A B : Prop} (h : b = true) (a : A) : (if b = true then A else B) := by rw [if_pos h]; exact a
theorem iff0 {b : Bool} {A B : Prop} (h : b = false) (a : B) : (if b = true then A else B) := by rw [h, if_neg Bool.false_ne_true]; exact a
theorem for_of {di : DTI} {g : DTG} {t : DTS} {n : DEnds} {δ : DE} (items : List D) (δ1 : DE) (hi : ∀ P : List D → DE → Prop, P items δ1 → di δ P) (Inv : Nat → DE → Prop) (h0 : Inv 0 δ1)
    (st : ∀ i x δ', items[i]? = some x → Inv i δ' → g (.im x) δ' fun δ2 => t { nx := Inv (i + 1), ct := Inv (i + 1), bk := n.nx, rt := n.rt } δ2) (dn : ∀ δ', Inv items.length δ' → n.nx δ') : dFor di g t n δ := hi _ ⟨Inv, h0, st, dn⟩
/-- what a comprehension keeps -/
def fmI (f : Nat → D → Option D) : Nat → List D → List D
  | _, [] => []
  | i, x :: r => match f i x with
    | some d => d :: fmI f (i + 1) r
    | none => fmI f (i + 1) r
theorem fmI_snoc (f : Nat → D → Option D) : ∀ (xs : List D) (i : Nat) (x : D), fmI f i (xs ++ [x]) = fmI f i xs ++ (match f (i + xs.length) x with
    | some d => [d]
    | none => [])
  | [], i, x => by
    show fmI f i [x] = _
    unfold fmI
    rw [List.length_nil, Nat.add_zero]
    cases f i x <;> rfl
  | y :: ys, i, x => by
    have ih := fmI_snoc f ys (i + 1) x
    have e : i + (y :: ys).length = i + 1 + ys.length := by rw [List.length_cons]; omega
    rw [e]
    show fmI f i (y :: (ys ++ [x])) = _
    unfold fmI
    rw [ih]
    cases f i y <;> rfl
theorem take_succ_get {α : Type} {xs : List α} {i : Nat} {x : α} (h : xs[i]? = some x) : xs.take (i + 1) = xs.take i ++ [x] := by
  rw [List.take_add_one, h]
  rfl
theorem lc_fm {di : DTI} {g : DTG} {tt : DTT} {te : DTE} {vs : List Nat} {δ : DE} {P : List D → DE → Prop} (items : List D) (δ1 : DE) (f : Nat → D → Option D) (hi : ∀ P : List D → DE → Prop, P items δ1 → di δ P) (hz : items.length ≤ sizeLine)
    (hb : ∀ i x, items[i]? = some x → ∀ (R : D → Prop) (N : Prop), (∀ d, f i x = some d → R d) → (f i x = none → N) → g (.im x) (wipeD δ1 vs) fun δ2 => tt δ2 fun b δ3 => if b = true then te δ3 fun y δ4 => ∃ d, y = .im d ∧ (wipeD δ4 vs = wipeD δ1 vs ∧ R d) else (wipeD δ3 vs = wipeD δ1 vs ∧ N))
    (hP : P (fmI f 0 items) (wipeD δ1 vs)) : dLc di g tt te vs δ P := by
  refine hi _ ⟨hz, fun i acc δ' => δ' = wipeD δ1 vs ∧ acc = fmI f 0 (items.take i), ⟨rfl, rfl⟩, fun i x acc δ' hx h => ?_, fun acc δ' h => ?_⟩
  · obtain ⟨rfl, rfl⟩ := h
    have hl : (items.take i).length = i := by
      rw [List.length_take]
      have := (List.getElem?_eq_some_iff.mp hx).1
      omega
    have e := fmI_snoc f (items.take i) 0 x
    rw [hl, Nat.zero_add] at e
    refine hb i x hx (fun d => fmI f 0 (items.take i) ++ [d] = fmI f 0 (items.take (i + 1))) (fmI f 0 (items.take i) = fmI f 0 (items.take (i + 1))) (fun d hd => ?_) (fun hn => ?_)
    · rw [take_succ_get hx, e, hd]
    · rw [take_succ_get hx, e, hn]
      simp
  · obtain ⟨rfl, rfl⟩ := h
    rw [List.take_length]
    exact hP
theorem fmI_map (f : D → D) : ∀ (xs : List D) (i : Nat), fmI (fun _ x => some (f x)) i xs = xs.map f
  | [], _ => rfl
  | x :: xs, i => congrArg (f x :: ·) (fmI_map f xs (i + 1))
theorem lc_map {di : DTI} {g : DTG} {te : DTE} {vs : List Nat} {δ : DE} {P : List D → DE → Prop} (items : List D) (δ1 : DE) (f : D → D) (hi : ∀ P : List D → DE → Prop, P items δ1 → di δ P) (hz : items.length ≤ sizeLine)
    (hb : ∀ x ∈ items, ∀ (R : D → Prop), R (f x) → g (.im x) (wipeD δ1 vs) fun δ2 => te δ2 fun y δ4 => ∃ d, y = .im d ∧ (wipeD δ4 vs = wipeD δ1 vs ∧ R d))
    (hP : P (items.map f) (wipeD δ1 vs)) : dLc di g dYes te vs δ P := by
  refine lc_fm items δ1 (fun _ x => some (f x)) hi hz (fun i x hx R N h1 h2 => ?_) (by rw [fmI_map]; exact hP)
  exact hb x (List.mem_of_getElem? hx) R (h1 _ rfl)
theorem fmI_idx (g : Nat → D) : ∀ (xs : List D) (i : Nat), fmI (fun j _ => some (g j)) i xs = (List.range' i xs.length).map g
  | [], _ => rfl
  | x :: xs, i => congrArg (g i :: ·) (fmI_idx g xs (i + 1))
theorem lc_idx {di : DTI} {g : DTG} {te : DTE} {vs : List Nat} {δ : DE} {P : List D → DE → Prop} (items : List D) (δ1 : DE) (f : Nat → D) (hi : ∀ P : List D → DE → Prop, P items δ1 → di δ P) (hz : items.length ≤ sizeLine)
    (hb : ∀ i x, items[i]? = some x → ∀ (R : D → Prop), R (f i) → g (.im x) (wipeD δ1 vs) fun δ2 => te δ2 fun y δ4 => ∃ d, y = .im d ∧ (wipeD δ4 vs = wipeD δ1 vs ∧ R d))
    (hP : P ((List.range items.length).map f) (wipeD δ1 vs)) : dLc di g dYes te vs δ P := by
  refine lc_fm items δ1 (fun i _ => some (f i)) hi hz (fun i x hx R N h1 h2 => ?_) (by rw [fmI_idx, ← List.range_eq_range']; exact hP)
  exact hb i x hx R (h1 _ rfl)
theorem map_inj {α β : Type} {f : α → β} (h : ∀ x y, f x = f y → x = y) : ∀ {xs ys : List α}, xs.map f = ys.map f → xs = ys
  | [], [], _ => rfl
  | [], _ :: _, e => by cases e
  | _ :: _, [], e => by cases e
  | x :: xs, y :: ys, e => by
    injection e with e1 e2
    rw [h x y e1, map_inj h e2]
theorem tup_inj {xs ys : List D} (h : PyData.tuple xs = .tuple ys) : xs = ys := by injection h
theorem lst_inj {xs ys : List D} (h : PyData.list xs = .list ys) : xs = ys := by injection h
theorem crewD_inj {x y : List Str} (h : crewD x = crewD y) : x = y := map_inj (fun a b e => by injection e) (tup_inj h)
theorem roadD_inj {x y : Str × Str} (h : roadD x = roadD y) : x = y := by
  obtain ⟨a, b⟩ := x
  obtain ⟨c, d⟩ := y
  have h1 := tup_inj h
  injection h1 with h2 h3
  injection h3 with h3 _
  injection h2 with h2
  injection h3 with h3
  exact Prod.ext h2 h3
theorem roadsD_inj {x y : List (Str × Str)} (h : roadsD x = roadsD y) : x = y := map_inj (fun a b e => roadD_inj e) (tup_inj h)
theorem rowD_inj {x y : List Int} (h : rowD x = rowD y) : x = y := map_inj (fun a b e => by injection e) (tup_inj h)
theorem rowL_inj {x y : List Int} (h : rowL x = rowL y) : x = y := map_inj (fun a b e => by injection e) (lst_inj h)
theorem tabD_inj {x y : List (List Int)} (h : tabD x = tabD y) : x = y := map_inj (fun a b e => rowD_inj e) (tup_inj h)
theorem spotsD_inj {x y : List Nat} (h : spotsD x = spotsD y) : x = y := map_inj (fun a b e => by injection e with e; omega) (lst_inj h)
theorem fr_inj {p q : Rat} (h : fr p = fr q) : p = q := by
  have h1 := tup_inj h
  injection h1 with h2 h3
  injection h3 with h3 _
  injection h2 with h2
  injection h3 with h3
  exact Rat.ext h2 (by omega)
theorem frsD_inj {x y : List Rat} (h : frsD x = frsD y) : x = y := map_inj (fun a b e => fr_inj e) (tup_inj h)
theorem frsL_inj {x y : List Rat} (h : frsL x = frsL y) : x = y := map_inj (fun a b e => fr_inj e) (lst_inj h)
theorem im_inj {x y : D} (h : Sl.im x = Sl.im y) : x = y := by injection h
theorem wkS_inj {c c' : List Str} {rs rs' : List (Str × Str)} (h : wkS c rs = wkS c' rs') : c = c' ∧ rs = rs' := by
  unfold wkS at h
  injection h with h1 h2 h3
  exact ⟨crewD_inj h1, roadsD_inj h2⟩
theorem cons_inj {α : Type} {x y : α} {xs ys : List α} (h : x :: xs = y :: ys) : x = y ∧ xs = ys := by
  injection h with h1 h2
  exact ⟨h1, h2⟩
theorem filter_fm (p : D → Bool) (f : D → D) : ∀ (xs : List D) (i : Nat), fmI (fun _ x => if p x = true then some (f x) else none) i xs = (xs.filter p).map f
  | [], _ => rfl
  | x :: xs, i => by
    have ih := filter_fm p f xs (i + 1)
    unfold fmI
    rw [List.filter_cons]
    by_cases q : p x = true
    · rw [if_pos q, if_pos q, List.map_cons, ← ih]
    · rw [if_neg q, if_neg q, ← ih]
theorem small_le {n : Nat} (h : n ≤ 1000) : n ≤ sizeLine := Nat.le_trans h (by decide)
/-! ### data that may be compared -/
def Sh (k : Nat) (d : D) : Prop := d.canLay0 = true ∧ d.depth ≤ k
theorem Sh.shaped {k : Nat} {d : D} (h : Sh k d) (hk : k ≤ 64 := by decide) : SeqAt.shaped d = true := by
  unfold SeqAt.shaped
  rw [h.1, decide_eq_true (Nat.le_trans h.2 hk)]
  rfl
theorem sh_int (k : Nat) (i : Int) : Sh k (.int i) := ⟨by simp [PyData.canLay0], by simp [PyData.depth]⟩
theorem sh_str (k : Nat) {i : Str} (h : PyData.strOk i = true) : Sh k (.str i) := ⟨by simp [PyData.canLay0, h], by simp [PyData.depth]⟩
theorem sh_bool (k : Nat) (i : Bool) : Sh k (.bool i) := ⟨by simp [PyData.canLay0], by simp [PyData.depth]⟩
theorem sh_none (k : Nat) : Sh k .none := ⟨by simp [PyData.canLay0], by simp [PyData.depth]⟩
theorem sh_all {k : Nat} : ∀ {ds : List D}, (∀ d ∈ ds, Sh k d) → PyData.canLayAll0 ds = true ∧ PyData.depthAll ds ≤ k
  | [], _ => ⟨by simp [PyData.canLayAll0], by simp [PyData.depthAll]⟩
  | d :: ds, h => by
    obtain ⟨h1, h2⟩ := h d List.mem_cons_self
    obtain ⟨h3, h4⟩ := sh_all fun e he => h e (List.mem_cons_of_mem _ he)
    refine ⟨by simp [PyData.canLayAll0, h1, h3], ?_⟩
    simp only [PyData.depthAll]
    omega
theorem sh_tup {k : Nat} {ds : List D} (h : ∀ d ∈ ds, Sh k d) : Sh (k + 1) (.tuple ds) := by
  obtain ⟨h1, h2⟩ := sh_all h
  exact ⟨by simp [PyData.canLay0, h1], by simp only [PyData.depth]; omega⟩
theorem sh_lst {k : Nat} {ds : List D} (h : ∀ d ∈ ds, Sh k d) : Sh (k + 1) (.list ds) := by
  obtain ⟨h1, h2⟩ := sh_all h
  exact ⟨by simp [PyData.canLay0, h1], by simp only [PyData.depth]; omega⟩
theorem sh_map {α : Type} {k : Nat} {f : α → D} {xs : List α} (h : ∀ x ∈ xs, Sh k (f x)) : ∀ d ∈ xs.map f, Sh k d := fun d hd => by
  obtain ⟨x, hx, e⟩ := List.mem_map.mp hd
  rw [← e]
  exact h x hx
theorem name_ok {x : Str} (h : x ∈ names14) : PyData.strOk x = true := (show ∀ x ∈ names14, PyData.strOk x = true by decide +kernel) x h
theorem sh_name {x : Str} (h : x ∈ names14) : Sh 0 (.str x) := sh_str 0 (name_ok h)
theorem sh_crew {c : List Str} (h : ∀ x ∈ c, x ∈ names14) : Sh 1 (crewD c) := sh_tup (sh_map fun x hx => sh_name (h x hx))
theorem sh_crewL {c : List Str} (h : ∀ x ∈ c, x ∈ names14) : Sh 1 (.list (c.map PyData.str)) := sh_lst (sh_map fun x hx => sh_name (h x hx))
theorem sh_two {k : Nat} {a b : D} (ha : Sh k a) (hb : Sh k b) : Sh (k + 1) (.tuple [a, b]) := sh_tup fun d hd => by
  rcases List.mem_cons.mp hd with e | hd
  · rw [e]; exact ha
  · rcases List.mem_cons.mp hd with e | hd
    · rw [e]; exact hb
    · cases hd
theorem sh_road {r : Str × Str} (h1 : r.1 ∈ names14) (h2 : r.2 ∈ names14) : Sh 1 (roadD r) := sh_two (sh_name h1) (sh_name h2)
theorem sh_roads {rs : List (Str × Str)} (h : ∀ r ∈ rs, r.1 ∈ names14 ∧ r.2 ∈ names14) : Sh 2 (roadsD rs) := sh_tup (sh_map fun r hr => sh_road (h r hr).1 (h r hr).2)
theorem sh_roadsL {rs : List (Str × Str)} (h : ∀ r ∈ rs, r.1 ∈ names14 ∧ r.2 ∈ names14) : Sh 2 (.list (rs.map roadD)) := sh_lst (sh_map fun r hr => sh_road (h r hr).1 (h r hr).2)
theorem sh_row (r : List Int) : Sh 1 (rowD r) := sh_tup (sh_map fun x _ => sh_int 0 x)
theorem sh_fr (q : Rat) : Sh 1 (fr q) := sh_two (sh_int 0 _) (sh_int 0 _)
theorem sh_frs (s : List Rat) : Sh 2 (frsD s) := sh_tup (sh_map fun x _ => sh_fr x)
theorem sh_ints (s : List Nat) : Sh 1 (.list (s.map fun j : Nat => PyData.int (j : Int))) := sh_lst (sh_map fun x _ => sh_int 0 _)
theorem sh_nil : Sh 1 (.tuple []) := sh_tup fun d hd => nomatch hd
/-! ### equal data -/
theorem eqv_str (x y : Str) : PyData.eqv (.str x) (.str y) = decide (x = y) := by
  simp only [PyData.eqv]
  by_cases h : x = y
  · rw [decide_eq_true h]; exact beq_iff_eq.mpr h
  · rw [decide_eq_false h]; exact beq_eq_false_iff_ne.mpr h
theorem eqv_int (x y : Int) : PyData.eqv (.int x) (.int y) = decide (x = y) := by
  simp only [PyData.eqv]
  by_cases h : x = y
  · rw [decide_eq_true h]; exact beq_iff_eq.mpr h
  · rw [decide_eq_false h]; exact beq_eq_false_iff_ne.mpr h
theorem eqvAll_map {α : Type} {f : α → D} (h : ∀ x y, PyData.eqv (f x) (f y) = true ↔ x = y) : ∀ xs ys : List α, PyData.eqvAll (xs.map f) (ys.map f) = true ↔ xs = ys
  | [], [] => by simp [PyData.eqvAll]
  | [], y :: ys => by simp [PyData.eqvAll]
  | x :: xs, [] => by simp [PyData.eqvAll]
  | x :: xs, y :: ys => by simp [PyData.eqvAll, h x y, eqvAll_map h xs ys]
theorem eqv_road (r q : Str × Str) : PyData.eqv (roadD r) (roadD q) = decide (r = q) := by
  obtain ⟨a, b⟩ := r
  obtain ⟨c, d⟩ := q
  simp only [roadD, PyData.eqv, PyData.eqvAll, eqv_str, Bool.and_true, Prod.mk.injEq]
  by_cases h1 : a = c <;> by_cases h2 : b = d <;> simp [h1, h2]
theorem eqv_fr (p q : Rat) : PyData.eqv (fr p) (fr q) = true ↔ p = q := by
  simp only [fr, PyData.eqv, PyData.eqvAll, Bool.and_true, Bool.and_eq_true, beq_iff_eq]
  refine ⟨fun h => Rat.ext h.1 (by have := h.2; omega), fun h => by rw [h]; exact ⟨rfl, rfl⟩⟩
theorem eqv_frs (s t : List Rat) : PyData.eqv (frsD s) (frsD t) = true ↔ s = t := by
  simp only [frsD, PyData.eqv]
  exact eqvAll_map eqv_fr s t
theorem eqv_crew (s t : List Str) : PyData.eqv (crewD s) (crewD t) = true ↔ s = t := by
  simp only [crewD, PyData.eqv]
  exact eqvAll_map (fun x y => by rw [eqv_str]; exact decide_eq_true_iff) s t
theorem any_map {α : Type} {f : α → D} (h : ∀ x y, PyData.eqv (f x) (f y) = true ↔ x = y) (x : α) (xs : List α) : ((xs.map f).any fun z => PyData.eqv z (f x)) = true ↔ x ∈ xs := by
  rw [List.any_map, List.any_eq_true]
  refine ⟨fun ⟨y, hy, e⟩ => ?_, fun hx => ⟨x, hx, (h x x).mpr rfl⟩⟩
  have e2 : y = x := (h y x).mp e
  rw [← e2]
  exact hy
theorem bool_dec {b : Bool} {p : Prop} [Decidable p] (h : b = true ↔ p) : b = decide p := by
  by_cases q : p
  · rw [decide_eq_true q]; exact h.mpr q
  · rw [decide_eq_false q]
    cases b with
    | false => rfl
    | true => exact (q (h.mp rfl)).elim
theorem in_strs (x : Str) (c : List Str) : ((c.map PyData.str).any fun z => PyData.eqv z (.str x)) = decide (x ∈ c) := bool_dec (any_map (f := PyData.str) (fun x y => by rw [eqv_str]; exact decide_eq_true_iff) x c)
theorem in_roads (r : Str × Str) (rs : List (Str × Str)) : ((rs.map roadD).any fun z => PyData.eqv z (roadD r)) = decide (r ∈ rs) := bool_dec (any_map (f := roadD) (fun x y => by rw [eqv_road]; exact decide_eq_true_iff) r rs)
theorem in_ints (i : Nat) (s : List Nat) : ((s.map fun j : Nat => PyData.int (j : Int)).any fun z => PyData.eqv z (.int (i : Int))) = decide (i ∈ s) := bool_dec (any_map (f := fun j : Nat => PyData.int (j : Int)) (fun x y => by rw [eqv_int, decide_eq_true_iff]; omega) i s)
theorem enum_out : ∀ {ds : List D} {n i : Nat} {x : D}, (enumD n ds)[i]? = some x → ∃ d, ds[i]? = some d ∧ x = .tuple [.int ((n + i : Nat) : Int), d]
  | [], _, _, _, h => by simp [enumD] at h
  | d :: r, n, 0, x, h => by
    simp [enumD] at h
    exact ⟨d, rfl, h.symm⟩
  | d :: r, n, i + 1, x, h => by
    obtain ⟨e, h1, h2⟩ := enum_out (ds := r) (n := n + 1) (i := i) (x := x) (by simpa [enumD] using h)
    refine ⟨e, by simpa using h1, ?_⟩
    rw [h2, Nat.add_assoc, Nat.add_comm 1 i]
theorem map_out {α β : Type} {f : α → β} {xs : List α} {i : Nat} {d : β} (h : (xs.map f)[i]? = some d) : ∃ x, xs[i]? = some x ∧ d = f x := by
  rw [List.getElem?_map] at h
  cases e : xs[i]? with
  | none => rw [e] at h; cases h
  | some x => rw [e] at h; exact ⟨x, rfl, (Option.some.inj h).symm⟩
theorem cut_to {α : Type} (xs : List α) (i : Nat) (h : i ≤ xs.length) : cutD xs none (some (i : Int)) = xs.take i := by
  unfold cutD
  rw [HT.sIx_none, HT.sIx_nat, List.drop_zero, Nat.sub_zero, Nat.min_eq_left h]
theorem cut_from {α : Type} (xs : List α) (i : Nat) (h : i ≤ xs.length) : cutD xs (some (i : Int)) none = xs.drop i := by
  unfold cutD
  rw [HT.sIx_none, HT.sIx_nat, Nat.min_eq_left h, List.take_of_length_le (by rw [List.length_drop]; omega)]
theorem not_in_take {α : Type} {xs : List α} {i : Nat} {x : α} (nd : xs.Nodup) (h : xs[i]? = some x) : x ∉ xs.take i := fun hm => by
  obtain ⟨j, hj⟩ := List.mem_iff_getElem?.mp hm
  rw [List.getElem?_take] at hj
  split at hj
  · rename_i hlt
    have hl : j < xs.length := (List.getElem?_eq_some_iff.mp hj).1
    have := (List.getElem?_inj hl nd).mp (hj.trans h.symm)
    omega
  · cases hj
end Dl

end
section
set_option Elab.async false
set_option linter.all false
set_option maxRecDepth 100000
set_option maxHeartbeats 4000000
set_option autoImplicit false
/-! Walks over data: names, works. -/
namespace Dl
open PySem
theorem wp_is_integer : WpD 1 1 d_is_integer pre_is_integer post_is_integer := by
  rintro as ⟨i, rfl⟩
  refine ⟨⟨rfl, by decide, by simp [Sl.pure]⟩, ?_⟩
  show d_is_integer _ [.im (.int i)]
  refine ⟨true, rfl, ?_⟩
  rw [if_pos rfl]
  exact ⟨false, rfl, trivial, _, rfl, rfl⟩
theorem wp_is_within : WpD 3 3 d_is_within pre_is_within post_is_within := by
  rintro as ⟨v, l, m, rfl⟩
  refine ⟨⟨rfl, by decide, by simp [Sl.pure]⟩, ?_⟩
  show d_is_within _ [.im (.int v), .im (.int l), .im (.int m)]
  refine ⟨trivial, ⟨v, rfl⟩, fun r hr => ?_⟩
  subst hr
  refine ⟨true, rfl, ?_⟩
  rw [if_pos rfl]
  refine ⟨_, rfl, _, rfl, _, rfl, ?_⟩
  by_cases h : l ≤ v
  · rw [if_pos (decide_eq_true h)]
    refine ⟨trivial, _, rfl, fun v' l' m' e => ?_⟩
    cases e
    rw [decide_eq_true h, Bool.true_and]
  · rw [if_neg (by rw [decide_eq_false h]; simp)]
    refine ⟨trivial, _, rfl, fun v' l' m' e => ?_⟩
    cases e
    rw [decide_eq_false h, Bool.false_and]
abbrev lettS : Str := "abcdefghijklmnopqrstuvwxyz"
abbrev digS : Str := "0123456789"
theorem name_facts : ∀ z ∈ names14, 1 ≤ z.length ∧ z.length ≤ 8 ∧ (z.cps.toList[0]?).any (fun c => decide (c ∈ lettS.cps.toList)) = true ∧ ∀ c ∈ z.cps.toList, (decide (c ∈ lettS.cps.toList) || decide (c ∈ digS.cps.toList)) = true := by decide +kernel
theorem atI_zero {α : Type} {xs : List α} {x : α} (h : xs[0]? = some x) : L2.atI xs 0 = some x := by
  unfold L2.atI L2.ixN
  have hl : 0 < xs.length := (List.getElem?_eq_some_iff.mp h).1
  rw [if_pos (Int.le_refl 0), if_pos (by omega)]
  exact h
theorem atI_nat {α : Type} {xs : List α} {x : α} {i : Nat} (h : xs[i]? = some x) : L2.atI xs (i : Int) = some x := by
  unfold L2.atI L2.ixN
  have hl : i < xs.length := (List.getElem?_eq_some_iff.mp h).1
  rw [if_pos (Int.natCast_nonneg i), if_pos (by omega), Int.toNat_natCast]
  exact h
theorem ixN_nat {n i : Nat} (h : i < n) : L2.ixN n (i : Int) = some i := by
  unfold L2.ixN
  rw [if_pos (Int.natCast_nonneg i), if_pos (by omega), Int.toNat_natCast]
theorem wp_is_name : WpD 2 1 d_is_name pre_is_name post_is_name := by
  rintro as ⟨z, hz, rfl⟩
  refine ⟨⟨rfl, by decide, by simp [Sl.pure]⟩, ?_⟩
  show d_is_name _ [.im (.str z), .e]
  obtain ⟨h1, h8, h0, hall⟩ := name_facts z hz
  obtain ⟨c, hc, hcl⟩ : ∃ c, z.cps.toList[0]? = some c ∧ c ∈ lettS.cps.toList := by
    cases e : z.cps.toList[0]? with
    | none => rw [e] at h0; cases h0
    | some c => rw [e] at h0; exact ⟨c, rfl, of_decide_eq_true h0⟩
  have hzl : (z.length : Int) = ((z.length : Nat) : Int) := rfl
  refine ⟨true, rfl, ?_⟩
  refine ⟨_, rfl, Nat.le_trans h8 (by decide), _, rfl, _, rfl, ?_⟩
  rw [if_pos (decide_eq_true (by omega))]
  refine ⟨_, rfl, ?_⟩
  rw [decide_eq_true (by omega : (z.length : Int) ≤ 8)]
  refine ⟨Nat.le_trans h8 (by decide), c, atI_zero hc, _, rfl, c, rfl, _, rfl, ?_⟩
  refine ift (decide_eq_true hcl) ?_
  refine lc_map (charsD z) _ (fun _ => .bool true) (fun P h => h) ?_ (fun x hx R hR => ?_) ?_
  · unfold charsD
    rw [List.length_map, Array.length_toList]
    exact Nat.le_trans h8 (by decide)
  · obtain ⟨d, hd, rfl⟩ := List.mem_map.mp hx
    refine ⟨d, rfl, _, rfl, ?_⟩
    by_cases q : d ∈ lettS.cps.toList
    · refine ift (decide_eq_true q) ?_
      exact ⟨_, rfl, rfl, hR⟩
    · refine iff0 (decide_eq_false q) ?_
      have := hall d hd
      rw [decide_eq_false q, Bool.false_or] at this
      refine ⟨d, rfl, _, rfl, rfl, ?_⟩
      show R (.bool (decide (d ∈ digS.cps.toList)))
      rw [this]
      exact hR
  · refine ⟨(charsD z).map fun _ => true, by rw [List.map_map]; rfl, trivial, _, rfl, ?_⟩
    show PyData.bool (((charsD z).map fun _ => true).all id) = .bool true
    rw [List.all_map]
    exact congrArg PyData.bool (List.all_eq_true.mpr fun _ _ => rfl)
theorem wp_wrong_part : WpD 3 1 d_wrong_part pre_wrong_part post_wrong_part := by
  rintro as ⟨c, hc, rfl⟩
  refine ⟨⟨rfl, by decide, by simp [Sl.pure]⟩, ?_⟩
  show d_wrong_part _ [.im (crewD c), .e, .e]
  have hl : (c.map PyData.str).length = c.length := List.length_map _
  have h2 := hc.two
  have h5 := hc.five
  refine ⟨true, rfl, _, rfl, _, rfl, ?_⟩
  refine iff0 (decide_eq_false (by omega)) ?_
  simp only [dNext, dSeq]
  refine for_of (enumD 0 (c.map PyData.str)) [.im (crewD c), .e, .e] (fun P h => h) (fun i δ' => ∃ s1 s2, δ' = [.im (crewD c), s1, s2]) ⟨_, _, rfl⟩ ?_ ?_
  · rintro i x δ' hx ⟨s1, s2, rfl⟩
    obtain ⟨d, hd, rfl⟩ := enum_out hx
    obtain ⟨z, hz, rfl⟩ := map_out hd
    rw [Nat.zero_add]
    have hzc : z ∈ c := List.mem_of_getElem? hz
    have hi : i < c.length := (List.getElem?_eq_some_iff.mp hz).1
    refine ⟨rfl, rfl, trivial, ⟨z, hc.sub z hzc, rfl⟩, fun r hr => ?_⟩
    subst hr
    refine ⟨true, rfl, _, rfl, ?_⟩
    refine iff0 (decide_eq_false (by omega)) ?_
    refine ⟨_, rfl, _, rfl, ?_⟩
    show SeqAt.shaped _ = true ∧ SeqAt.shaped (.list (cutD (c.map PyData.str) none (some (i : Int)))) = true ∧ _
    rw [cut_to _ _ (by rw [hl]; omega), ← List.map_take]
    refine ⟨(sh_name (hc.sub z hzc)).shaped, (sh_crewL fun x hx => hc.sub x (List.mem_of_mem_take hx)).shaped, _, rfl, ?_⟩
    rw [in_strs, decide_eq_false (not_in_take hc.nd hz)]
    exact ⟨_, _, rfl⟩
  · rintro δ' ⟨s1, s2, rfl⟩
    exact ⟨[], rfl, Nat.zero_le _, trivial, _, rfl, rfl⟩
theorem wp_is_pair : WpD 2 2 d_is_pair pre_is_pair post_is_pair := by
  rintro as ⟨c, ⟨p, q⟩, hc, h1, h2, hne, rfl⟩
  refine ⟨⟨rfl, by decide, by simp [Sl.pure]⟩, ?_⟩
  show d_is_pair _ [.im (crewD c), .im (roadD (p, q))]
  have s1 := sh_name (hc.sub p h1)
  have s2 := sh_name (hc.sub q h2)
  have sc := sh_crewL fun x hx => hc.sub x hx
  have hne' : p ≠ q := hne
  refine ⟨true, rfl, _, rfl, false, rfl, _, rfl, _, rfl, s1.shaped, sc.shaped, _, rfl, ?_⟩
  rw [in_strs, decide_eq_true h1]
  refine ⟨_, rfl, _, rfl, s2.shaped, sc.shaped, _, rfl, ?_⟩
  rw [in_strs, decide_eq_true h2]
  refine ⟨_, rfl, _, rfl, _, rfl, trivial, _, rfl, ?_⟩
  show PyData.bool (!decide (p = q)) = .bool true
  rw [decide_eq_false hne']
  rfl
theorem RoadsOk.nm {c : List Str} {rs : List (Str × Str)} (h : RoadsOk c rs) (hc : CrewOk c) : ∀ r ∈ rs, r.1 ∈ names14 ∧ r.2 ∈ names14 := fun r hr => ⟨hc.sub _ (h.one r hr), hc.sub _ (h.two r hr)⟩
theorem wp_wrong_tie : WpD 4 2 d_wrong_tie pre_wrong_tie post_wrong_tie := by
  rintro as ⟨c, rs, hc, hr, rfl⟩
  refine ⟨⟨rfl, by decide, by simp [Sl.pure]⟩, ?_⟩
  show d_wrong_tie _ [.im (crewD c), .im (roadsD rs), .e, .e]
  have hl : (rs.map roadD).length = rs.length := List.length_map _
  refine ⟨true, rfl, ?_⟩
  refine iff0 rfl ?_
  simp only [dNext, dSeq]
  refine for_of (enumD 0 (rs.map roadD)) [.im (crewD c), .im (roadsD rs), .e, .e] (fun P h => h) (fun i δ' => ∃ s1 s2, δ' = [.im (crewD c), .im (roadsD rs), s1, s2]) ⟨_, _, rfl⟩ ?_ ?_
  · rintro i x δ' hx ⟨s1, s2, rfl⟩
    obtain ⟨d, hd, rfl⟩ := enum_out hx
    obtain ⟨z, hz, rfl⟩ := map_out hd
    rw [Nat.zero_add]
    have hzc : z ∈ rs := List.mem_of_getElem? hz
    have hi : i < rs.length := (List.getElem?_eq_some_iff.mp hz).1
    refine ⟨rfl, rfl, trivial, trivial, ⟨c, z, hc, hr.one z hzc, hr.two z hzc, hr.ne z hzc, rfl⟩, fun r h => ?_⟩
    subst h
    refine ⟨true, rfl, _, rfl, _, rfl, ?_⟩
    show SeqAt.shaped _ = true ∧ SeqAt.shaped (.list (cutD (rs.map roadD) none (some (i : Int)))) = true ∧ _
    rw [cut_to _ _ (by rw [hl]; omega), ← List.map_take]
    refine ⟨(sh_road (hr.nm hc z hzc).1 (hr.nm hc z hzc).2).shaped, (sh_roadsL fun x hx => hr.nm hc x (List.mem_of_mem_take hx)).shaped, _, rfl, ?_⟩
    rw [in_roads, decide_eq_false (not_in_take hr.nd hz)]
    exact ⟨_, _, rfl⟩
  · rintro δ' ⟨s1, s2, rfl⟩
    exact ⟨[], rfl, Nat.zero_le _, trivial, _, rfl, rfl⟩
theorem wp_wrong_leader : WpD 4 2 d_wrong_leader pre_wrong_leader post_wrong_leader := by
  rintro as ⟨c, hs, hc, hh, rfl⟩
  refine ⟨⟨rfl, by decide, by simp [Sl.pure]⟩, ?_⟩
  show d_wrong_leader _ [.im (crewD c), .im (crewD hs), .e, .e]
  have hl : (hs.map PyData.str).length = hs.length := List.length_map _
  have nm : ∀ x ∈ hs, x ∈ names14 := fun x hx => hc.sub x (hh.sub x hx)
  refine ⟨true, rfl, ?_⟩
  refine iff0 rfl ?_
  simp only [dNext, dSeq]
  refine for_of (enumD 0 (hs.map PyData.str)) [.im (crewD c), .im (crewD hs), .e, .e] (fun P h => h) (fun i δ' => ∃ s1 s2, δ' = [.im (crewD c), .im (crewD hs), s1, s2]) ⟨_, _, rfl⟩ ?_ ?_
  · rintro i x δ' hx ⟨s1, s2, rfl⟩
    obtain ⟨d, hd, rfl⟩ := enum_out hx
    obtain ⟨z, hz, rfl⟩ := map_out hd
    rw [Nat.zero_add]
    have hzc : z ∈ hs := List.mem_of_getElem? hz
    have hi : i < hs.length := (List.getElem?_eq_some_iff.mp hz).1
    refine ⟨rfl, rfl, (sh_name (nm z hzc)).shaped, (sh_crewL hc.sub).shaped, _, rfl, ?_⟩
    rw [in_strs, decide_eq_true (hh.sub z hzc)]
    refine ⟨_, rfl, _, rfl, ?_⟩
    show SeqAt.shaped _ = true ∧ SeqAt.shaped (.list (cutD (hs.map PyData.str) none (some (i : Int)))) = true ∧ _
    rw [cut_to _ _ (by rw [hl]; omega), ← List.map_take]
    refine ⟨(sh_name (nm z hzc)).shaped, (sh_crewL fun x hx => nm x (List.mem_of_mem_take hx)).shaped, _, rfl, ?_⟩
    rw [in_strs, decide_eq_false (not_in_take hh.nd hz)]
    exact ⟨_, _, rfl⟩
  · rintro δ' ⟨s1, s2, rfl⟩
    exact ⟨[], rfl, Nat.zero_le _, trivial, _, rfl, rfl⟩
end Dl

end
section
set_option Elab.async false
set_option linter.all false
set_option maxRecDepth 100000
set_option maxHeartbeats 4000000
set_option autoImplicit false
/-! Texts: joined by one sign, split again. -/
namespace Dl
open PySem
theorem free_cut {c : Nat} : ∀ {x y t u : List Nat}, c ∉ x → c ∉ y → x ++ c :: t = y ++ c :: u → x = y ∧ t = u
  | [], [], _, _, _, _, h => ⟨rfl, by simpa using h⟩
  | [], b :: y, _, _, _, hy, h => by
    have e : c = b := by injection h
    exact (hy (by rw [e]; exact List.mem_cons_self)).elim
  | a :: x, [], _, _, hx, _, h => by
    have e : a = c := by injection h
    exact (hx (by rw [e]; exact List.mem_cons_self)).elim
  | a :: x, b :: y, t, u, hx, hy, h => by
    have h' : a :: (x ++ c :: t) = b :: (y ++ c :: u) := h
    injection h' with e1 e2
    obtain ⟨e3, e4⟩ := free_cut (fun z => hx (List.mem_cons_of_mem _ z)) (fun z => hy (List.mem_cons_of_mem _ z)) e2
    exact ⟨by rw [e1, e3], e4⟩
theorem str_list {x y : Str} (h : x.cps.toList = y.cps.toList) : x = y := by
  obtain ⟨⟨a⟩⟩ := x
  obtain ⟨⟨b⟩⟩ := y
  have e : a = b := h
  rw [e]
theorem cps_add (a b : Str) : (a ++ b).cps.toList = a.cps.toList ++ b.cps.toList := by rw [Str.cps_append, Array.toList_append]
theorem join_two (c : Nat) (x y : Str) (r : List Str) : (Str.join ⟨#[c]⟩ (x :: y :: r)).cps.toList = x.cps.toList ++ c :: (Str.join ⟨#[c]⟩ (y :: r)).cps.toList := by
  show (x ++ ⟨#[c]⟩ ++ Str.join ⟨#[c]⟩ (y :: r)).cps.toList = _
  rw [cps_add, cps_add, List.append_assoc]
  rfl
theorem join_uniq (c : Nat) : ∀ {ps qs : List Str}, ps ≠ [] → qs ≠ [] → (∀ p ∈ ps, c ∉ p.cps.toList) → (∀ p ∈ qs, c ∉ p.cps.toList) → Str.join ⟨#[c]⟩ ps = Str.join ⟨#[c]⟩ qs → ps = qs
  | [], _, h, _, _, _, _ => (h rfl).elim
  | _ :: _, [], _, h, _, _, _ => (h rfl).elim
  | [x], [y], _, _, _, _, h => by
    have e : x = y := h
    rw [e]
  | [x], y :: z :: r, _, _, hp, _, h => by
    have e := congrArg (fun s : Str => s.cps.toList) h
    have e2 : x.cps.toList = _ := e.trans (join_two c y z r)
    exact (hp x List.mem_cons_self (by rw [e2]; simp)).elim
  | x :: w :: r, [y], _, _, _, hq, h => by
    have e := congrArg (fun s : Str => s.cps.toList) h
    have e2 : y.cps.toList = _ := e.symm.trans (join_two c x w r)
    exact (hq y List.mem_cons_self (by rw [e2]; simp)).elim
  | x :: w :: r, y :: z :: q, _, _, hp, hq, h => by
    have e := congrArg (fun s : Str => s.cps.toList) h
    have e2 := ((join_two c x w r).symm.trans e).trans (join_two c y z q)
    obtain ⟨e3, e4⟩ := free_cut (hp x List.mem_cons_self) (hq y List.mem_cons_self) e2
    have ih := join_uniq c (ps := w :: r) (qs := z :: q) (fun z => nomatch z) (fun z => nomatch z) (fun p hm => hp p (List.mem_cons_of_mem _ hm)) (fun p hm => hq p (List.mem_cons_of_mem _ hm)) (str_list e4)
    rw [str_list e3, ih]
theorem split_joined (c : Nat) {ps : List Str} (h0 : ps ≠ []) (h : ∀ p ∈ ps, c ∉ p.cps.toList) : Txt.split (Txt.join ⟨#[c]⟩ ps) ⟨#[c]⟩ = ps := by
  refine join_uniq c ?_ h0 (StrLaws.split_free _ c) h ?_
  · intro e
    have := PyProof.Rows.split_pos (Txt.join ⟨#[c]⟩ ps) ⟨#[c]⟩
    rw [e] at this
    exact absurd this (by decide)
  · rw [StrLaws.join_split]
    exact StrLaws.glued_eq_join _ _
theorem name_free : ∀ x ∈ names14, 32 ∉ x.cps.toList ∧ 10 ∉ x.cps.toList ∧ 62 ∉ x.cps.toList := by decide +kernel
theorem split_blank {c : List Str} (hc : CrewOk c) : Txt.split (Txt.join " " c) " " = c := split_joined 32 (fun e => by have := hc.two; rw [e] at this; exact absurd this (by decide)) fun p hp => (name_free p (hc.sub p hp)).1
theorem split_road : ∀ x ∈ names14, ∀ y ∈ names14, Txt.split (x ++ " > " ++ y) " > " = [x, y] := by decide +kernel
end Dl

end
section
set_option Elab.async false
set_option linter.all false
set_option maxRecDepth 100000
set_option maxHeartbeats 4000000
set_option autoImplicit false
/-! Walks over data: read_works. -/
namespace Dl
open PySem
theorem nodup_le {α : Type} [DecidableEq α] : ∀ {l m : List α}, l.Nodup → (∀ x ∈ l, x ∈ m) → l.length ≤ m.length
  | [], m, _, _ => Nat.zero_le _
  | x :: l, m, nd, h => by
    obtain ⟨n1, n2⟩ := List.nodup_cons.mp nd
    have hm := h x List.mem_cons_self
    have ih := nodup_le (l := l) (m := m.erase x) n2 fun y hy => by
      have hne : y ≠ x := fun e => n1 (by rw [← e]; exact hy)
      exact (List.mem_erase_of_ne hne).mpr (h y (List.mem_cons_of_mem _ hy))
    have hpos : 0 < m.length := List.length_pos_of_mem hm
    rw [List.length_erase_of_mem hm] at ih
    rw [List.length_cons]
    omega
theorem RoadsOk.few {c : List Str} {rs : List (Str × Str)} (h : RoadsOk c rs) (hc : CrewOk c) : rs.length ≤ 25 := by
  have h1 := nodup_le (m := c.flatMap fun a => c.map fun b => (a, b)) h.nd fun r hr => by
    rw [List.mem_flatMap]
    exact ⟨r.1, h.one r hr, List.mem_map.mpr ⟨r.2, h.two r hr, rfl⟩⟩
  have e : (c.flatMap fun a => c.map fun b => (a, b)).length = c.length * c.length := by
    rw [List.length_flatMap]
    have : ∀ l : List Str, (l.map fun a => (c.map fun b => (a, b)).length).sum = l.length * c.length := by
      intro l
      induction l with
      | nil => simp
      | cons a l ih =>
        rw [List.map_cons, List.sum_cons, ih, List.length_map, List.length_cons, Nat.succ_mul, Nat.add_comm]
    exact this c
  have h5 := hc.five
  have : c.length * c.length ≤ 5 * 5 := Nat.mul_le_mul h5 h5
  omega
def roadS (r : Str × Str) : Str := r.1 ++ " > " ++ r.2
theorem join_mem {c d : Nat} : ∀ {ps : List Str}, d ∈ (Str.join ⟨#[c]⟩ ps).cps.toList → d = c ∨ ∃ p ∈ ps, d ∈ p.cps.toList
  | [], h => by
    have h' : d ∈ ([] : List Nat) := h
    cases h'
  | [x], h => .inr ⟨x, List.mem_cons_self, h⟩
  | x :: y :: r, h => by
    rw [join_two, List.mem_append, List.mem_cons] at h
    rcases h with h | h | h
    · exact .inr ⟨x, List.mem_cons_self, h⟩
    · exact .inl h
    · rcases join_mem h with e | ⟨p, hp, e⟩
      · exact .inl e
      · exact .inr ⟨p, List.mem_cons_of_mem _ hp, e⟩
theorem crew_free {c : List Str} (hc : CrewOk c) : 10 ∉ (Txt.join " " c).cps.toList := fun h => by
  have h' : 10 ∈ (Str.join ⟨#[32]⟩ c).cps.toList := by
    have e : Txt.join " " c = Str.join " " c := StrLaws.glued_eq_join _ _
    rw [e] at h
    exact h
  rcases join_mem h' with e | ⟨p, hp, e⟩
  · cases e
  · exact (name_free p (hc.sub p hp)).2.1 e
theorem road_free : ∀ x ∈ names14, ∀ y ∈ names14, 10 ∉ (x ++ " > " ++ y).cps.toList ∧ (x ++ " > " ++ y).length ≤ 19 := by decide +kernel
theorem split_page {c : List Str} {rs : List (Str × Str)} (hc : CrewOk c) (hr : RoadsOk c rs) : Txt.split (pageOf c rs) "\n" = Txt.join " " c :: rs.map roadS := split_joined 10 (fun z => nomatch z) fun p hp => by
  rcases List.mem_cons.mp hp with e | hp
  · rw [e]; exact crew_free hc
  · obtain ⟨r, h, e⟩ := List.mem_map.mp hp
    rw [← e]
    exact (road_free r.1 (hr.nm hc r h).1 r.2 (hr.nm hc r h).2).1
theorem sum_le {α : Type} {f : α → Nat} {b : Nat} : ∀ {l : List α}, (∀ x ∈ l, f x ≤ b) → (l.map f).sum ≤ l.length * b
  | [], _ => by simp
  | x :: l, h => by
    have ih := sum_le (l := l) fun y hy => h y (List.mem_cons_of_mem _ hy)
    have := h x List.mem_cons_self
    rw [List.map_cons, List.sum_cons, List.length_cons, Nat.succ_mul]
    omega
theorem crew_len {c : List Str} (hc : CrewOk c) : (Txt.join " " c).length ≤ 50 := by
  have e := PySem.size_glued " " c
  have h1 := sum_le (f := fun x : Str => x.length) (b := 8) (l := c) fun x hx => (name_facts x (hc.sub x hx)).2.1
  have h5 := hc.five
  have e2 : (" " : Str).length = 1 := rfl
  have e3 : (Txt.join " " c).length = ((c.map (·.length)).sum + (c.length - 1) * (" " : Str).length) := e
  rw [e3, e2]
  have : c.length * 8 ≤ 5 * 8 := Nat.mul_le_mul_right _ h5
  omega
theorem page_len {c : List Str} {rs : List (Str × Str)} (hc : CrewOk c) (hr : RoadsOk c rs) : (pageOf c rs).length ≤ 900 := by
  have e : (pageOf c rs).length = (((Txt.join " " c :: rs.map roadS).map (·.length)).sum + ((Txt.join " " c :: rs.map roadS).length - 1) * ("\n" : Str).length) := PySem.size_glued "\n" _
  have h0 := crew_len hc
  have h1 := sum_le (f := fun x : Str => x.length) (b := 19) (l := rs.map roadS) fun x hx => by
    obtain ⟨r, h, e⟩ := List.mem_map.mp hx
    rw [← e]
    exact (road_free r.1 (hr.nm hc r h).1 r.2 (hr.nm hc r h).2).2
  have h2 := hr.few hc
  rw [List.length_map] at h1
  rw [e, List.map_cons, List.sum_cons, List.length_cons, List.length_map]
  have e2 : ("\n" : Str).length = 1 := rfl
  rw [e2]
  have : rs.length * 19 ≤ 25 * 19 := Nat.mul_le_mul_right _ h2
  omega
theorem sz1000 {n : Nat} (h : n ≤ 998) : n + 2 ≤ sizeLine := small_le (by omega)
theorem wp_read_works : WpD 5 1 d_read_works pre_read_works post_read_works := by
  rintro as ⟨c, rs, hc, hr, rfl⟩
  refine ⟨⟨rfl, by decide, by simp [Sl.pure]⟩, ?_⟩
  have out : post_read_works [.im (.str (pageOf c rs))] (.tuple [crewD c, roadsD rs]) := fun c' rs' hc' hr' e => by
    injection e with e1 _
    injection e1 with e1
    injection e1 with e1
    have e2 : Txt.join " " c :: rs.map roadS = Txt.join " " c' :: rs'.map roadS := by rw [← split_page hc hr, ← split_page hc' hr', e1]
    injection e2 with e3 e4
    have e5 : c = c' := by rw [← split_blank hc, ← split_blank hc', e3]
    have back : ∀ (l l' : List (Str × Str)), (∀ r ∈ l, r.1 ∈ names14 ∧ r.2 ∈ names14) → (∀ r ∈ l', r.1 ∈ names14 ∧ r.2 ∈ names14) → l.map roadS = l'.map roadS → l = l' := by
      intro l
      induction l with
      | nil =>
        intro l' _ _ h
        cases l' with
        | nil => rfl
        | cons _ _ => cases h
      | cons r l ih =>
        intro l' h1 h2 h
        cases l' with
        | nil => cases h
        | cons r' l' =>
          injection h with h3 h4
          obtain ⟨a, b⟩ := r
          obtain ⟨a', b'⟩ := r'
          have q1 := h1 _ List.mem_cons_self
          have q2 := h2 _ List.mem_cons_self
          have h5 := congrArg (fun s => Txt.split s " > ") h3
          have h6 : [a, b] = [a', b'] := (split_road a q1.1 b q1.2).symm.trans (h5.trans (split_road a' q2.1 b' q2.2))
          injection h6 with h7 h8
          injection h8 with h8 _
          rw [h7, h8, ih l' (fun r hr => h1 r (List.mem_cons_of_mem _ hr)) (fun r hr => h2 r (List.mem_cons_of_mem _ hr)) h4]
    rw [e5, back rs rs' (hr.nm hc) (hr'.nm hc') e4]
  generalize hpost : post_read_works [.im (.str (pageOf c rs))] = post at out ⊢
  show d_read_works _ [.im (.str (pageOf c rs)), .e, .e, .e, .e]
  refine ⟨true, rfl, ?_⟩
  refine iff0 rfl ?_
  refine ⟨_, rfl, rfl, sz1000 (Nat.le_trans (page_len hc hr) (by decide)), ?_⟩
  rw [split_page hc hr]
  refine ⟨trivial, ?_⟩
  show dSeq _ _ _ [.im (.str (pageOf c rs)), .im (.list ((Txt.join " " c :: rs.map roadS).map PyData.str)), .e, .e, .e]
  refine ⟨_, atI_zero rfl, _, rfl, rfl, sz1000 (Nat.le_trans (crew_len hc) (by decide)), ?_⟩
  rw [split_blank hc]
  refine ⟨trivial, ?_⟩
  refine lc_map (rs.map fun r => PyData.str (roadS r)) [.im (.str (pageOf c rs)), .im (.list ((Txt.join " " c :: rs.map roadS).map PyData.str)), .e, .e, .e] (fun x => .tuple ((Txt.split (strOf x) " > ").map PyData.str)) (fun P h => ?_) ?_ ?_ ?_
  · refine ⟨_, rfl, _, rfl, ?_⟩
    show P (cutD ((Txt.join " " c :: rs.map roadS).map PyData.str) (some ((1 : Nat) : Int)) none) _
    rw [cut_from _ _ (by simp)]
    show P ((rs.map roadS).map PyData.str) _
    rw [List.map_map]
    exact h
  · rw [List.length_map]
    exact small_le (Nat.le_trans (hr.few hc) (by decide))
  · intro x hx R hR
    obtain ⟨r, h, rfl⟩ := List.mem_map.mp hx
    refine ⟨_, rfl, rfl, sz1000 (Nat.le_trans (road_free r.1 (hr.nm hc r h).1 r.2 (hr.nm hc r h).2).2 (by decide)), _, rfl, rfl, hR⟩
  · have er : ((rs.map fun r => PyData.str (roadS r)).map fun x => PyData.tuple ((Txt.split (strOf x) " > ").map PyData.str)) = rs.map roadD := by
      rw [List.map_map]
      refine List.map_congr_left fun r h => ?_
      show PyData.tuple ((Txt.split (r.1 ++ " > " ++ r.2) " > ").map PyData.str) = roadD r
      rw [split_road r.1 (hr.nm hc r h).1 r.2 (hr.nm hc r h).2]
      rfl
    rw [er]
    refine ⟨trivial, _, _, rfl, trivial, ⟨c, hc, rfl⟩, fun r h => ?_⟩
    subst h
    refine ⟨_, rfl, [], rfl, Nat.zero_le _, sh_nil.shaped, sh_nil.shaped, _, rfl, ?_⟩
    refine iff0 (by decide) ?_
    refine ⟨trivial, trivial, ⟨c, rs, hc, hr, rfl⟩, fun r h => ?_⟩
    subst h
    refine ⟨_, rfl, [], rfl, Nat.zero_le _, sh_nil.shaped, sh_nil.shaped, _, rfl, ?_⟩
    refine iff0 (by decide) ?_
    exact ⟨trivial, trivial, _, rfl, by show 2 ≤ sizeLine; decide, trivial, _, rfl, out⟩
end Dl

end
section
set_option Elab.async false
set_option linter.all false
set_option maxRecDepth 100000
set_option maxHeartbeats 4000000
set_option autoImplicit false
/-! Walks over data: strengths. -/
namespace Dl
open PySem
theorem getD_of {α : Type} {xs : List α} {i : Nat} {x d : α} (h : xs[i]? = some x) : xs.getD i d = x := by
  rw [List.getD_eq_getElem?_getD, h]
  rfl
theorem of_lt {α : Type} {xs : List α} {i : Nat} (d : α) (h : i < xs.length) : xs[i]? = some (xs.getD i d) := by
  rw [List.getD_eq_getElem?_getD, List.getElem?_eq_getElem h]
  rfl
theorem mem_pushIdx {c : List Str} {rs : List (Str × Str)} {one : Str} {i : Nat} : i ∈ pushIdx c rs one ↔ i < c.length ∧ (one, c.getD i "") ∈ rs := by
  unfold pushIdx
  rw [List.mem_filter, List.mem_range, decide_eq_true_iff]
theorem nd_iff {A B : Prop} [Decidable A] [Decidable B] : (!decide A) = decide B ↔ (¬ A ↔ B) := by
  by_cases a : A <;> by_cases b : B <;> simp [a, b]
def withB (x : Int) : Bool := decide (-1000000 ≤ x) && decide (x ≤ 1000000)
def tiedB (c : List Str) (rs : List (Str × Str)) (i : Nat) (v : List Int) (j : Nat) : Bool := decide ((j : Int) = (i : Int)) || decide ((!decide (v.getD j 0 = 0)) = decide (i ∈ pushIdx c rs (c.getD j "")))
theorem strong_iff {c : List Str} {rs : List (Str × Str)} {i : Nat} {v : List Int} (hi : i < c.length) (hv : v.length = c.length) : StrongRow c rs i v ↔ v.all withB = true ∧ (List.range v.length).all (tiedB c rs i v) = true := by
  rw [List.all_eq_true, List.all_eq_true]
  have key : ∀ j, j < c.length → (tiedB c rs i v j = true ↔ (j = i ∨ (v.getD j 0 ≠ 0 ↔ (c.getD j "", c.getD i "") ∈ rs))) := fun j hj => by
    unfold tiedB
    rw [Bool.or_eq_true, decide_eq_true_iff, decide_eq_true_iff]
    refine or_congr (by omega) ?_
    have e : (i ∈ pushIdx c rs (c.getD j "")) ↔ (c.getD j "", c.getD i "") ∈ rs := by rw [mem_pushIdx]; exact ⟨fun z => z.2, fun z => ⟨hi, z⟩⟩
    rw [← e]
    exact nd_iff
  refine ⟨fun h => ⟨fun x hx => ?_, fun j hj => ?_⟩, fun h => ⟨fun x hx => ?_, fun j hj => ?_⟩⟩
  · have := h.within x hx
    unfold withB
    rw [decide_eq_true this.1, decide_eq_true this.2]; rfl
  · have hj' : j < c.length := by rw [← hv]; exact List.mem_range.mp hj
    exact (key j hj').mpr (h.tied j hj')
  · have := h.1 x hx
    unfold withB at this
    rw [Bool.and_eq_true, decide_eq_true_iff, decide_eq_true_iff] at this
    exact this
  · exact (key j hj).mp (h.2 j (List.mem_range.mpr (by rw [hv]; exact hj)))
theorem wp_is_strong_row : WpD 5 3 d_is_strong_row pre_is_strong_row post_is_strong_row := by
  rintro as ⟨c, rs, i, v, hc, hr, hi, hv, rfl⟩
  refine ⟨⟨rfl, by decide, by simp [Sl.pure, wkS]⟩, ?_⟩
  have out : ∀ b : Bool, (b = true ↔ v.all withB = true ∧ (List.range v.length).all (tiedB c rs i v) = true) → post_is_strong_row [wkS c rs, .im (.int (i : Nat)), .im (rowD v)] (.bool b) := fun b hb c' rs' i' v' _ _ _ _ e => by
    obtain ⟨e1, e2⟩ := cons_inj e
    obtain ⟨e3, e4⟩ := cons_inj e2
    obtain ⟨e5, _⟩ := cons_inj e4
    obtain ⟨rfl, rfl⟩ := wkS_inj e1
    have e6 : i = i' := by
      have := im_inj e3
      injection this with this
      omega
    subst e6
    have e7 := rowD_inj (im_inj e5)
    subst e7
    exact ⟨b, rfl, hb.trans (strong_iff hi hv).symm⟩
  generalize post_is_strong_row [wkS c rs, .im (.int (i : Nat)), .im (rowD v)] = post at out ⊢
  show d_is_strong_row _ [wkS c rs, .im (.int (i : Nat)), .im (rowD v), .e, .e]
  have hl : (v.map PyData.int).length = v.length := List.length_map _
  have hcl : (c.map PyData.str).length = c.length := List.length_map _
  have h5 := hc.five
  refine ⟨true, rfl, _, rfl, _, rfl, ?_⟩
  refine iff0 (by rw [hl, hcl, hv]; simp) ?_
  simp only [dNext, dSeq]
  refine lc_map (v.map PyData.int) _ (fun d => match d with | .int x => .bool (withB x) | _ => .none) (fun P h => h) (by rw [hl]; exact small_le (by omega)) (fun x hx R hR => ?_) ?_
  · obtain ⟨z, hz, rfl⟩ := List.mem_map.mp hx
    refine ⟨trivial, _, rfl, trivial, trivial, ⟨z, _, _, rfl⟩, fun r h => ?_⟩
    rw [h z (0 - 1000000) 1000000 rfl]
    exact ⟨_, rfl, rfl, hR⟩
  · refine ⟨v.map withB, by rw [List.map_map, List.map_map]; rfl, _, rfl, ?_⟩
    show if (!(v.map withB).all id) = true then _ else _
    rw [List.all_map]
    by_cases q : v.all (id ∘ withB) = true
    · refine iff0 (by rw [q]; rfl) ?_
      simp only [dNext]
      refine lc_idx (enumD 0 (v.map PyData.int)) _ (fun j => .bool (tiedB c rs i v j)) (fun P h => h) (by rw [enumD_len, hl]; exact small_le (by omega)) (fun j x hx R hR => ?_) ?_
      · obtain ⟨d, hd, rfl⟩ := enum_out hx
        obtain ⟨z, hz, rfl⟩ := map_out hd
        rw [Nat.zero_add]
        have hj : j < c.length := by rw [← hv]; exact (List.getElem?_eq_some_iff.mp hz).1
        have ez : v.getD j 0 = z := getD_of hz
        refine ⟨rfl, rfl, _, rfl, ?_⟩
        unfold tiedB at hR
        rw [ez] at hR
        by_cases e : (j : Int) = (i : Int)
        · refine ift (decide_eq_true e) ?_
          refine ⟨_, rfl, rfl, ?_⟩
          rw [decide_eq_true e, Bool.true_or] at hR
          exact hR
        · refine iff0 (decide_eq_false e) ?_
          rw [decide_eq_false e, Bool.false_or] at hR
          refine ⟨_, rfl, _, rfl, .tuple ((pushIdx c rs (c.getD j "")).map fun i : Nat => .int (i : Int)), ?_, (sh_int 0 _).shaped, (sh_ints _).shaped, _, rfl, rfl, ?_⟩
          · refine atI_nat ?_
            rw [List.getElem?_map, of_lt ("" : Str) hj]
            rfl
          · rw [in_ints]
            exact hR
      · refine ⟨(List.range v.length).map (tiedB c rs i v), by rw [enumD_len, hl, List.map_map]; rfl, trivial, _, rfl, out _ ?_⟩
        rw [List.all_map]
        exact Iff.intro (fun z => ⟨q, z⟩) fun z => z.2
    · have q2 : v.all (id ∘ withB) = false := by simpa using q
      refine ift (by rw [q2]; rfl) ?_
      exact ⟨trivial, _, rfl, out false (Iff.intro (fun z => absurd z Bool.false_ne_true) fun z => (q z.1).elim)⟩
end Dl

end
section
set_option Elab.async false
set_option linter.all false
set_option maxRecDepth 100000
set_option maxHeartbeats 4000000
set_option autoImplicit false
/-! Walks over data: wrong_row, is_bar_row. -/
namespace Dl
open PySem
theorem wp_wrong_row : WpD 4 2 d_wrong_row pre_wrong_row post_wrong_row := by
  rintro as ⟨c, rs, t, hc, hr, hs, rfl⟩
  refine ⟨⟨rfl, by decide, by simp [Sl.pure, wkS]⟩, ?_⟩
  have out1 : Strong c rs t → post_wrong_row [wkS c rs, .im (tabD t)] (.tuple []) := fun h c' rs' t' _ _ _ e => by
    obtain ⟨e1, e2⟩ := cons_inj e
    obtain ⟨e3, _⟩ := cons_inj e2
    obtain ⟨rfl, rfl⟩ := wkS_inj e1
    have e7 := tabD_inj (im_inj e3)
    subst e7
    exact .inl ⟨h, rfl⟩
  have out2 : ∀ i, ¬ Strong c rs t → post_wrong_row [wkS c rs, .im (tabD t)] (.tuple [.int i]) := fun i h c' rs' t' _ _ _ e => by
    obtain ⟨e1, e2⟩ := cons_inj e
    obtain ⟨e3, _⟩ := cons_inj e2
    obtain ⟨rfl, rfl⟩ := wkS_inj e1
    have e7 := tabD_inj (im_inj e3)
    subst e7
    exact .inr ⟨h, i, rfl⟩
  generalize post_wrong_row [wkS c rs, .im (tabD t)] = post at out1 out2 ⊢
  show d_wrong_row _ [wkS c rs, .im (tabD t), .e, .e]
  have hl : (t.map rowD).length = t.length := List.length_map _
  have hcl : (c.map PyData.str).length = c.length := List.length_map _
  refine ⟨true, rfl, _, rfl, _, rfl, ?_⟩
  refine iff0 (by rw [hl, hcl, hs.1]; simp) ?_
  simp only [dNext, dSeq]
  refine for_of (enumD 0 (t.map rowD)) [wkS c rs, .im (tabD t), .e, .e] (fun P h => h) (fun i δ' => (∃ s1 s2, δ' = [wkS c rs, .im (tabD t), s1, s2]) ∧ ∀ j, j < i → StrongRow c rs j (t.getD j [])) ⟨⟨_, _, rfl⟩, fun j hj => absurd hj (Nat.not_lt_zero j)⟩ ?_ ?_
  · rintro i x δ' hx ⟨⟨s1, s2, rfl⟩, hprev⟩
    obtain ⟨d, hd, rfl⟩ := enum_out hx
    obtain ⟨z, hz, rfl⟩ := map_out hd
    rw [Nat.zero_add]
    have hi : i < t.length := (List.getElem?_eq_some_iff.mp hz).1
    have ez : t.getD i [] = z := getD_of hz
    have hzl : z.length = c.length := hs.2 z (List.mem_of_getElem? hz)
    refine ⟨rfl, rfl, trivial, trivial, trivial, ⟨c, rs, i, z, hc, hr, by rw [← hs.1]; exact hi, hzl, rfl⟩, fun r h => ?_⟩
    obtain ⟨b, rfl, hb⟩ := h c rs i z hc hr (by rw [← hs.1]; exact hi) hzl rfl
    refine ⟨b, rfl, ?_⟩
    cases b with
    | true =>
      refine iff0 rfl ⟨⟨_, _, rfl⟩, fun j hj => ?_⟩
      rcases Nat.lt_succ_iff_lt_or_eq.mp hj with q | q
      · exact hprev j q
      · subst q; rw [ez]; exact hb.mp rfl
    | false =>
      refine ift rfl ⟨trivial, _, rfl, by show 1 ≤ sizeLine; decide, trivial, _, rfl, out2 _ fun h => ?_⟩
      have := h i hi
      rw [ez] at this
      exact absurd (hb.mpr this) Bool.false_ne_true
  · rintro δ' ⟨⟨s1, s2, rfl⟩, hall⟩
    rw [enumD_len, hl] at hall
    exact ⟨[], rfl, Nat.zero_le _, trivial, _, rfl, out1 hall⟩
/-! ### a bar's row -/
theorem dot_range : ∀ (a b : List Int), a.length = b.length → dotI a b = ((List.range a.length).map fun k => a.getD k 0 * b.getD k 0).sum
  | [], [], _ => rfl
  | x :: a, y :: b, h => by
    have ih := dot_range a b (by simpa using h)
    unfold dotI at ih ⊢
    rw [List.zipWith_cons_cons, List.sum_cons, ih, List.length_cons, List.range_succ_eq_map, List.map_cons, List.sum_cons, List.map_map]
    rfl
  | [], _ :: _, h => by cases h
  | _ :: _, [], h => by cases h
theorem ent_of {t : List (List Int)} {i j : Nat} {r : List Int} (h : t[i]? = some r) : ent t i j = r.getD j 0 := by
  unfold ent
  rw [getD_of h]
theorem col_get (t : List (List Int)) (j k : Nat) : (colI t j).getD k 0 = ent t k j := by
  unfold colI ent
  rw [List.getD_eq_getElem?_getD, List.getElem?_map, List.getD_eq_getElem?_getD (l := t)]
  cases t[k]? <;> simp
theorem dot_col {t : List (List Int)} {line : List Int} {j : Nat} (h : line.length = t.length) : dotI line (colI t j) = ((List.range line.length).map fun k => line.getD k 0 * ent t k j).sum := by
  rw [dot_range line (colI t j) (by rw [h]; exact (List.length_map _).symm)]
  refine congrArg List.sum (List.map_congr_left fun k _ => ?_)
  rw [col_get]
theorem mulB {a b : Nat} {i j : Int} (ha : Bz a i) (hb : Bz b j) (h : a + b ≤ 100000000 := by decide) : L2.CMulX i j := L2.mulx_ok ha hb (by omega)
theorem mem_getD {xs : List Int} {k : Nat} (h : k < xs.length) : xs.getD k 0 ∈ xs := List.mem_of_getElem? (of_lt 0 h)
theorem wp_is_bar_row : WpD 8 3 d_is_bar_row pre_is_bar_row post_is_bar_row := by
  rintro as ⟨n, t, sp, line, ratio, hn, hs, hln, hT, hL, hR, hsp, hsl, rfl⟩
  refine ⟨⟨rfl, by decide, by simp [Sl.pure]⟩, ?_⟩
  have out : ∀ b : Bool, (b = true ↔ BarOk t sp line ratio) → post_is_bar_row [.im (tabD t), .im (spotsD sp), .im (.tuple [rowD line, .int ratio])] (.bool b) := fun b hb n' t' sp' line' ratio' _ _ _ e => by
    obtain ⟨e1, e2⟩ := cons_inj e
    obtain ⟨e3, e4⟩ := cons_inj e2
    obtain ⟨e5, _⟩ := cons_inj e4
    have e6 := tabD_inj (im_inj e1)
    have e7 := spotsD_inj (im_inj e3)
    obtain ⟨e8, e9⟩ := cons_inj (tup_inj (im_inj e5))
    obtain ⟨e10, _⟩ := cons_inj e9
    have e11 := rowD_inj e8
    injection e10 with e10
    subst e6 e7 e11 e10
    exact ⟨b, rfl, hb⟩
  generalize post_is_bar_row [.im (tabD t), .im (spotsD sp), .im (.tuple [rowD line, .int ratio])] = post at out ⊢
  show d_is_bar_row _ [.im (tabD t), .im (spotsD sp), .im (.tuple [rowD line, .int ratio]), .e, .e, .e, .e, .e]
  have hl : (t.map rowD).length = t.length := List.length_map _
  have hll : (line.map PyData.int).length = line.length := List.length_map _
  have htl : t.length = line.length := hs.1.trans hln.symm
  have n5 : line.length ≤ 1000 := by omega
  refine ⟨true, rfl, _, rfl, _, rfl, .int ratio, rfl, trivial, ⟨ratio, rfl⟩, fun r h => ?_⟩
  subst h
  refine ⟨true, rfl, ?_⟩
  refine iff0 rfl ?_
  simp only [dNext, dSeq]
  refine ⟨trivial, rfl, rfl, ?_⟩
  refine ⟨true, rfl, _, rfl, _, rfl, ?_⟩
  refine iff0 (by rw [hll, hl, htl]; simp) ?_
  refine lc_map (line.map PyData.int) _ (fun _ => .bool true) (fun P h => h) (by rw [hll]; exact small_le n5) (fun x hx R hR => ?_) ?_
  · obtain ⟨z, hz, rfl⟩ := List.mem_map.mp hx
    refine ⟨trivial, ⟨z, rfl⟩, fun r h => ?_⟩
    subst h
    exact ⟨_, rfl, rfl, hR⟩
  refine ⟨line.map fun _ => true, by rw [List.map_map, List.map_map]; rfl, _, rfl, ?_⟩
  refine iff0 (by rw [List.all_map]; simp) ?_
  simp only [dNext, dSeq]
  refine lc_map (line.map PyData.int) _ (fun d => match d with | .int x => .bool (!decide (x = 0)) | _ => .none) (fun P h => h) (by rw [hll]; exact small_le n5) (fun x hx R hR => ?_) ?_
  · obtain ⟨z, hz, rfl⟩ := List.mem_map.mp hx
    exact ⟨_, rfl, rfl, hR⟩
  refine ⟨line.map fun x => !decide (x = 0), by rw [List.map_map, List.map_map]; rfl, _, rfl, ?_⟩
  have a1 : ((line.map fun x => !decide (x = 0)).any id = true) ↔ ∃ x ∈ line, x ≠ 0 := by
    rw [List.any_map, List.any_eq_true]
    simp
  by_cases q1 : (line.map fun x => !decide (x = 0)).any id = true
  case neg =>
    refine ift (by show (!(line.map fun x => !decide (x = 0)).any id) = true; simpa using q1) ?_
    exact ⟨trivial, _, rfl, out false (Iff.intro (fun z => absurd z Bool.false_ne_true) fun z => (q1 (a1.mpr z.some)).elim)⟩
  refine iff0 (by show (!(line.map fun x => !decide (x = 0)).any id) = false; rw [q1]; rfl) ?_
  refine lc_map (sp.map fun i : Nat => PyData.int (i : Int)) [.im (tabD t), .im (spotsD sp), .im (.tuple [rowD line, .int ratio]), .im (rowD line), .im (.int ratio), .e, .e, .e] (fun d => match d with | .int x => .bool (!decide (line.getD x.toNat 0 = 0)) | _ => .none) (fun P h => h) (by rw [List.length_map]; exact small_le (by omega)) (fun x hx R hR => ?_) ?_
  · obtain ⟨z, hz, rfl⟩ := List.mem_map.mp hx
    have hzl : z < line.length := by rw [hln]; exact hsp z hz
    refine ⟨.int (line.getD z 0), atI_nat ?_, _, rfl, _, rfl, rfl, hR⟩
    rw [List.getElem?_map, of_lt (0 : Int) hzl]
    rfl
  refine ⟨sp.map fun i => !decide (line.getD i 0 = 0), by rw [List.map_map, List.map_map]; rfl, _, rfl, ?_⟩
  have a2 : ((sp.map fun i => !decide (line.getD i 0 = 0)).any id = true) ↔ ∃ i ∈ sp, line.getD i 0 ≠ 0 := by
    rw [List.any_map, List.any_eq_true]
    simp
  by_cases q2 : (sp.map fun i => !decide (line.getD i 0 = 0)).any id = true
  case pos =>
    refine ift q2 ?_
    obtain ⟨i, hi, hne⟩ := a2.mp q2
    exact ⟨trivial, _, rfl, out false (Iff.intro (fun z => absurd z Bool.false_ne_true) fun z => (hne (z.off i hi)).elim)⟩
  refine iff0 (by simpa using q2) ?_
  have off : ∀ i ∈ sp, line.getD i 0 = 0 := fun i hi => Classical.byContradiction fun z => q2 (a2.mpr ⟨i, hi, z⟩)
  simp only [dNext, dSeq]
  refine for_of (intsD line.length) [.im (tabD t), .im (spotsD sp), .im (.tuple [rowD line, .int ratio]), .im (rowD line), .im (.int ratio), .e, .e, .e] (fun P h => ?_) (fun i δ' => (∃ s1, δ' = [.im (tabD t), .im (spotsD sp), .im (.tuple [rowD line, .int ratio]), .im (rowD line), .im (.int ratio), .e, s1, .e]) ∧ ∀ j, j < i → dotI line (colI t j) = ratio * line.getD j 0) ⟨⟨_, rfl⟩, fun j hj => absurd hj (Nat.not_lt_zero j)⟩ ?_ ?_
  · refine ⟨_, rfl, ?_, ?_, ?_⟩
    · rw [hll]; omega
    · rw [hll]; omega
    · rw [hll]; exact h
  · rintro j x δ' hx ⟨⟨s1, rfl⟩, hprev⟩
    have hj : j < line.length := by
      have := (List.getElem?_eq_some_iff.mp hx).1
      rw [intsD_len] at this
      exact this
    rw [intsD_get hj] at hx
    cases hx
    refine lc_idx (intsD line.length) [.im (tabD t), .im (spotsD sp), .im (.tuple [rowD line, .int ratio]), .im (rowD line), .im (.int ratio), .e, .im (.int (j : Nat)), .e] (fun k => .int (line.getD k 0 * ent t k j)) (fun P h => ?_) (by rw [intsD_len]; exact small_le n5) (fun k y hy R hR => ?_) ?_
    · refine ⟨_, rfl, ?_, ?_, ?_⟩
      · rw [hll]; omega
      · rw [hll]; omega
      · rw [hll]; exact h
    · have hk : k < line.length := by
        have := (List.getElem?_eq_some_iff.mp hy).1
        rw [intsD_len] at this
        exact this
      rw [intsD_get hk] at hy
      cases hy
      have ht := of_lt ([] : List Int) (show k < t.length by omega)
      have hrl := hs.2 _ (List.mem_of_getElem? ht)
      have hj2 : j < (t.getD k []).length := by omega
      refine ⟨.int (line.getD k 0), atI_nat ?_, _, rfl, rowD (t.getD k []), atI_nat ?_, _, rfl, .int (ent t k j), atI_nat ?_, mulB (hL _ (mem_getD hk)) (hT _ (List.mem_of_getElem? ht) _ (mem_getD hj2)), _, rfl, rfl, hR⟩
      · rw [List.getElem?_map, of_lt (0 : Int) hk]; rfl
      · rw [List.getElem?_map, ht]; rfl
      · rw [List.getElem?_map, of_lt (0 : Int) hj2]; rfl
    · refine ⟨(List.range line.length).map fun k => line.getD k 0 * ent t k j, by rw [intsD_len, List.map_map]; rfl, _, rfl, .int (line.getD j 0), atI_nat ?_, mulB hR (hL _ (mem_getD hj)), _, rfl, ?_⟩
      · rw [List.getElem?_map, of_lt (0 : Int) hj]; rfl
      · rw [← dot_col htl.symm]
        by_cases q3 : dotI line (colI t j) = ratio * line.getD j 0
        · refine iff0 (by rw [decide_eq_true q3]; rfl) ⟨⟨_, rfl⟩, fun i hi => ?_⟩
          rcases Nat.lt_succ_iff_lt_or_eq.mp hi with q | q
          · exact hprev i q
          · subst q; exact q3
        · refine ift (by rw [decide_eq_false q3]; rfl) ?_
          exact ⟨trivial, _, rfl, out false (Iff.intro (fun z => absurd z Bool.false_ne_true) fun z => (q3 (z.eig j hj)).elim)⟩
  · rintro δ' ⟨⟨s1, rfl⟩, hall⟩
    rw [intsD_len] at hall
    exact ⟨trivial, _, rfl, out true (Iff.intro (fun _ => ⟨a1.mp q1, off, hall⟩) fun _ => rfl)⟩
end Dl

end
section
set_option Elab.async false
set_option linter.all false
set_option maxRecDepth 100000
set_option maxHeartbeats 4000000
set_option autoImplicit false
/-! Walks over data: fractions. -/
namespace Dl
open PySem
theorem q_eq (q : Rat) : q = (q.num : Rat) / ((q.den : Int) : Rat) := by
  have h := Rat.num_divInt_den q
  rw [Rat.divInt_eq_div] at h
  exact h.symm
theorem den_pos (q : Rat) : 0 < (q.den : Int) := by
  have := Rat.den_nz q
  omega
theorem cast_ne {b : Int} (h : b ≠ 0) : (b : Rat) ≠ 0 := fun z => h (by exact_mod_cast z)
theorem fr_div (a b : Int) (hb : 0 < b) : fr ((a : Rat) / (b : Rat)) = .tuple [.int (a / (Nat.gcd a.natAbs b.natAbs : Nat)), .int (b / (Nat.gcd a.natAbs b.natAbs : Nat))] := by
  obtain ⟨n, rfl⟩ := Int.eq_ofNat_of_zero_le (Int.le_of_lt hb)
  have hn : n ≠ 0 := by omega
  have e : (a : Rat) / ((n : Int) : Rat) = mkRat a n := by
    rw [Rat.mkRat_eq_div]
    rfl
  unfold fr
  rw [e, Rat.num_mkRat, Rat.den_mkRat, if_neg hn, if_neg hn, Int.natAbs_natCast, Nat.gcd_comm n a.natAbs]
  congr 3
theorem Bz.mono {a b : Nat} {z : Int} (h : Bz a z) (hab : a ≤ b) : Bz b z := Nat.lt_of_lt_of_le h (Nat.pow_le_pow_right (by decide) hab)
theorem Bz.mul {a b : Nat} {x y : Int} (hx : Bz a x) (hy : Bz b y) : Bz (a + b) (x * y) := by
  unfold Bz at *
  rw [Int.natAbs_mul, Nat.pow_add]
  exact Nat.mul_lt_mul'' hx hy
theorem Bz.add {a : Nat} {x y : Int} (hx : Bz a x) (hy : Bz a y) : Bz (a + 1) (x + y) := by
  unfold Bz at *
  rw [Nat.pow_succ]
  have := Int.natAbs_add_le x y
  omega
theorem Bz.neg {a : Nat} {x : Int} (hx : Bz a x) : Bz a (-x) := by
  unfold Bz at *
  rw [Int.natAbs_neg]
  exact hx
theorem bz_nat {a n : Nat} (h : n < 2 ^ a) : Bz a (n : Int) := by
  unfold Bz
  rw [Int.natAbs_natCast]
  exact h
theorem gcd_step (x y : Nat) : Nat.gcd y (x % y) = Nat.gcd x y := by
  rw [Nat.gcd_comm x y, Nat.gcd_rec y x, Nat.gcd_comm]
theorem divW {a : Int} {g b : Nat} (hg : 0 < g) (h : g < 2 ^ b) (hb : b ≤ 9000) (h0 : 0 < b) : L2.CDivW a (g : Int) := L2.wide_div (by omega) (by rw [Int.natAbs_natCast]; exact h) h0 hb
theorem gcd_lt {a b : Int} {k : Nat} (hb : 0 < b) (h : Bz k b) : 0 < Nat.gcd a.natAbs b.natAbs ∧ Nat.gcd a.natAbs b.natAbs < 2 ^ k := by
  have hp : 0 < b.natAbs := by omega
  exact ⟨Nat.gcd_pos_of_pos_right _ hp, Nat.lt_of_le_of_lt (Nat.gcd_le_right _ hp) h⟩
theorem wp_reduced : WpD 4 2 d_reduced pre_reduced post_reduced := by
  rintro as ⟨a, b, hb, ha, hbb, rfl⟩
  refine ⟨⟨rfl, by decide, by simp [Sl.pure]⟩, ?_⟩
  have out : post_reduced [.im (.int a), .im (.int b)] (fr ((a : Rat) / (b : Rat))) := fun a' b' _ e => by
    obtain ⟨e1, e2⟩ := cons_inj e
    obtain ⟨e3, _⟩ := cons_inj e2
    have e4 := im_inj e1
    have e5 := im_inj e3
    injection e4 with e4
    injection e5 with e5
    rw [e4, e5]
  rw [fr_div a b hb] at out
  generalize post_reduced [.im (.int a), .im (.int b)] = post at out ⊢
  show d_reduced _ [.im (.int a), .im (.int b), .e, .e]
  obtain ⟨hg, hgb⟩ := gcd_lt (a := a) hb hbb
  refine ⟨trivial, trivial, _, _, rfl, ?_⟩
  simp only [dNext, dSeq]
  refine ⟨fun m δ' => ∃ x : Nat, δ' = [.im (.int a), .im (.int b), .im (.int (x : Nat)), .im (.int (m : Nat))] ∧ Nat.gcd x m = Nat.gcd a.natAbs b.natAbs, ⟨b.natAbs, a.natAbs, ?_, rfl⟩, ?_⟩
  · have e1 : (if a < 0 then -a else a) = ((a.natAbs : Nat) : Int) := by split <;> omega
    have e2 : b = ((b.natAbs : Nat) : Int) := by omega
    show [Sl.im (.int a), Sl.im (.int b), Sl.im (.int (if a < 0 then -a else a)), Sl.im (.int b)] = _
    rw [e1]
    conv => lhs; rw [show Sl.im (.int b) = Sl.im (.int ((b.natAbs : Nat) : Int)) from by rw [← e2]]
    conv => rhs; rw [show Sl.im (.int b) = Sl.im (.int ((b.natAbs : Nat) : Int)) from by rw [← e2]]
  · rintro m δ' ⟨x, rfl, hx⟩
    refine ⟨_, rfl, ?_⟩
    by_cases hm : m = 0
    · subst hm
      refine iff0 (by simp) ?_
      have ex : x = Nat.gcd a.natAbs b.natAbs := by rw [← hx, Nat.gcd_zero_right]
      subst ex
      refine ⟨divW hg hgb (by decide) (by decide), trivial, divW hg hgb (by decide) (by decide), trivial, _, rfl, by show 2 ≤ sizeLine; decide, trivial, _, rfl, out⟩
    · refine ift (by simpa using hm) ?_
      refine ⟨trivial, by omega, trivial, _, _, rfl, x % m, Nat.mod_lt _ (by omega), m, ?_, by rw [gcd_step]; exact hx⟩
      rfl
end Dl

end
section
set_option Elab.async false
set_option linter.all false
set_option maxRecDepth 100000
set_option maxHeartbeats 4000000
set_option autoImplicit false
/-! Walks over data: sums, products of fractions; the law's own lowering. -/
namespace Dl
open PySem
theorem two_fr {p q p' q' : Rat} (e : [Sl.im (fr p), Sl.im (fr q)] = [Sl.im (fr p'), Sl.im (fr q')]) : p = p' ∧ q = q' := by
  obtain ⟨e1, e2⟩ := cons_inj e
  obtain ⟨e3, _⟩ := cons_inj e2
  exact ⟨fr_inj (im_inj e1), fr_inj (im_inj e3)⟩
theorem num_add (p q : Rat) : (((p.num * (q.den : Int) + q.num * (p.den : Int) : Int)) : Rat) / (((p.den : Int) * (q.den : Int) : Int) : Rat) = p + q := by
  have hp := cast_ne (Int.ne_of_gt (den_pos p))
  have hq := cast_ne (Int.ne_of_gt (den_pos q))
  have e1 := q_eq p
  have e2 := q_eq q
  rw [Rat.intCast_add, Rat.intCast_mul, Rat.intCast_mul, Rat.intCast_mul]
  generalize (p.num : Rat) = a at *
  generalize (q.num : Rat) = b at *
  generalize ((p.den : Int) : Rat) = c at *
  generalize ((q.den : Int) : Rat) = d at *
  subst e1 e2
  grind
theorem num_mul (p q : Rat) : ((p.num * q.num : Int) : Rat) / (((p.den : Int) * (q.den : Int) : Int) : Rat) = p * q := by
  have hp := cast_ne (Int.ne_of_gt (den_pos p))
  have hq := cast_ne (Int.ne_of_gt (den_pos q))
  have e1 := q_eq p
  have e2 := q_eq q
  rw [Rat.intCast_mul, Rat.intCast_mul]
  generalize (p.num : Rat) = a at *
  generalize (q.num : Rat) = b at *
  generalize ((p.den : Int) : Rat) = c at *
  generalize ((q.den : Int) : Rat) = d at *
  subst e1 e2
  grind
theorem num_div (p q : Rat) (h : q ≠ 0) : ((p.num * (q.den : Int) : Int) : Rat) / (((p.den : Int) * q.num : Int) : Rat) = p / q := by
  have hp := cast_ne (Int.ne_of_gt (den_pos p))
  have hq := cast_ne (Int.ne_of_gt (den_pos q))
  have hn : (q.num : Rat) ≠ 0 := fun z => h (by rw [q_eq q, z]; grind)
  have e1 := q_eq p
  have e2 := q_eq q
  rw [Rat.intCast_mul, Rat.intCast_mul]
  generalize (p.num : Rat) = a at *
  generalize (q.num : Rat) = b at *
  generalize ((p.den : Int) : Rat) = c at *
  generalize ((q.den : Int) : Rat) = d at *
  subst e1 e2
  grind
theorem Bd.d {b : Nat} {q : Rat} (h : Bd b q) : Bz b (q.den : Int) := bz_nat h.2
theorem dens (p q : Rat) : 0 < (p.den : Int) * (q.den : Int) := Int.mul_pos (den_pos p) (den_pos q)
theorem wp_plus : WpD 2 2 d_plus pre_plus post_plus := by
  rintro as ⟨p, q, hp, hq, rfl⟩
  refine ⟨⟨rfl, by decide, by simp [Sl.pure]⟩, ?_⟩
  have out : post_plus [.im (fr p), .im (fr q)] (fr (p + q)) := fun p' q' e => by
    obtain ⟨rfl, rfl⟩ := two_fr e
    rfl
  generalize post_plus [.im (fr p), .im (fr q)] = post at out ⊢
  show d_plus _ [.im (fr p), .im (fr q)]
  refine ⟨_, rfl, _, rfl, _, rfl, mulB hp.1 hq.d, _, rfl, _, rfl, _, rfl, _, rfl, mulB hq.1 hp.d, trivial, _, rfl, _, rfl, _, rfl, mulB hp.d hq.d, trivial, ⟨_, _, dens p q, ((hp.1.mul hq.d).add (hq.1.mul hp.d)).mono (by decide), (hp.d.mul hq.d).mono (by decide), rfl⟩, fun r hr => ?_⟩
  have := hr _ _ (dens p q) rfl
  rw [num_add] at this
  subst this
  exact ⟨trivial, _, rfl, out⟩
theorem fr_neg (q : Rat) : PyData.tuple [.int (0 - q.num), .int q.den] = fr (-q) := by
  unfold fr
  rw [Int.zero_sub]
  rfl
theorem Bd.neg {b : Nat} {q : Rat} (h : Bd b q) : Bd b (-q) := by
  exact ⟨Bz.neg h.1, h.2⟩
theorem wp_minus : WpD 2 2 d_minus pre_minus post_minus := by
  rintro as ⟨p, q, hp, hq, rfl⟩
  refine ⟨⟨rfl, by decide, by simp [Sl.pure]⟩, ?_⟩
  have out : post_minus [.im (fr p), .im (fr q)] (fr (p - q)) := fun p' q' e => by
    obtain ⟨rfl, rfl⟩ := two_fr e
    rfl
  generalize post_minus [.im (fr p), .im (fr q)] = post at out ⊢
  show d_minus _ [.im (fr p), .im (fr q)]
  refine ⟨trivial, _, rfl, _, rfl, trivial, _, rfl, trivial, _, rfl, by show 2 ≤ sizeLine; decide, trivial, ?_⟩
  rw [fr_neg]
  refine ⟨⟨p, -q, hp, hq.neg, rfl⟩, fun r hr => ?_⟩
  have := hr p (-q) rfl
  rw [← Rat.sub_eq_add_neg] at this
  subst this
  exact ⟨trivial, _, rfl, out⟩
theorem wp_times : WpD 2 2 d_times pre_times post_times := by
  rintro as ⟨p, q, hp, hq, rfl⟩
  refine ⟨⟨rfl, by decide, by simp [Sl.pure]⟩, ?_⟩
  have out : post_times [.im (fr p), .im (fr q)] (fr (p * q)) := fun p' q' e => by
    obtain ⟨rfl, rfl⟩ := two_fr e
    rfl
  generalize post_times [.im (fr p), .im (fr q)] = post at out ⊢
  show d_times _ [.im (fr p), .im (fr q)]
  refine ⟨_, rfl, _, rfl, _, rfl, mulB hp.1 hq.1, trivial, _, rfl, _, rfl, _, rfl, mulB hp.d hq.d, trivial, ⟨_, _, dens p q, (hp.1.mul hq.1).mono (by decide), (hp.d.mul hq.d).mono (by decide), rfl⟩, fun r hr => ?_⟩
  have := hr _ _ (dens p q) rfl
  rw [num_mul] at this
  subst this
  exact ⟨trivial, _, rfl, out⟩
theorem wp_over : WpD 4 2 d_over pre_over post_over := by
  rintro as ⟨p, q, hp, hq, h0, rfl⟩
  refine ⟨⟨rfl, by decide, by simp [Sl.pure]⟩, ?_⟩
  have out : post_over [.im (fr p), .im (fr q)] (fr (p / q)) := fun p' q' e => by
    obtain ⟨rfl, rfl⟩ := two_fr e
    rfl
  generalize post_over [.im (fr p), .im (fr q)] = post at out ⊢
  show d_over _ [.im (fr p), .im (fr q), .e, .e]
  have hn : q.num ≠ 0 := fun z => h0 (by rw [q_eq q, z]; grind)
  refine ⟨_, rfl, _, rfl, _, rfl, mulB hp.1 hq.d, trivial, _, rfl, _, rfl, _, rfl, mulB hp.d hq.1, trivial, _, _, rfl, _, rfl, ?_⟩
  have b1 := (hp.1.mul hq.d).mono (show 4400 + 4400 ≤ 8900 by decide)
  have b2 := (hp.d.mul hq.1).mono (show 4400 + 4400 ≤ 8900 by decide)
  by_cases hpos : 0 < (p.den : Int) * q.num
  · refine ift (decide_eq_true hpos) ?_
    refine ⟨trivial, trivial, ⟨_, _, hpos, b1, b2, rfl⟩, fun r hr => ?_⟩
    have := hr _ _ hpos rfl
    rw [num_div p q h0] at this
    subst this
    exact ⟨trivial, _, rfl, out⟩
  · refine iff0 (decide_eq_false hpos) ?_
    have hz : (p.den : Int) * q.num ≠ 0 := Int.mul_ne_zero (Int.ne_of_gt (den_pos p)) hn
    have hneg : 0 < 0 - (p.den : Int) * q.num := by omega
    have e1 : (0 - p.num * (q.den : Int)) = -(p.num * (q.den : Int)) := Int.zero_sub _
    have e2 : (0 - (p.den : Int) * q.num) = -((p.den : Int) * q.num) := Int.zero_sub _
    refine ⟨_, rfl, trivial, _, rfl, trivial, ⟨_, _, hneg, by rw [e1]; exact b1.neg, by rw [e2]; exact b2.neg, rfl⟩, fun r hr => ?_⟩
    have := hr _ _ hneg rfl
    rw [e1, e2, Rat.intCast_neg, Rat.intCast_neg] at this
    have hd : (((p.den : Int) * q.num : Int) : Rat) ≠ 0 := cast_ne hz
    rw [show (-(((p.num * (q.den : Int) : Int)) : Rat)) / (-(((p.den : Int) * q.num : Int) : Rat)) = ((p.num * (q.den : Int) : Int) : Rat) / (((p.den : Int) * q.num : Int) : Rat) by grind, num_div p q h0] at this
    subst this
    exact ⟨trivial, _, rfl, out⟩
theorem wp_is_fraction : WpD 1 1 d_is_fraction pre_is_fraction post_is_fraction := by
  rintro as ⟨q, hq, rfl⟩
  refine ⟨⟨rfl, by decide, by simp [Sl.pure]⟩, ?_⟩
  show d_is_fraction _ [.im (fr q)]
  have hd := den_pos q
  refine ⟨true, rfl, _, rfl, _, rfl, _, rfl, trivial, ⟨_, rfl⟩, fun r h => ?_⟩
  subst h
  refine ⟨true, rfl, _, rfl, trivial, ⟨_, rfl⟩, fun r h => ?_⟩
  subst h
  refine ⟨true, rfl, ?_⟩
  refine iff0 rfl ?_
  refine ⟨_, rfl, _, rfl, _, rfl, ?_⟩
  refine ift (decide_eq_true (by omega)) ?_
  refine ⟨_, rfl, trivial, _, rfl, trivial, ⟨_, _, hd, hq.1.mono (by decide), hq.d.mono (by decide), rfl⟩, fun r h => ?_⟩
  have := h _ _ hd rfl
  rw [← q_eq q] at this
  subst this
  refine ⟨_, rfl, (sh_fr q).shaped, (sh_fr q).shaped, trivial, _, rfl, ?_⟩
  show PyData.bool (PyData.eqv (fr q) (fr q)) = .bool true
  rw [(eqv_fr q q).mpr rfl]
/-! ### the law's lowering -/
theorem euclid_half {x y : Nat} (hy : 0 < y) (h : y < x) : y * (x % y) * 2 ≤ x * y := by
  have h1 : x % y + y ≤ x := by
    have h2 := Nat.div_add_mod x y
    have h3 : 1 ≤ x / y := (Nat.one_le_div_iff hy).mpr (Nat.le_of_lt h)
    have h4 : y * 1 ≤ y * (x / y) := Nat.mul_le_mul_left _ h3
    omega
  have h5 := Nat.mod_lt x hy
  have h6 : (x % y) * 2 ≤ x := by omega
  calc y * (x % y) * 2 = y * ((x % y) * 2) := Nat.mul_assoc _ _ _
    _ ≤ y * x := Nat.mul_le_mul_left _ h6
    _ = x * y := Nat.mul_comm _ _
/-- how far a Euclid that has made i turns is -/
def EuS (i x y : Nat) : Prop := y = 0 ∨ (y < x ∧ x * y * 2 ^ i ≤ 2 ^ 17810) ∨ (i = 0 ∧ x * y ≤ 2 ^ 17805 ∧ y ≤ 2 ^ 8902)
theorem eu_step {i x y : Nat} (h : EuS i x y) (hy : y ≠ 0) : EuS (i + 1) y (x % y) := by
  have hp : 0 < y := Nat.pos_of_ne_zero hy
  have hm := Nat.mod_lt x hp
  rcases h with h | ⟨h1, h2⟩ | ⟨rfl, h1, h2⟩
  · exact (hy h).elim
  · refine .inr (.inl ⟨hm, ?_⟩)
    have := euclid_half hp h1
    calc y * (x % y) * 2 ^ (i + 1) = y * (x % y) * 2 * 2 ^ i := by rw [Nat.pow_succ, Nat.mul_comm (2 ^ i) 2, Nat.mul_assoc (y * (x % y)) 2]
      _ ≤ x * y * 2 ^ i := Nat.mul_le_mul_right _ this
      _ ≤ 2 ^ 17810 := h2
  · refine .inr (.inl ⟨hm, ?_⟩)
    have h3 : y * (x % y) ≤ 2 ^ 8902 * 2 ^ 8902 := Nat.mul_le_mul h2 (Nat.le_trans (Nat.le_of_lt hm) h2)
    rw [← Nat.pow_add] at h3
    calc y * (x % y) * 2 ^ (0 + 1) ≤ 2 ^ (8902 + 8902) * 2 ^ (0 + 1) := Nat.mul_le_mul_right _ h3
      _ = 2 ^ (8902 + 8902 + (0 + 1)) := (Nat.pow_add _ _ _).symm
      _ ≤ 2 ^ 17810 := Nat.pow_le_pow_right (by decide) (by decide)
theorem eu_end {i x y : Nat} (h : EuS i x y) (hi : 17810 < i) : y = 0 := by
  rcases h with h | ⟨h1, h2⟩ | ⟨h1, _⟩
  · exact h
  · cases y with
    | zero => rfl
    | succ y =>
      have h3 : 1 ≤ x * (y + 1) := Nat.mul_pos (by omega) (by omega)
      have h4 : 2 ^ i ≤ x * (y + 1) * 2 ^ i := Nat.le_mul_of_pos_left _ h3
      have h5 : 2 ^ 17810 < 2 ^ i := Nat.pow_lt_pow_right (by decide) hi
      omega
  · omega
theorem wp_l_low : WpD 5 2 d_l_low pre_l_low post_l_low := by
  rintro as ⟨a, b, hb, ha, hbb, rfl⟩
  refine ⟨⟨rfl, by decide, by simp [Sl.pure]⟩, ?_⟩
  have out : post_l_low [.im (.int a), .im (.int b)] (fr ((a : Rat) / (b : Rat))) := fun a' b' _ e => by
    obtain ⟨e1, e2⟩ := cons_inj e
    obtain ⟨e3, _⟩ := cons_inj e2
    have e4 := im_inj e1
    have e5 := im_inj e3
    injection e4 with e4
    injection e5 with e5
    rw [e4, e5]
  rw [fr_div a b hb] at out
  generalize post_l_low [.im (.int a), .im (.int b)] = post at out ⊢
  show d_l_low _ [.im (.int a), .im (.int b), .e, .e, .e]
  obtain ⟨hg, hgb⟩ := gcd_lt (a := a) hb hbb
  obtain ⟨b', rfl⟩ := Int.eq_ofNat_of_zero_le (Int.le_of_lt hb)
  have e1 : (if a < 0 then -a else a) = ((a.natAbs : Nat) : Int) := by split <;> omega
  refine ⟨trivial, trivial, _, _, rfl, ?_⟩
  simp only [dNext, dSeq]
  have fin : ∀ (x : Nat) (s : Sl), x = Nat.gcd a.natAbs (b' : Int).natAbs → dRet (dTup (dCons (dBinV oDiv 0 (dVar 2)) (dCons (dBinV oDiv 1 (dVar 2)) dNil))) { nx := fun x => False, rt := fun s x => ∃ r, s = Sl.im r ∧ post r } [.im (.int a), .im (.int (b' : Nat)), .im (.int (x : Nat)), .im (.int 0), s] := fun x s ex => by
    subst ex
    exact ⟨divW hg hgb (by decide) (by decide), trivial, divW hg hgb (by decide) (by decide), trivial, _, rfl, by show 2 ≤ sizeLine; decide, trivial, _, rfl, out⟩
  refine for_of (intsD 100000) [.im (.int a), .im (.int (b' : Nat)), .im (.int ((a.natAbs : Nat) : Int)), .im (.int (b' : Nat)), .e] (fun P h => ?_) (fun i δ' => ∃ (x y : Nat) (s : Sl), δ' = [.im (.int a), .im (.int (b' : Nat)), .im (.int (x : Nat)), .im (.int (y : Nat)), s] ∧ Nat.gcd x y = Nat.gcd a.natAbs (b' : Int).natAbs ∧ EuS i x y) ⟨a.natAbs, b', _, rfl, rfl, .inr (.inr ⟨rfl, ?_, ?_⟩)⟩ ?_ ?_
  · refine ⟨100000, rfl, by decide, by decide, ?_⟩
    rw [← e1] at h
    exact h
  · have h1 : a.natAbs < 2 ^ 8900 := ha
    have h2 : (b' : Int).natAbs < 2 ^ 8900 := hbb
    rw [Int.natAbs_natCast] at h2
    have h3 := Nat.mul_le_mul (Nat.le_of_lt h1) (Nat.le_of_lt h2)
    rw [← Nat.pow_add] at h3
    exact Nat.le_trans h3 (Nat.pow_le_pow_right (by decide) (by decide))
  · have h2 : (b' : Int).natAbs < 2 ^ 8900 := hbb
    rw [Int.natAbs_natCast] at h2
    exact Nat.le_trans (Nat.le_of_lt h2) (Nat.pow_le_pow_right (by decide) (by decide))
  · rintro i z δ' hz ⟨x, y, s, rfl, hxy, he⟩
    refine ⟨_, rfl, ?_⟩
    by_cases hy : y = 0
    · subst hy
      refine ift (decide_eq_true rfl) ?_
      exact fin x _ (by rw [← hxy, Nat.gcd_zero_right])
    · refine iff0 (decide_eq_false (by omega)) ?_
      refine ⟨trivial, _, rfl, by omega, trivial, _, _, rfl, y, x % y, _, rfl, by rw [gcd_step]; exact hxy, eu_step he hy⟩
  · rintro δ' ⟨x, y, s, rfl, hxy, he⟩
    have hy := eu_end he (by rw [intsD_len]; decide)
    subst hy
    exact fin x s (by rw [← hxy, Nat.gcd_zero_right])
theorem wp_l_add : WpD 2 2 d_l_add pre_l_add post_l_add := by
  rintro as ⟨p, q, hp, hq, rfl⟩
  refine ⟨⟨rfl, by decide, by simp [Sl.pure]⟩, ?_⟩
  have out : post_l_add [.im (fr p), .im (fr q)] (fr (p + q)) := fun p' q' e => by
    obtain ⟨rfl, rfl⟩ := two_fr e
    rfl
  generalize post_l_add [.im (fr p), .im (fr q)] = post at out ⊢
  show d_l_add _ [.im (fr p), .im (fr q)]
  refine ⟨_, rfl, _, rfl, _, rfl, mulB hp.1 hq.d, _, rfl, _, rfl, _, rfl, _, rfl, mulB hq.1 hp.d, trivial, _, rfl, _, rfl, _, rfl, mulB hp.d hq.d, trivial, ⟨_, _, dens p q, ((hp.1.mul hq.d).add (hq.1.mul hp.d)).mono (by decide), (hp.d.mul hq.d).mono (by decide), rfl⟩, fun r hr => ?_⟩
  have := hr _ _ (dens p q) rfl
  rw [num_add] at this
  subst this
  exact ⟨trivial, _, rfl, out⟩
theorem num_fold (m : Int) (q : Rat) : ((m * q.num : Int) : Rat) / ((q.den : Int) : Rat) = (m : Rat) * q := by
  have hq := cast_ne (Int.ne_of_gt (den_pos q))
  have e2 := q_eq q
  rw [Rat.intCast_mul]
  generalize (q.num : Rat) = b at *
  generalize ((q.den : Int) : Rat) = d at *
  subst e2
  grind
theorem wp_l_fold : WpD 2 2 d_l_fold pre_l_fold post_l_fold := by
  rintro as ⟨m, q, hm, hq, rfl⟩
  refine ⟨⟨rfl, by decide, by simp [Sl.pure]⟩, ?_⟩
  have out : post_l_fold [.im (.int m), .im (fr q)] (fr ((m : Rat) * q)) := fun m' q' e => by
    obtain ⟨e1, e2⟩ := cons_inj e
    obtain ⟨e3, _⟩ := cons_inj e2
    have e4 := im_inj e1
    injection e4 with e4
    rw [e4, fr_inj (im_inj e3)]
  generalize post_l_fold [.im (.int m), .im (fr q)] = post at out ⊢
  show d_l_fold _ [.im (.int m), .im (fr q)]
  refine ⟨_, rfl, mulB hm hq.1, trivial, _, rfl, trivial, ⟨_, _, den_pos q, (hm.mul hq.1).mono (by decide), hq.d.mono (by decide), rfl⟩, fun r hr => ?_⟩
  have := hr _ _ (den_pos q) rfl
  rw [num_fold] at this
  subst this
  exact ⟨trivial, _, rfl, out⟩
end Dl

end
section
set_option Elab.async false
set_option linter.all false
set_option maxRecDepth 100000
set_option maxHeartbeats 4000000
set_option autoImplicit false
/-! Walks over data: sums of products, days. -/
namespace Dl
open PySem
/-! ### one denominator -/
theorem natAbs_div_le (a : Int) (g : Nat) : (a / (g : Int)).natAbs ≤ a.natAbs := by
  rcases Nat.eq_zero_or_pos g with h | h
  · subst h; simp
  · exact Int.natAbs_ediv_le_natAbs a g
theorem frM_bd {M b c : Nat} {q : Rat} (hM : 0 < M) (hc : M < 2 ^ c) (h : FrM M b q) (hb : b ≤ 4400) (hcc : c ≤ 4400) : Bd 4400 q := by
  obtain ⟨k, rfl, hk⟩ := h
  have e : (k : Rat) / (M : Rat) = mkRat k M := by rw [Rat.mkRat_eq_div]
  have hn : M ≠ 0 := by omega
  rw [e]
  refine ⟨?_, ?_⟩
  · unfold Bz
    rw [Rat.num_mkRat, if_neg hn]
    exact Nat.lt_of_le_of_lt (natAbs_div_le _ _) (hk.mono hb)
  · rw [Rat.den_mkRat, if_neg hn]
    exact Nat.lt_of_le_of_lt (Nat.div_le_self _ _) (Nat.lt_of_lt_of_le hc (Nat.pow_le_pow_right (by decide) hcc))
theorem FrM.mono {M a b : Nat} {q : Rat} (h : FrM M a q) (hab : a ≤ b) : FrM M b q := by
  obtain ⟨k, e, hk⟩ := h
  exact ⟨k, e, hk.mono hab⟩
theorem FrM.add {M b : Nat} {p q : Rat} (hp : FrM M b p) (hq : FrM M b q) : FrM M (b + 1) (p + q) := by
  obtain ⟨k, rfl, hk⟩ := hp
  obtain ⟨l, rfl, hl⟩ := hq
  refine ⟨k + l, ?_, hk.add hl⟩
  rw [Rat.intCast_add]
  grind
theorem FrM.mul {M b c : Nat} {z : Int} {q : Rat} (hz : Bz c z) (hq : FrM M b q) : FrM M (c + b) ((z : Rat) * q) := by
  obtain ⟨k, rfl, hk⟩ := hq
  refine ⟨z * k, ?_, hz.mul hk⟩
  rw [Rat.intCast_mul]
  grind
theorem FrM.zero (M b : Nat) : FrM M b 0 := ⟨0, by simp [Rat.div_def], by unfold Bz; exact Nat.pow_pos (by decide)⟩
theorem fr_int (z : Int) : fr (z : Rat) = .tuple [.int z, .int 1] := rfl
theorem bd_int {b : Nat} {z : Int} (h : Bz b z) (hb : 1 ≤ b) (h4 : b ≤ 4400) : Bd 4400 (z : Rat) := ⟨h.mono h4, by show 1 < 2 ^ 4400; exact Nat.one_lt_two_pow (by decide)⟩
/-! ### sums -/
theorem sum_snoc (x : Rat) : ∀ xs : List Rat, (xs ++ [x]).sum = xs.sum + x
  | [] => by simp [Rat.add_zero, Rat.zero_add]
  | y :: ys => by rw [List.cons_append, List.sum_cons, sum_snoc x ys, List.sum_cons, Rat.add_assoc]
theorem dot_snoc {xs ys : List Rat} {i : Nat} {x y : Rat} (hx : xs[i]? = some x) (hy : ys[i]? = some y) : dotR (xs.take (i + 1)) (ys.take (i + 1)) = dotR (xs.take i) (ys.take i) + x * y := by
  have lx := (List.getElem?_eq_some_iff.mp hx).1
  have ly := (List.getElem?_eq_some_iff.mp hy).1
  unfold dotR
  rw [take_succ_get hx, take_succ_get hy, List.zipWith_append (by rw [List.length_take, List.length_take]; omega)]
  exact sum_snoc _ _
theorem toR_get {xs : List Int} {i : Nat} {z : Int} (h : xs[i]? = some z) : (toR xs)[i]? = some (z : Rat) := by
  unfold toR
  rw [List.getElem?_map, h]
  rfl
theorem toR_len (xs : List Int) : (toR xs).length = xs.length := List.length_map _
theorem dot_frM {M b c : Nat} {xs : List Int} {ys : List Rat} (hx : ∀ z ∈ xs, Bz c z) (hy : ∀ q ∈ ys, FrM M b q) (hl : xs.length = ys.length) : ∀ i, i ≤ xs.length → FrM M (c + b + i) (dotR ((toR xs).take i) (ys.take i))
  | 0, _ => FrM.zero _ _
  | i + 1, hi => by
    have hx' := of_lt (0 : Int) (show i < xs.length by omega)
    have hy' := of_lt (0 : Rat) (show i < ys.length by omega)
    rw [dot_snoc (toR_get hx') hy']
    exact (dot_frM hx hy hl i (by omega)).add ((FrM.mul (hx _ (List.mem_of_getElem? hx')) (hy _ (List.mem_of_getElem? hy'))).mono (by omega))
theorem zipD_get {xs ys : List D} {i : Nat} {x : D} (h : (zipD xs ys)[i]? = some x) : ∃ a b, xs[i]? = some a ∧ ys[i]? = some b ∧ x = .tuple [a, b] := by
  unfold zipD at h
  obtain ⟨⟨a, b⟩, h1, h2⟩ := map_out h
  rw [List.getElem?_zip_eq_some] at h1
  exact ⟨a, b, h1.1, h1.2, h2⟩
theorem zipD_len (xs ys : List D) : (zipD xs ys).length = min xs.length ys.length := by
  unfold zipD
  rw [List.length_map, List.length_zip]
theorem frs_seq {d : D} {s : List Rat} (h : isFrs d s) : seqD d = some (s.map fr) := by
  rcases h with rfl | rfl <;> rfl
theorem isFrs_inj {d : D} {s t : List Rat} (h : isFrs d s) (g : isFrs d t) : s = t := map_inj (fun _ _ e => fr_inj e) (Option.some.inj ((frs_seq h).symm.trans (frs_seq g)))
theorem wp_product_sum : WpD 5 2 d_product_sum pre_product_sum post_product_sum := by
  rintro as ⟨x, y, xs, ys, M, hx, hy, hl, h5, hM, hMb, bx, by', rfl⟩
  refine ⟨⟨rfl, by decide, by simp [Sl.pure]⟩, ?_⟩
  have out : post_product_sum [.im x, .im y] (fr (dotR (toR xs) ys)) := fun x' y' xs' ys' hx' hy' e => by
    obtain ⟨e1, e2⟩ := cons_inj e
    obtain ⟨e3, _⟩ := cons_inj e2
    have e4 := im_inj e1
    have e5 := im_inj e3
    subst e4 e5
    rw [isFrs_inj hx hx', isFrs_inj hy hy']
  generalize post_product_sum [.im x, .im y] = post at out ⊢
  show d_product_sum _ [.im x, .im y, .e, .e, .e]
  refine ⟨trivial, ?_⟩
  simp only [dNext, dSeq]
  refine for_of (zipD ((toR xs).map fr) (ys.map fr)) [.im x, .im y, .im (fr 0), .e, .e] (fun P h => ⟨x, _, rfl, frs_seq hx, y, _, rfl, frs_seq hy, h⟩) (fun i δ' => ∃ s1 s2, δ' = [.im x, .im y, .im (fr (dotR ((toR xs).take i) (ys.take i))), s1, s2]) ⟨_, _, rfl⟩ ?_ ?_
  · rintro i z δ' hz ⟨s1, s2, rfl⟩
    obtain ⟨a, b, ha, hb, rfl⟩ := zipD_get hz
    obtain ⟨p, hp, rfl⟩ := map_out ha
    obtain ⟨q, hq, rfl⟩ := map_out hb
    unfold toR at hp
    obtain ⟨k, hk, rfl⟩ := map_out hp
    have hi : i < xs.length := (List.getElem?_eq_some_iff.mp hk).1
    have bk := bx k (List.mem_of_getElem? hk)
    have bq := by' q (List.mem_of_getElem? hq)
    refine ⟨rfl, rfl, trivial, trivial, trivial, ⟨_, _, bd_int bk (by decide) (by decide), frM_bd hM hMb bq (by decide) (by decide), rfl⟩, fun r hr => ?_⟩
    have hr := hr _ _ rfl
    subst hr
    refine ⟨trivial, ⟨_, _, frM_bd hM hMb (dot_frM bx by' hl i (by omega)) (by omega) (by decide), frM_bd hM hMb (FrM.mul bk bq) (by decide) (by decide), rfl⟩, fun r hr => ?_⟩
    have hr := hr _ _ rfl
    subst hr
    rw [← dot_snoc (toR_get hk) hq]
    exact ⟨trivial, _, _, rfl⟩
  · rintro δ' ⟨s1, s2, rfl⟩
    rw [zipD_len, List.length_map, List.length_map, toR_len, hl, Nat.min_self]
    rw [List.take_of_length_le (by rw [toR_len]; omega), List.take_of_length_le (Nat.le_refl _)]
    exact ⟨trivial, _, rfl, out⟩
theorem range_zip (p : Rat) : ∀ (xs ys : List Rat), xs.length = ys.length → ((List.range xs.length).map fun i => fr (xs.getD i 0 - p * ys.getD i 0)) = (List.zipWith (fun x y => x - p * y) xs ys).map fr
  | [], [], _ => rfl
  | x :: xs, y :: ys, h => by
    rw [List.length_cons, List.range_succ_eq_map, List.map_cons, List.map_map, List.zipWith_cons_cons, List.map_cons, ← range_zip p xs ys (by simpa using h)]
    rfl
  | [], _ :: _, h => by cases h
  | _ :: _, [], h => by cases h
theorem wp_less_part : WpD 5 3 d_less_part pre_less_part post_less_part := by
  rintro as ⟨xs, p, ys, hl, h5, hp, hx, hy, rfl⟩
  refine ⟨⟨rfl, by decide, by simp [Sl.pure]⟩, ?_⟩
  have out : post_less_part [.im (frsL xs), .im (fr p), .im (frsL ys)] (frsL (List.zipWith (fun x y => x - p * y) xs ys)) := fun xs' p' ys' e => by
    obtain ⟨e1, e2⟩ := cons_inj e
    obtain ⟨e3, e4⟩ := cons_inj e2
    obtain ⟨e5, _⟩ := cons_inj e4
    rw [frsL_inj (im_inj e1), fr_inj (im_inj e3), frsL_inj (im_inj e5)]
  generalize post_less_part [.im (frsL xs), .im (fr p), .im (frsL ys)] = post at out ⊢
  show d_less_part _ [.im (frsL xs), .im (fr p), .im (frsL ys), .e, .e]
  have zl : (zipD (xs.map fr) (ys.map fr)).length = xs.length := by rw [zipD_len, List.length_map, List.length_map, hl, Nat.min_self]
  refine lc_idx (zipD (xs.map fr) (ys.map fr)) [.im (frsL xs), .im (fr p), .im (frsL ys), .e, .e] (fun i => fr (xs.getD i 0 - p * ys.getD i 0)) (fun P h => ⟨_, _, rfl, rfl, _, _, rfl, rfl, h⟩) (by rw [zl]; exact small_le (by omega)) (fun i z hz R hR => ?_) ?_
  · obtain ⟨a, b, ha, hb, rfl⟩ := zipD_get hz
    obtain ⟨x, hxx, rfl⟩ := map_out ha
    obtain ⟨y, hyy, rfl⟩ := map_out hb
    rw [getD_of hxx, getD_of hyy] at hR
    obtain ⟨b1, b2⟩ := hy y (List.mem_of_getElem? hyy)
    refine ⟨rfl, rfl, trivial, trivial, trivial, ⟨_, _, hp, b1, rfl⟩, fun r hr => ?_⟩
    have hr := hr _ _ rfl
    subst hr
    refine ⟨trivial, ⟨_, _, hx x (List.mem_of_getElem? hxx), b2, rfl⟩, fun r hr => ?_⟩
    have hr := hr _ _ rfl
    subst hr
    exact ⟨_, rfl, rfl, hR⟩
  · rw [zl, range_zip p xs ys hl]
    exact ⟨trivial, _, rfl, out⟩
theorem wp_wrong_fraction : WpD 4 2 d_wrong_fraction pre_wrong_fraction post_wrong_fraction := by
  rintro as ⟨s, h5, hs, rfl⟩
  refine ⟨⟨rfl, by decide, by simp [Sl.pure]⟩, ?_⟩
  show d_wrong_fraction _ [.im (frsD s), .im (.int (s.length : Nat)), .e, .e]
  have hl : (s.map fr).length = s.length := List.length_map _
  refine ⟨true, rfl, _, rfl, _, rfl, ?_⟩
  refine iff0 (by rw [hl]; simp) ?_
  simp only [dNext, dSeq]
  refine for_of (enumD 0 (s.map fr)) [.im (frsD s), .im (.int (s.length : Nat)), .e, .e] (fun P h => h) (fun i δ' => ∃ s1 s2, δ' = [.im (frsD s), .im (.int (s.length : Nat)), s1, s2]) ⟨_, _, rfl⟩ ?_ ?_
  · rintro i x δ' hx ⟨s1, s2, rfl⟩
    obtain ⟨d, hd, rfl⟩ := enum_out hx
    obtain ⟨z, hz, rfl⟩ := map_out hd
    refine ⟨rfl, rfl, trivial, ⟨z, hs z (List.mem_of_getElem? hz), rfl⟩, fun r h => ?_⟩
    subst h
    exact ⟨true, rfl, _, _, rfl⟩
  · rintro δ' ⟨s1, s2, rfl⟩
    exact ⟨[], rfl, Nat.zero_le _, trivial, _, rfl, rfl⟩
end Dl

end
section
set_option Elab.async false
set_option linter.all false
set_option maxRecDepth 100000
set_option maxHeartbeats 4000000
set_option autoImplicit false
/-! Walks over data: days. -/
namespace Dl
open PySem
theorem Mday_pos : 0 < Mday := by decide
theorem Mday_lt : Mday < 2 ^ 64 := by decide
theorem map_fr_set (f : List Rat) (i : Nat) (q : Rat) : (f.map fr).set i (fr q) = (f.set i q).map fr := by rw [List.map_set]
def dayGo (f : List Rat) (ips : List (Nat × Rat)) : List Rat := ips.foldl (fun f ip => f.set ip.1 (f.getD ip.1 0 + ip.2)) f
theorem dayGo_len : ∀ (ips : List (Nat × Rat)) (f : List Rat), (dayGo f ips).length = f.length
  | [], _ => rfl
  | ip :: ips, f => by
    show (dayGo (f.set ip.1 (f.getD ip.1 0 + ip.2)) ips).length = _
    rw [dayGo_len ips, List.length_set]
theorem dayGo_snoc (f : List Rat) {ips : List (Nat × Rat)} {i : Nat} {ip : Nat × Rat} (h : ips[i]? = some ip) : dayGo f (ips.take (i + 1)) = (dayGo f (ips.take i)).set ip.1 ((dayGo f (ips.take i)).getD ip.1 0 + ip.2) := by
  unfold dayGo
  rw [take_succ_get h, List.foldl_append]
  rfl
theorem dayGo_frM {M : Nat} : ∀ (ips : List (Nat × Rat)) (f : List Rat) (b : Nat), (∀ q ∈ f, FrM M b q) → (∀ ip ∈ ips, FrM M b ip.2) → ∀ q ∈ dayGo f ips, FrM M (b + ips.length) q
  | [], f, b, hf, _ => hf
  | ip :: ips, f, b, hf, hp => by
    have h := dayGo_frM (M := M) ips (f.set ip.1 (f.getD ip.1 0 + ip.2)) (b + 1) (fun q hq => ?_) (fun jp hj => (hp jp (List.mem_cons_of_mem _ hj)).mono (by omega))
    · intro q hq
      rw [List.length_cons]
      exact (h q hq).mono (by omega)
    · rcases List.mem_or_eq_of_mem_set hq with z | z
      · exact (hf q z).mono (by omega)
      · rw [z]
        refine FrM.add ?_ (hp ip List.mem_cons_self)
        by_cases hi : ip.1 < f.length
        · exact hf _ (List.mem_of_getElem? (of_lt (0 : Rat) hi))
        · rw [List.getD_eq_getElem?_getD, List.getElem?_eq_none (by omega)]
          exact FrM.zero _ _
def dots (t : List (List Int)) (s : List Rat) : List Rat := t.map fun r => dotR (toR r) s
theorem dayR_eq (t : List (List Int)) (sp : List Nat) (s p : List Rat) : dayR t sp s p = dayGo (dots t s) (sp.zip p) := rfl
theorem dots_frM {n : Nat} {t : List (List Int)} {s : List Rat} {b : Nat} (hn : n ≤ 5) (hs : Sq n t) (hT : TabB 3 t) (hl : s.length = n) (hS : StateB b s) : ∀ q ∈ dots t s, FrM Mday (b + 8) q := fun q hq => by
  obtain ⟨r, hr, rfl⟩ := List.mem_map.mp hq
  have hrl := hs.2 r hr
  have h := dot_frM (M := Mday) (b := b) (c := 3) (hT r hr) hS (hrl.trans hl.symm) r.length (Nat.le_refl _)
  rw [List.take_of_length_le (by rw [toR_len]; omega), List.take_of_length_le (by omega)] at h
  exact h.mono (by omega)
theorem day_bound {n : Nat} {t : List (List Int)} {sp : List Nat} {s p : List Rat} {b : Nat} (h : dayPre n t sp s p) (hb : 61 ≤ b) (hS : StateB b s) : StateB (b + 13) (dayR t sp s p) := fun q hq => by
  obtain ⟨hn, hs, hT, nd, hsl, hsp, hl, hpl, hP⟩ := h
  rw [dayR_eq] at hq
  have := dayGo_frM (M := Mday) (sp.zip p) (dots t s) (b + 8) (dots_frM hn hs hT hl hS) (fun ip hip => (hP ip.2 (List.of_mem_zip hip).2).mono (by omega)) q hq
  exact this.mono (by rw [List.length_zip]; omega)
theorem dayR_len {n : Nat} {t : List (List Int)} {sp : List Nat} {s p : List Rat} (hs : Sq n t) : (dayR t sp s p).length = n := by
  rw [dayR_eq, dayGo_len]
  unfold dots
  rw [List.length_map, hs.1]
theorem spots_p {sp : List Nat} {p : List Rat} {i : Nat} {a b : D} (ha : (sp.map fun i : Nat => PyData.int (i : Int))[i]? = some a) (hb : (p.map fr)[i]? = some b) : ∃ k q, sp[i]? = some k ∧ p[i]? = some q ∧ a = .int (k : Nat) ∧ b = fr q ∧ (sp.zip p)[i]? = some (k, q) := by
  obtain ⟨k, hk, rfl⟩ := map_out ha
  obtain ⟨q, hq, rfl⟩ := map_out hb
  exact ⟨k, q, hk, hq, rfl, rfl, List.getElem?_zip_eq_some.mpr ⟨hk, hq⟩⟩
theorem day_inj {t t' : List (List Int)} {sp sp' : List Nat} {s s' p p' : List Rat} (e : [Sl.im (tabD t), .im (spotsD sp), .im (frsD s), .im (frsD p)] = [Sl.im (tabD t'), .im (spotsD sp'), .im (frsD s'), .im (frsD p')]) : t = t' ∧ sp = sp' ∧ s = s' ∧ p = p' := by
  obtain ⟨e1, e2⟩ := cons_inj e
  obtain ⟨e3, e4⟩ := cons_inj e2
  obtain ⟨e5, e6⟩ := cons_inj e4
  obtain ⟨e7, _⟩ := cons_inj e6
  exact ⟨tabD_inj (im_inj e1), spotsD_inj (im_inj e3), frsD_inj (im_inj e5), frsD_inj (im_inj e7)⟩
theorem wp_day_of : WpD 9 4 d_day_of pre_day_of post_day_of := by
  rintro as ⟨n, t, sp, s, p, hpre, hS, rfl⟩
  refine ⟨⟨rfl, by decide, by simp [Sl.pure]⟩, ?_⟩
  have out : post_day_of [.im (tabD t), .im (spotsD sp), .im (frsD s), .im (frsD p)] (frsD (dayR t sp s p)) := fun n' t' sp' s' p' _ e => by
    obtain ⟨rfl, rfl, rfl, rfl⟩ := day_inj e
    rfl
  generalize post_day_of [.im (tabD t), .im (spotsD sp), .im (frsD s), .im (frsD p)] = post at out ⊢
  obtain ⟨hn, hs, hT, nd, hsl, hsp, hl, hpl, hP⟩ := hpre
  show d_day_of _ [.im (tabD t), .im (spotsD sp), .im (frsD s), .im (frsD p), .e, .e, .e, .e, .e]
  have hlt : (t.map rowD).length = t.length := List.length_map _
  refine lc_map (t.map rowD) [.im (tabD t), .im (spotsD sp), .im (frsD s), .im (frsD p), .e, .e, .e, .e, .e] (fun d => match d with | .tuple r => fr (dotR (toR (r.map fun x => match x with | .int z => z | _ => 0)) s) | _ => .none) (fun P h => h) (by rw [hlt, hs.1]; exact small_le (by omega)) (fun x hx R hR => ?_) ?_
  · obtain ⟨r, hr, rfl⟩ := List.mem_map.mp hx
    have hrl := hs.2 r hr
    have er : ((r.map PyData.int).map fun x => match x with | .int z => z | _ => (0 : Int)) = r := by
      rw [List.map_map]
      exact List.map_id'' (fun _ => rfl) r
    have hR' : R (fr (dotR (toR ((r.map PyData.int).map fun x => match x with | .int z => z | _ => (0 : Int))) s)) := hR
    rw [er] at hR'
    refine lc_map (r.map PyData.int) [.im (tabD t), .im (spotsD sp), .im (frsD s), .im (frsD p), .e, .e, .im (rowD r), .e, .e] (fun d => .tuple [d, .int 1]) (fun P h => h) (by rw [List.length_map]; exact small_le (by omega)) (fun y hy R2 hR2 => ?_) ?_
    · obtain ⟨z, hz, rfl⟩ := List.mem_map.mp hy
      exact ⟨trivial, trivial, _, rfl, by show 2 ≤ sizeLine; decide, _, rfl, rfl, hR2⟩
    · have e2 : (r.map PyData.int).map (fun d => PyData.tuple [d, .int 1]) = (toR r).map fr := by
        unfold toR
        rw [List.map_map, List.map_map]
        rfl
      rw [e2]
      refine ⟨trivial, trivial, ⟨_, _, r, s, Mday, .inr rfl, .inl rfl, hrl.trans hl.symm, by omega, Mday_pos, Mday_lt, fun z hz => (hT r hr z hz).mono (by decide), fun q hq => (hS q hq).mono (by decide), rfl⟩, fun v hv => ?_⟩
      have hv := hv _ _ (toR r) s (.inr rfl) (.inl rfl) rfl
      subst hv
      exact ⟨_, rfl, rfl, hR'⟩
  · intro l hlf
    have e3 : (t.map rowD).map (fun d => match d with | .tuple r => fr (dotR (toR (r.map fun x => match x with | .int z => z | _ => 0)) s) | _ => .none) = (dots t s).map fr := by
      unfold dots
      rw [List.map_map, List.map_map]
      refine List.map_congr_left fun r hr => ?_
      show fr (dotR (toR ((r.map PyData.int).map fun x => match x with | .int z => z | _ => (0 : Int))) s) = fr (dotR (toR r) s)
      rw [List.map_map]
      rw [show (r.map ((fun x => match x with | PyData.int z => z | _ => (0 : Int)) ∘ PyData.int)) = r from List.map_id'' (fun _ => rfl) r]
    rw [e3]
    have zl : (sp.zip p).length = sp.length := by rw [List.length_zip]; omega
    simp only [dNext, dSeq]
    refine for_of (zipD (sp.map fun i : Nat => PyData.int (i : Int)) (p.map fr)) [.im (tabD t), .im (spotsD sp), .im (frsD s), .im (frsD p), .own true l ((dots t s).map fr), .e, .e, .e, .e] (fun P h => ⟨_, _, rfl, rfl, _, _, rfl, rfl, h⟩) (fun i δ' => ∃ s1 s2, δ' = [.im (tabD t), .im (spotsD sp), .im (frsD s), .im (frsD p), .own true l ((dayGo (dots t s) ((sp.zip p).take i)).map fr), .e, .e, s1, s2]) ⟨_, _, rfl⟩ ?_ ?_
    · rintro i z δ' hz ⟨s1, s2, rfl⟩
      obtain ⟨a, b, ha, hb, rfl⟩ := zipD_get hz
      obtain ⟨k, q, hk, hq, rfl, rfl, hip⟩ := spots_p ha hb
      have hkn : k < (dayGo (dots t s) ((sp.zip p).take i)).length := by
        rw [dayGo_len]
        unfold dots
        rw [List.length_map, hs.1]
        exact hsp k (List.mem_of_getElem? hk)
      have hg := of_lt (0 : Rat) hkn
      have bf : ∀ q ∈ dayGo (dots t s) ((sp.zip p).take i), FrM Mday (1000 + 8 + ((sp.zip p).take i).length) q := dayGo_frM _ _ _ (dots_frM hn hs hT hl hS) fun ip hip => (hP ip.2 (List.of_mem_zip (List.mem_of_mem_take hip)).2).mono (by omega)
      have htl : ((sp.zip p).take i).length ≤ 5 := by rw [List.length_take]; omega
      refine ⟨rfl, rfl, ?_⟩
      refine ⟨fr ((dayGo (dots t s) ((sp.zip p).take i)).getD k 0), atI_nat ?_, trivial, trivial, ⟨_, _, frM_bd Mday_pos Mday_lt (bf _ (List.mem_of_getElem? hg)) (by omega) (by decide), frM_bd Mday_pos Mday_lt (hP q (List.mem_of_getElem? hq)) (by decide) (by decide), rfl⟩, fun r hr => ?_⟩
      · rw [List.getElem?_map, hg]; rfl
      · have hr := hr _ _ rfl
        subst hr
        refine ⟨trivial, k, ixN_nat (by rw [List.length_map]; exact hkn), .im (.int (k : Nat)), .im (fr q), ?_⟩
        rw [dayGo_snoc _ hip, ← map_fr_set]
        rfl
    · rintro δ' ⟨s1, s2, rfl⟩
      rw [zipD_len, List.length_map, List.length_map, ← hpl, Nat.min_self, List.take_of_length_le (by omega)]
      exact ⟨trivial, _, rfl, out⟩
theorem run_snoc (t : List (List Int)) (sp : List Nat) (s : List Rat) {ps : List (List Rat)} {i : Nat} {p : List Rat} (h : ps[i]? = some p) : runR t sp s (ps.take (i + 1)) = dayR t sp (runR t sp s (ps.take i)) p := by
  unfold runR
  rw [take_succ_get h, List.foldl_append]
  rfl
theorem run_bound {n : Nat} {t : List (List Int)} {sp : List Nat} {s : List Rat} {ps : List (List Rat)} (h : runPre n t sp s ps) : ∀ i, i ≤ ps.length → (runR t sp s (ps.take i)).length = n ∧ StateB (61 + 13 * i) (runR t sp s (ps.take i))
  | 0, _ => ⟨h.2.2.2.2.2.2.1, h.2.2.2.2.2.2.2.1⟩
  | i + 1, hi => by
    obtain ⟨ih1, ih2⟩ := run_bound h i (by omega)
    obtain ⟨hn, hs, hT, nd, hsl, hsp, hl, hS, h20, hP⟩ := h
    have hp := of_lt ([] : List Rat) (show i < ps.length by omega)
    have hpm := hP _ (List.mem_of_getElem? hp)
    have hT' : TabB 3 t := hT.elim (fun e => by rw [e] at hi; exact absurd hi (by simp)) id
    rw [run_snoc t sp s hp]
    exact ⟨dayR_len hs, fun q hq => (day_bound ⟨hn, hs, hT', nd, hsl, hsp, ih1, hpm.1, hpm.2⟩ (by omega) ih2 q hq).mono (by omega)⟩
theorem run_inj {t t' : List (List Int)} {sp sp' : List Nat} {s s' : List Rat} {ps ps' : List (List Rat)} (e : [Sl.im (tabD t), .im (spotsD sp), .im (frsD s), .im (.tuple (ps.map frsD))] = [Sl.im (tabD t'), .im (spotsD sp'), .im (frsD s'), .im (.tuple (ps'.map frsD))]) : t = t' ∧ sp = sp' ∧ s = s' ∧ ps = ps' := by
  obtain ⟨e1, e2⟩ := cons_inj e
  obtain ⟨e3, e4⟩ := cons_inj e2
  obtain ⟨e5, e6⟩ := cons_inj e4
  obtain ⟨e7, _⟩ := cons_inj e6
  exact ⟨tabD_inj (im_inj e1), spotsD_inj (im_inj e3), frsD_inj (im_inj e5), map_inj (fun _ _ e => frsD_inj e) (tup_inj (im_inj e7))⟩
theorem wp_state_after : WpD 5 4 d_state_after pre_state_after post_state_after := by
  rintro as ⟨n, t, sp, s, ps, hpre, rfl⟩
  refine ⟨⟨rfl, by decide, by simp [Sl.pure]⟩, ?_⟩
  have out : post_state_after [.im (tabD t), .im (spotsD sp), .im (frsD s), .im (.tuple (ps.map frsD))] (frsD (runR t sp s ps)) := fun n' t' sp' s' ps' _ e => by
    obtain ⟨rfl, rfl, rfl, rfl⟩ := run_inj e
    rfl
  generalize post_state_after [.im (tabD t), .im (spotsD sp), .im (frsD s), .im (.tuple (ps.map frsD))] = post at out ⊢
  have hb := run_bound hpre
  obtain ⟨hn, hs, hT, nd, hsl, hsp, hl, hS, h20, hP⟩ := hpre
  show d_state_after _ [.im (tabD t), .im (spotsD sp), .im (frsD s), .im (.tuple (ps.map frsD)), .e]
  refine for_of (ps.map frsD) [.im (tabD t), .im (spotsD sp), .im (frsD s), .im (.tuple (ps.map frsD)), .e] (fun P h => h) (fun i δ' => ∃ s1, δ' = [.im (tabD t), .im (spotsD sp), .im (frsD (runR t sp s (ps.take i))), .im (.tuple (ps.map frsD)), s1]) ⟨_, rfl⟩ ?_ ?_
  · rintro i z δ' hz ⟨s1, rfl⟩
    obtain ⟨p, hp, rfl⟩ := map_out hz
    have hi : i < ps.length := (List.getElem?_eq_some_iff.mp hp).1
    obtain ⟨b1, b2⟩ := hb i (by omega)
    have hpm := hP _ (List.mem_of_getElem? hp)
    have hT' : TabB 3 t := hT.elim (fun e => by rw [e] at hi; exact absurd hi (by simp)) id
    have hd : dayPre n t sp (runR t sp s (ps.take i)) p := ⟨hn, hs, hT', nd, hsl, hsp, b1, hpm.1, hpm.2⟩
    refine ⟨trivial, trivial, trivial, trivial, ⟨n, t, sp, _, p, hd, fun q hq => (b2 q hq).mono (by omega), rfl⟩, fun r hr => ?_⟩
    have hr := hr _ _ _ _ _ hd rfl
    rw [← run_snoc t sp s hp] at hr
    subst hr
    exact ⟨trivial, _, rfl⟩
  · rintro δ' ⟨s1, rfl⟩
    rw [List.length_map, List.take_of_length_le (Nat.le_refl _)]
    exact ⟨trivial, _, rfl, out⟩
end Dl

end
section
set_option Elab.async false
set_option linter.all false
set_option maxRecDepth 100000
set_option maxHeartbeats 4000000
set_option autoImplicit false
/-! Walks over data: the law's own days. -/
namespace Dl
open PySem
theorem dots_snoc {t : List (List Int)} (s : List Rat) {i : Nat} {r : List Int} (h : t[i]? = some r) : (dots (t.take (i + 1)) s).map fr = (dots (t.take i) s).map fr ++ [fr (dotR (toR r) s)] := by
  unfold dots
  rw [take_succ_get h, List.map_append, List.map_append]
  rfl
theorem small_lt {n : Nat} (h : n ≤ 1000) : n < sizeLine := Nat.lt_of_le_of_lt h (by decide)
theorem wp_l_after_day : WpD 8 4 d_l_after_day pre_l_after_day post_l_after_day := by
  rintro as ⟨n, t, sp, s, p, hpre, hS, rfl⟩
  refine ⟨⟨rfl, by decide, by simp [Sl.pure]⟩, ?_⟩
  have out : post_l_after_day [.im (tabD t), .im (spotsD sp), .im (frsD s), .im (frsD p)] (frsD (dayR t sp s p)) := fun n' t' sp' s' p' _ e => by
    obtain ⟨rfl, rfl, rfl, rfl⟩ := day_inj e
    rfl
  generalize post_l_after_day [.im (tabD t), .im (spotsD sp), .im (frsD s), .im (frsD p)] = post at out ⊢
  obtain ⟨hn, hs, hT, nd, hsl, hsp, hl, hpl, hP⟩ := hpre
  show d_l_after_day _ [.im (tabD t), .im (spotsD sp), .im (frsD s), .im (frsD p), .e, .e, .e, .e]
  have hlt : (t.map rowD).length = t.length := List.length_map _
  refine ⟨[], rfl, Nat.zero_le _, fun l _ => ?_⟩
  simp only [dNext, dSeq]
  refine for_of (t.map rowD) [.im (tabD t), .im (spotsD sp), .im (frsD s), .im (frsD p), .own true l [], .e, .e, .e] (fun P h => h) (fun i δ' => ∃ s5 s6 s7, δ' = [.im (tabD t), .im (spotsD sp), .im (frsD s), .im (frsD p), .own true l ((dots (t.take i) s).map fr), s5, s6, s7]) ⟨_, _, _, rfl⟩ ?_ ?_
  · rintro i z δ' hz ⟨s5, s6, s7, rfl⟩
    obtain ⟨r, hr, rfl⟩ := map_out hz
    have hrl := hs.2 r (List.mem_of_getElem? hr)
    have hbT := hT r (List.mem_of_getElem? hr)
    refine ⟨trivial, trivial, _, rfl, by show 2 ≤ sizeLine; decide, trivial, ?_⟩
    simp only [dNext, dSeq]
    have hll : (r.map PyData.int).length = r.length := List.length_map _
    refine for_of (intsD r.length) [.im (tabD t), .im (spotsD sp), .im (frsD s), .im (frsD p), .own true l ((dots (t.take i) s).map fr), .im (rowD r), .im (fr 0), s7] (fun P h => ⟨_, rfl, by rw [hll]; omega, by rw [hll]; omega, by rw [hll]; exact h⟩) (fun k δ' => ∃ s7, δ' = [.im (tabD t), .im (spotsD sp), .im (frsD s), .im (frsD p), .own true l ((dots (t.take i) s).map fr), .im (rowD r), .im (fr (dotR ((toR r).take k) (s.take k))), s7]) ⟨_, rfl⟩ ?_ ?_
    · rintro k y δ' hy ⟨s7', rfl⟩
      have hk : k < r.length := by
        have := (List.getElem?_eq_some_iff.mp hy).1
        rw [intsD_len] at this
        exact this
      rw [intsD_get hk] at hy
      cases hy
      have h1 := of_lt (0 : Int) hk
      have h2 := of_lt (0 : Rat) (show k < s.length by omega)
      have b1 := hbT _ (List.mem_of_getElem? h1)
      have b2 := hS _ (List.mem_of_getElem? h2)
      refine ⟨trivial, .int (r.getD k 0), atI_nat ?_, trivial, fr (s.getD k 0), atI_nat ?_, trivial, ⟨_, _, b1.mono (by decide), frM_bd Mday_pos Mday_lt b2 (by decide) (by decide), rfl⟩, fun v hv => ?_⟩
      · rw [List.getElem?_map, h1]; rfl
      · rw [List.getElem?_map, h2]; rfl
      · have hv := hv _ _ rfl
        subst hv
        refine ⟨trivial, ⟨_, _, frM_bd Mday_pos Mday_lt (dot_frM hbT hS (hrl.trans hl.symm) k (by omega)) (by omega) (by decide), frM_bd Mday_pos Mday_lt (FrM.mul b1 b2) (by decide) (by decide), rfl⟩, fun v hv => ?_⟩
        have hv := hv _ _ rfl
        subst hv
        rw [← dot_snoc (toR_get h1) h2]
        exact ⟨trivial, _, rfl⟩
    · rintro δ' ⟨s7', rfl⟩
      have e1 : (toR r).take r.length = toR r := List.take_of_length_le (by rw [toR_len]; omega)
      have e2 : s.take r.length = s := List.take_of_length_le (by omega)
      rw [intsD_len, e1, e2]
      refine ⟨trivial, _, rfl, ?_, .im (rowD r), .im (fr (dotR (toR r) s)), s7', ?_⟩
      · show ((dots (t.take i) s).map fr).length < sizeLine
        unfold dots
        rw [List.length_map, List.length_map, List.length_take]
        have := hs.1
        exact small_lt (by omega)
      · rw [dots_snoc s hr]
        rfl
  · rintro δ' ⟨s5, s6, s7, rfl⟩
    rw [hlt, List.take_of_length_le (Nat.le_refl _)]
    have hsl2 : (sp.map fun i : Nat => PyData.int (i : Int)).length = sp.length := List.length_map _
    simp only [dNext, dSeq]
    refine for_of (intsD sp.length) [.im (tabD t), .im (spotsD sp), .im (frsD s), .im (frsD p), .own true l ((dots t s).map fr), s5, s6, s7] (fun P h => ⟨_, rfl, by rw [hsl2]; omega, by rw [hsl2]; omega, by rw [hsl2]; exact h⟩) (fun i δ' => ∃ s7, δ' = [.im (tabD t), .im (spotsD sp), .im (frsD s), .im (frsD p), .own true l ((dayGo (dots t s) ((sp.zip p).take i)).map fr), s5, s6, s7]) ⟨_, rfl⟩ ?_ ?_
    · rintro i y δ' hy ⟨s7', rfl⟩
      have hi : i < sp.length := by
        have := (List.getElem?_eq_some_iff.mp hy).1
        rw [intsD_len] at this
        exact this
      rw [intsD_get hi] at hy
      cases hy
      have hk := of_lt (0 : Nat) hi
      have hq := of_lt (0 : Rat) (show i < p.length by omega)
      generalize sp.getD i 0 = k at hk
      generalize p.getD i 0 = q at hq
      have hip : (sp.zip p)[i]? = some (k, q) := List.getElem?_zip_eq_some.mpr ⟨hk, hq⟩
      have hkn : k < (dayGo (dots t s) ((sp.zip p).take i)).length := by
        rw [dayGo_len]
        unfold dots
        rw [List.length_map, hs.1]
        exact hsp k (List.mem_of_getElem? hk)
      have hg := of_lt (0 : Rat) hkn
      have bf : ∀ q ∈ dayGo (dots t s) ((sp.zip p).take i), FrM Mday (1000 + 8 + ((sp.zip p).take i).length) q := dayGo_frM _ _ _ (dots_frM hn hs hT hl hS) fun ip hip => (hP ip.2 (List.of_mem_zip (List.mem_of_mem_take hip)).2).mono (by omega)
      have htl : ((sp.zip p).take i).length ≤ 5 := by rw [List.length_take, List.length_zip]; omega
      have ek : L2.atI (sp.map fun i : Nat => PyData.int (i : Int)) (i : Int) = some (.int (k : Nat)) := atI_nat (by rw [List.getElem?_map, hk]; rfl)
      refine ⟨.int (k : Nat), ek, fr ((dayGo (dots t s) ((sp.zip p).take i)).getD k 0), atI_nat ?_, trivial, fr q, atI_nat ?_, trivial, ⟨_, _, frM_bd Mday_pos Mday_lt (bf _ (List.mem_of_getElem? hg)) (by omega) (by decide), frM_bd Mday_pos Mday_lt (hP q (List.mem_of_getElem? hq)) (by decide) (by decide), rfl⟩, fun r hr => ?_⟩
      · rw [List.getElem?_map, hg]; rfl
      · rw [List.getElem?_map, hq]; rfl
      · have hr := hr _ _ rfl
        subst hr
        refine ⟨trivial, .int (k : Nat), ek, k, ixN_nat (by rw [List.length_map]; exact hkn), .im (.int (i : Nat)), ?_⟩
        rw [dayGo_snoc _ hip, ← map_fr_set]
        rfl
    · rintro δ' ⟨s7', rfl⟩
      rw [intsD_len, List.take_of_length_le (by rw [List.length_zip]; omega)]
      exact ⟨trivial, _, rfl, out⟩
theorem wp_l_come_to : WpD 5 4 d_l_come_to pre_l_come_to post_l_come_to := by
  rintro as ⟨n, t, sp, s, ps, hpre, rfl⟩
  refine ⟨⟨rfl, by decide, by simp [Sl.pure]⟩, ?_⟩
  have out : post_l_come_to [.im (tabD t), .im (spotsD sp), .im (frsD s), .im (.tuple (ps.map frsD))] (frsD (runR t sp s ps)) := fun n' t' sp' s' ps' _ e => by
    obtain ⟨rfl, rfl, rfl, rfl⟩ := run_inj e
    rfl
  generalize post_l_come_to [.im (tabD t), .im (spotsD sp), .im (frsD s), .im (.tuple (ps.map frsD))] = post at out ⊢
  have hb := run_bound hpre
  obtain ⟨hn, hs, hT, nd, hsl, hsp, hl, hS, h20, hP⟩ := hpre
  show d_l_come_to _ [.im (tabD t), .im (spotsD sp), .im (frsD s), .im (.tuple (ps.map frsD)), .e]
  refine for_of (ps.map frsD) [.im (tabD t), .im (spotsD sp), .im (frsD s), .im (.tuple (ps.map frsD)), .e] (fun P h => h) (fun i δ' => ∃ s1, δ' = [.im (tabD t), .im (spotsD sp), .im (frsD (runR t sp s (ps.take i))), .im (.tuple (ps.map frsD)), s1]) ⟨_, rfl⟩ ?_ ?_
  · rintro i z δ' hz ⟨s1, rfl⟩
    obtain ⟨p, hp, rfl⟩ := map_out hz
    have hi : i < ps.length := (List.getElem?_eq_some_iff.mp hp).1
    obtain ⟨b1, b2⟩ := hb i (by omega)
    have hpm := hP _ (List.mem_of_getElem? hp)
    have hT' : TabB 3 t := hT.elim (fun e => by rw [e] at hi; exact absurd hi (by simp)) id
    have hd : dayPre n t sp (runR t sp s (ps.take i)) p := ⟨hn, hs, hT', nd, hsl, hsp, b1, hpm.1, hpm.2⟩
    refine ⟨trivial, trivial, trivial, trivial, ⟨n, t, sp, _, p, hd, fun q hq => (b2 q hq).mono (by omega), rfl⟩, fun r hr => ?_⟩
    have hr := hr _ _ _ _ _ hd rfl
    rw [← run_snoc t sp s hp] at hr
    subst hr
    exact ⟨trivial, _, rfl⟩
  · rintro δ' ⟨s1, rfl⟩
    rw [List.length_map, List.take_of_length_le (Nat.le_refl _)]
    exact ⟨trivial, _, rfl, out⟩
end Dl

end
section
set_option Elab.async false
set_option linter.all false
set_option maxRecDepth 100000
set_option maxHeartbeats 4000000
set_option autoImplicit false
/-! Walks over data: the keg, what is drawn from it. -/
namespace Dl
open PySem
theorem KegOk.mono {a b : Nat} {k : List D} (h : KegOk a k) (hab : a ≤ b) : KegOk b k := by
  obtain ⟨x, y, z, e, h1, h2, h3, h4, h5, h6⟩ := h.ex
  exact ⟨x, y, z, e, h1, h2, h3, h4, h5, by omega⟩
theorem Used.refl (k : List D) : Used 0 k k := fun _ h => h
theorem Used.trans {a b : Nat} {k k' k'' : List D} (h : Used a k k') (g : Used b k' k'') : Used (a + b) k k'' := fun t ht => (g _ (h t ht)).mono (by omega)
theorem Used.mono {a b : Nat} {k k' : List D} (h : Used a k k') (hab : a ≤ b) : Used b k k' := fun t ht => (h t ht).mono (by omega)
theorem Used.ok {a t n : Nat} {k k' : List D} (h : Used a k k') (ht : KegOk t k) (hn : t + a ≤ n) : KegOk n k' := (h t ht).mono hn
theorem bz_of {b : Nat} {z : Int} {n : Nat} (h0 : 0 ≤ z) (h1 : z < (n : Int)) (hn : n ≤ 2 ^ b) : Bz b z := by
  unfold Bz
  omega
instance (b : Nat) (z : Int) : Decidable (Bz b z) := inferInstanceAs (Decidable (z.natAbs < 2 ^ b))
theorem erase_perm : ∀ {l : List D} {i : Nat} {x : D}, l[i]? = some x → (x :: l.eraseIdx i).Perm l
  | y :: l, 0, x, h => by
    have e : y = x := by simpa using h
    rw [e]
    exact List.Perm.refl _
  | y :: l, i + 1, x, h => by
    have ih := erase_perm (l := l) (i := i) (x := x) (by simpa using h)
    exact (List.Perm.swap y x _).trans (ih.cons y)
theorem divp_small {i j : Int} (hj : 0 < j) (h : Bz 60 j) : L2.CDivP i j := by
  refine ⟨hj, ?_⟩
  have h0 : j.natAbs ≠ 0 := by omega
  have hl : j.natAbs.log2 < 60 := (Nat.log2_lt h0).mpr h
  show (decide ((if j == 0 then 0 else j.natAbs.log2 / 30 + 1) > 300) && _) = false
  have e : ¬ ((if j == 0 then 0 else j.natAbs.log2 / 30 + 1) > 300) := by
    split
    · omega
    · omega
  rw [decide_eq_false e, Bool.false_and]
theorem natAbs_div_small (a : Int) {u : Int} (h : 0 < u) (b : Nat) (hb : Bz b a) : Bz b (a / u) := by
  obtain ⟨n, rfl⟩ := Int.eq_ofNat_of_zero_le (Int.le_of_lt h)
  exact Nat.lt_of_le_of_lt (natAbs_div_le a n) hb
theorem wp_l_tap : WpK 4 2 d_l_tap pre_l_tap post_l_tap := by
  rintro k as ⟨hk, u, hu1, hu2, rfl⟩
  refine ⟨⟨rfl, by decide, by simp [Sl.pure]⟩, fun l => ?_⟩
  obtain ⟨a, b, c, rfl, ha, hab, hb0, hb1, hc0, hc1⟩ := hk.ex
  have lim : (kegLim : Int) = 1000000 := rfl
  have out : ∀ (v : Int) (k' : List D), 0 ≤ v → v < u → Used 1 [.int a, .int b, .int c] k' → post_l_tap [.int a, .int b, .int c] [.im (.int u)] (.int v) k' := fun v k' h0 h1 hU => ⟨hU, v, rfl, h0, fun u' e => by
    obtain ⟨e1, _⟩ := cons_inj e
    have e2 := im_inj e1
    injection e2 with e2
    rw [← e2]; exact h1⟩
  generalize post_l_tap [.int a, .int b, .int c] [.im (.int u)] = post at out ⊢
  show d_l_tap _ [.own false l [.int a, .int b, .int c], .im (.int u), .e, .e]
  have bu : Bz 60 u := bz_of (by omega) (show u < ((1000000001 : Nat) : Int) by omega) (by decide)
  refine ⟨_, rfl, _, rfl, _, rfl, ?_⟩
  by_cases h0 : 0 < a
  · refine ift (decide_eq_true h0) ?_
    refine ⟨_, rfl, _, rfl, _, rfl, divp_small (by omega) bu, trivial, rfl, 0, rfl, rfl, trivial, _, [.int (a / u), .int b, .int c], rfl, rfl, out _ _ (Int.emod_nonneg _ (by omega)) (Int.emod_lt_of_pos _ (by omega)) fun t ht => ?_⟩
    obtain ⟨a', b', c', e, q1, q2, q3, q4, q5, q6⟩ := ht.ex
    cases e
    exact ⟨_, _, _, rfl, Int.ediv_nonneg q1 (by omega), natAbs_div_small _ (by omega) _ q2, q3, q4, q5, by omega⟩
  · refine iff0 (decide_eq_false h0) ?_
    simp only [dNext, dSeq]
    have bb : Bz 60 b := bz_of hb0 (show b < ((2147483137 : Nat) : Int) by omega) (by decide)
    have bc : Bz 60 (c + 1) := bz_of (by omega) (show c + 1 < ((1000002 : Nat) : Int) by omega) (by decide)
    have bm : Bz 60 (b / 8 % 33013 + 43) := bz_of (by have := Int.emod_nonneg (b / 8) (show (33013 : Int) ≠ 0 by decide); omega) (show b / 8 % 33013 + 43 < ((33056 : Nat) : Int) by have := Int.emod_lt_of_pos (b / 8) (show (0 : Int) < 33013 by decide); omega) (by decide)
    have dv : ∀ {x : Int} {j : Int}, 0 < j → Bz 60 j → L2.CDivW x j := fun h1 h2 => L2.wide_div h1 h2 (by decide) (by decide)
    refine ⟨.int c, rfl, _, rfl, trivial, 2, rfl, ?_⟩
    refine ⟨.int b, rfl, _, rfl, .int b, rfl, _, rfl, dv (by decide) (show Bz 60 8 by decide), _, rfl, by decide, _, rfl, mulB bb bm, trivial, ?_⟩
    refine ⟨_, rfl, .int (c + 1), rfl, mulB (show Bz 60 12007 by decide) bc, _, rfl, _, rfl, by decide, trivial, 1, rfl, ?_⟩
    refine ⟨_, rfl, _, rfl, dv (by decide) (show Bz 60 8192 by decide), _, rfl, by omega, trivial, _, _, rfl, rfl, out _ _ (Int.emod_nonneg _ (by omega)) (Int.emod_lt_of_pos _ (by omega)) fun t ht => ?_⟩
    obtain ⟨a', b', c', e, q1, q2, q3, q4, q5, q6⟩ := ht.ex
    cases e
    exact ⟨_, _, _, rfl, q1, q2, Int.emod_nonneg _ (by decide), Int.emod_lt_of_pos _ (by decide), by omega, by omega⟩
theorem atI_mem {α : Type} {xs : List α} {v : Int} (h0 : 0 ≤ v) (h1 : v < (xs.length : Int)) : ∃ x, L2.atI xs v = some x ∧ x ∈ xs ∧ xs[v.toNat]? = some x := by
  obtain ⟨n, rfl⟩ := Int.eq_ofNat_of_zero_le h0
  have hn : n < xs.length := by omega
  exact ⟨xs[n], atI_nat (List.getElem?_eq_getElem hn), List.getElem_mem hn, List.getElem?_eq_getElem hn⟩
theorem wp_l_pick : WpK 2 2 d_l_pick pre_l_pick post_l_pick := by
  rintro k as ⟨hk, d, hd, h1, h2, rfl⟩
  refine ⟨⟨rfl, by decide, by simp [Sl.pure]⟩, fun l => ?_⟩
  have out : ∀ (r : D) (k' : List D), Used 1 k k' → r ∈ seqOf d → post_l_pick k [.im d] r k' := fun r k' hU hr => ⟨hU, fun d' e => by
    obtain ⟨e1, _⟩ := cons_inj e
    rw [← im_inj e1]; exact hr⟩
  generalize post_l_pick k [.im d] = post at out ⊢
  show d_l_pick _ [.own false l k, .im d]
  have fin : ∀ ds : List D, seqOf d = ds → ∀ r k', post_l_tap k [.im (.int (ds.length : Nat))] r k' → ∃ x v, r = .int v ∧ L2.atI ds v = some x ∧ post x k' := fun ds e r k' hp => by
    obtain ⟨hU, v, rfl, h0, hv⟩ := hp
    obtain ⟨x, h3, h4, _⟩ := atI_mem (xs := ds) h0 (hv _ rfl)
    exact ⟨x, v, rfl, h3, out x k' hU (by rw [e]; exact h4)⟩
  cases d with
  | list ds =>
    have h1' : 1 ≤ ds.length := h1
    have h2' : ds.length ≤ 1000 := h2
    refine ⟨trivial, ⟨hk, _, by omega, by omega, rfl⟩, fun r k' hp => ?_⟩
    obtain ⟨x, v, rfl, h3, h4⟩ := fin ds rfl r k' hp
    exact ⟨x, h3, trivial, _, k', rfl, rfl, h4⟩
  | tuple ds =>
    have h1' : 1 ≤ ds.length := h1
    have h2' : ds.length ≤ 1000 := h2
    refine ⟨trivial, ⟨hk, _, by omega, by omega, rfl⟩, fun r k' hp => ?_⟩
    obtain ⟨x, v, rfl, h3, h4⟩ := fin ds rfl r k' hp
    exact ⟨x, h3, trivial, _, k', rfl, rfl, h4⟩
  | _ => exact hd.elim
theorem wp_l_mixed : WpK 5 2 d_l_mixed pre_l_mixed post_l_mixed := by
  rintro k as ⟨hk, d, hd, h2, rfl⟩
  refine ⟨⟨rfl, by decide, by simp [Sl.pure]⟩, fun l => ?_⟩
  have out : ∀ (es : List D) (k' : List D), Used 1000 k k' → es.Perm (seqOf d) → post_l_mixed k [.im d] (.list es) k' := fun es k' hU hr => ⟨hU, fun d' e => by
    obtain ⟨e1, _⟩ := cons_inj e
    rw [← im_inj e1]; exact ⟨es, rfl, hr⟩⟩
  generalize post_l_mixed k [.im d] = post at out ⊢
  show d_l_mixed _ [.own false l k, .im d, .e, .e, .e]
  have main : ∀ ds : List D, seqOf d = ds → ds.length ≤ 1000 → ∀ l2 l3, dFor (iRange (dLen (dVar 1))) (gN 4) (dApp 3 (dPop 2 (dCallK 0 pre_l_tap post_l_tap (dCons (dLen (dVar 2)) dNil)))) { nx := dFrz 3 (dRet (dVar 3)) { nx := fun x => False, rt := fun s δ => ∃ r k', s = Sl.im r ∧ δ[0]? = some (Sl.own false l k') ∧ post r k' }, rt := fun s δ => ∃ r k', s = Sl.im r ∧ δ[0]? = some (Sl.own false l k') ∧ post r k' } [.own false l k, .im d, .own true l2 ds, .own true l3 [], .e] := by
    intro ds e hz l2 l3
    refine for_of (intsD ds.length) [.own false l k, .im d, .own true l2 ds, .own true l3 [], .e] (fun P h => ?_) (fun i δ' => ∃ k' left found s, δ' = [.own false l k', .im d, .own true l2 left, .own true l3 found, s] ∧ Used i k k' ∧ (found ++ left).Perm ds ∧ left.length + i = ds.length ∧ found.length = i) ⟨k, ds, [], _, rfl, Used.refl k, by simp, by omega, rfl⟩ ?_ ?_
    · cases d with
      | list es =>
        have e' : es = ds := e
        subst e'
        exact ⟨_, rfl, by omega, by omega, h⟩
      | tuple es =>
        have e' : es = ds := e
        subst e'
        exact ⟨_, rfl, by omega, by omega, h⟩
      | _ => exact hd.elim
    · rintro i y δ' hy ⟨k', left, found, s, rfl, hU, hp, hl, hf⟩
      have hi : i < ds.length := by
        have := (List.getElem?_eq_some_iff.mp hy).1
        rw [intsD_len] at this
        exact this
      refine ⟨trivial, trivial, trivial, ⟨hU.ok hk (by show 900000 + i ≤ 1000000; omega), (left.length : Nat), by omega, by omega, rfl⟩, fun r k2 hp2 => ?_⟩
      obtain ⟨hU2, v, rfl, h0, hv⟩ := hp2
      have hv := hv _ rfl
      obtain ⟨x, _, _, hx⟩ := atI_mem (xs := left) h0 hv
      refine ⟨h0, by omega, x, hx, _, rfl, by rw [hf]; exact small_lt (by omega), k2, left.eraseIdx v.toNat, found ++ [x], _, rfl, hU.trans hU2, ?_, ?_, by rw [List.length_append, hf]; rfl⟩
      · have h5 := erase_perm hx
        refine List.Perm.trans ?_ hp
        rw [List.append_assoc]
        exact List.Perm.append_left found h5
      · rw [List.length_eraseIdx_of_lt (by omega)]
        omega
    · rintro δ' ⟨k', left, found, s, rfl, hU, hp, hl, hf⟩
      rw [intsD_len] at hl hU
      have e0 : left = [] := List.length_eq_zero_iff.mp (by omega)
      subst e0
      rw [List.append_nil] at hp
      exact ⟨trivial, _, k', rfl, rfl, out found k' (hU.mono hz) (by rw [e]; exact hp)⟩
  cases d with
  | list ds =>
    exact fun l2 _ => ⟨[], rfl, Nat.zero_le _, fun l3 _ => ⟨_, _, rfl, main ds rfl h2 l2 l3⟩⟩
  | tuple ds =>
    exact fun l2 _ => ⟨[], rfl, Nat.zero_le _, fun l3 _ => ⟨_, _, rfl, main ds rfl h2 l2 l3⟩⟩
  | _ => exact hd.elim
end Dl

end
section
set_option Elab.async false
set_option linter.all false
set_option maxRecDepth 100000
set_option maxHeartbeats 4000000
set_option autoImplicit false
/-! Walks over data: what is drawn: crew, roads, heads. -/
namespace Dl
open PySem
theorem perm_out {α : Type} {f : α → D} {g : D → α} (hg : ∀ x, g (f x) = x) {es : List D} {xs : List α} (h : es.Perm (xs.map f)) : ∃ ys : List α, es = ys.map f ∧ ys.Perm xs := by
  refine ⟨es.map g, ?_, ?_⟩
  · rw [List.map_map]
    refine (List.map_id'' (fun _ => rfl) es).symm.trans (List.map_congr_left fun d hd => ?_)
    obtain ⟨x, _, rfl⟩ := List.mem_map.mp (h.mem_iff.mp hd)
    show f x = f (g (f x))
    rw [hg]
  · have h2 := h.map g
    rw [List.map_map] at h2
    have e : xs.map (g ∘ f) = xs := (List.map_congr_left fun x _ => hg x).trans (List.map_id'' (fun _ => rfl) xs)
    rw [e] at h2
    exact h2
theorem perm_strs {es : List D} {xs : List Str} (h : es.Perm (xs.map PyData.str)) : ∃ ys : List Str, es = ys.map PyData.str ∧ ys.Perm xs := perm_out (g := strOf) (fun _ => rfl) h
theorem perm_roads {es : List D} {xs : List (Str × Str)} (h : es.Perm (xs.map roadD)) : ∃ ys : List (Str × Str), es = ys.map roadD ∧ ys.Perm xs := perm_out (g := pairOf) (fun _ => rfl) h
theorem names_nd : names14.Nodup := by decide +kernel
theorem wp_l_crew : WpK 4 3 d_l_crew pre_l_crew post_l_crew := by
  rintro k as ⟨hk, rfl⟩
  refine ⟨⟨rfl, by decide, by simp [Sl.pure]⟩, fun l => ?_⟩
  have out : ∀ (c : List Str) (k' : List D), Used 2000 k k' → CrewOk c → post_l_crew k [.im (.int 2), .im (.int 5)] (crewD c) k' := fun c k' hU hc => ⟨hU, c, hc, rfl⟩
  generalize post_l_crew k [.im (.int 2), .im (.int 5)] = post at out ⊢
  show d_l_crew _ [.own false l k, .im (.int 2), .im (.int 5), .e]
  refine ⟨trivial, trivial, trivial, trivial, trivial, trivial, trivial, trivial, trivial, trivial, trivial, trivial, trivial, trivial, names14.map PyData.str, rfl, by show 14 ≤ sizeLine; decide, trivial, ?_⟩
  refine ⟨trivial, ⟨hk.mono (by decide), .list (names14.map PyData.str), trivial, by show 14 ≤ 1000; decide, rfl⟩, fun r k' hp => ?_⟩
  obtain ⟨hU, hp⟩ := hp
  obtain ⟨es, rfl, hpm⟩ := hp _ rfl
  obtain ⟨cs, rfl, hc⟩ := perm_strs hpm
  refine ⟨_, rfl, _, rfl, trivial, ⟨hU.ok hk (by decide), 5 - 2 + 1, by decide, by decide, rfl⟩, fun r k2 hp2 => ?_⟩
  obtain ⟨hU2, v, rfl, h0, hv⟩ := hp2
  have hv := hv _ rfl
  obtain ⟨m, rfl⟩ := Int.eq_ofNat_of_zero_le h0
  have hcl : cs.length = 14 := hc.length_eq
  have hm : m < 4 := by omega
  refine ⟨_, rfl, ?_⟩
  have em : (2 : Int) + (m : Int) = ((2 + m : Nat) : Int) := by omega
  show _ ∧ _
  rw [em]
  rw [cut_to _ _ (by rw [List.length_map]; omega), ← List.map_take]
  have nd : cs.Nodup := hc.nodup_iff.mpr names_nd
  refine ⟨trivial, _, k2, rfl, rfl, out _ k2 ((hU.trans hU2).mono (by decide)) ⟨?_, ?_, nd.sublist (List.take_sublist _ _), fun x hx => hc.mem_iff.mp (List.mem_of_mem_take hx)⟩⟩
  · rw [List.length_take]; omega
  · rw [List.length_take]; omega
theorem wp_l_heads : WpK 4 2 d_l_heads pre_l_heads post_l_heads := by
  rintro k as ⟨hk, c, hc, rfl⟩
  refine ⟨⟨rfl, by decide, by simp [Sl.pure]⟩, fun l => ?_⟩
  have out : ∀ (hs : List Str) (k' : List D), Used 2000 k k' → HeadsOk c hs → post_l_heads k [.im (crewD c)] (crewD hs) k' := fun hs k' hU hh => ⟨hU, fun c' _ e => by
    obtain ⟨e1, _⟩ := cons_inj e
    rw [← crewD_inj (im_inj e1)]; exact ⟨hs, hh, rfl⟩⟩
  generalize post_l_heads k [.im (crewD c)] = post at out ⊢
  show d_l_heads _ [.own false l k, .im (crewD c), .e, .e]
  refine ⟨trivial, trivial, trivial, [.int 2, .int 4, .int 6], rfl, by show 3 ≤ sizeLine; decide, trivial, ⟨hk.mono (by decide), .list [.int 2, .int 4, .int 6], trivial, by decide, by decide, rfl⟩, fun r k1 hp => ?_⟩
  obtain ⟨hU, hp⟩ := hp
  have hr := hp _ rfl
  obtain ⟨z, rfl⟩ : ∃ z, r = .int z := by
    simp [seqOf] at hr
    rcases hr with h | h | h <;> exact ⟨_, h⟩
  refine ⟨trivial, ?_⟩
  have hcl : (c.map PyData.str).length = c.length := List.length_map _
  have h5 := hc.five
  refine ⟨trivial, ⟨hU.ok hk (by decide), crewD c, trivial, by show (c.map PyData.str).length ≤ 1000; rw [hcl]; omega, rfl⟩, fun r k2 hp2 => ?_⟩
  obtain ⟨hU2, hp2⟩ := hp2
  obtain ⟨es, rfl, hpm⟩ := hp2 _ rfl
  obtain ⟨cs, rfl, hcs⟩ := perm_strs hpm
  have hcsl : cs.length = c.length := hcs.length_eq
  refine ⟨by rw [List.length_map]; exact small_le (by omega), fun i acc δ' => ∃ k' hs, δ' = [.own false l k', .im (crewD c), .im (.int z), .e] ∧ Used (1001 + i) k k' ∧ acc = hs.map PyData.str ∧ hs.Sublist (cs.take i), ⟨k2, [], rfl, hU.trans hU2, rfl, List.nil_sublist _⟩, ?_, ?_⟩
  · rintro i x acc δ' hx ⟨k', hs, rfl, hU3, rfl, hsub⟩
    obtain ⟨y, hy, rfl⟩ := map_out hx
    have hi : i < cs.length := (List.getElem?_eq_some_iff.mp hy).1
    refine ⟨trivial, ⟨hU3.ok hk (by show 800000 + (1001 + i) ≤ 1000000; omega), 8, by decide, by decide, rfl⟩, fun r k4 hp4 => ?_⟩
    obtain ⟨hU4, v, rfl, h0, hv⟩ := hp4
    refine ⟨_, rfl, _, rfl, ?_⟩
    by_cases q : v < z
    · refine ift (decide_eq_true q) ?_
      refine ⟨_, rfl, k4, hs ++ [y], rfl, (hU3.trans hU4).mono (by omega), by rw [List.map_append]; rfl, ?_⟩
      rw [take_succ_get hy]
      exact hsub.append (List.Sublist.refl _)
    · refine iff0 (decide_eq_false q) ?_
      refine ⟨k4, hs, rfl, (hU3.trans hU4).mono (by omega), rfl, ?_⟩
      rw [take_succ_get hy]
      exact hsub.trans (List.sublist_append_left _ _)
  · rintro acc δ' ⟨k', hs, rfl, hU3, rfl, hsub⟩
    rw [List.length_map, List.take_of_length_le (Nat.le_refl _)] at hsub
    have nd : cs.Nodup := hcs.nodup_iff.mpr hc.nd
    refine ⟨trivial, _, k', rfl, rfl, out hs k' (hU3.mono (by rw [List.length_map]; omega)) ⟨nd.sublist hsub, fun x hx => hcs.mem_iff.mp (hsub.subset hx)⟩⟩
theorem wp_l_roads : WpK 6 2 d_l_roads pre_l_roads post_l_roads := by
  rintro k as ⟨hk, c, hc, rfl⟩
  refine ⟨⟨rfl, by decide, by simp [Sl.pure]⟩, fun l => ?_⟩
  have out : ∀ (rs : List (Str × Str)) (k' : List D), Used 2000 k k' → RoadsOk c rs → post_l_roads k [.im (crewD c)] (roadsD rs) k' := fun rs k' hU hh => ⟨hU, fun c' _ e => by
    obtain ⟨e1, _⟩ := cons_inj e
    rw [← crewD_inj (im_inj e1)]; exact ⟨rs, hh, rfl⟩⟩
  generalize post_l_roads k [.im (crewD c)] = post at out ⊢
  show d_l_roads _ [.own false l k, .im (crewD c), .e, .e, .e, .e]
  have hcl : (c.map PyData.str).length = c.length := List.length_map _
  have h5 := hc.five
  refine ⟨trivial, trivial, trivial, trivial, trivial, [.int 2, .int 3, .int 3, .int 5, .int 8], rfl, by show 5 ≤ sizeLine; decide, trivial, ⟨hk.mono (by decide), .list [.int 2, .int 3, .int 3, .int 5, .int 8], trivial, by decide, by decide, rfl⟩, fun r k1 hp => ?_⟩
  obtain ⟨hU, hp⟩ := hp
  have hr := hp _ rfl
  obtain ⟨z, rfl⟩ : ∃ z, r = .int z := by
    simp [seqOf] at hr
    rcases hr with h | h | h | h <;> exact ⟨_, h⟩
  refine ⟨trivial, [], rfl, Nat.zero_le _, fun l3 _ => ⟨_, _, rfl, ?_⟩⟩
  simp only [dNext, dSeq]
  refine for_of (c.map PyData.str) [.own false l k1, .im (crewD c), .im (.int z), .own true l3 [], .e, .e] (fun P h => h) (fun i δ' => ∃ k' s4 s5 rs, δ' = [.own false l k', .im (crewD c), .im (.int z), .own true l3 (rs.map roadD), s4, s5] ∧ Used (1 + 5 * i) k k' ∧ rs.Nodup ∧ ∀ r ∈ rs, r.1 ∈ c.take i ∧ r.2 ∈ c ∧ r.1 ≠ r.2) ⟨k1, _, _, [], rfl, hU, List.nodup_nil, fun r hr => nomatch hr⟩ ?_ ?_
  · rintro i x δ' hx ⟨k', s4, s5, rs, rfl, hU2, nd, hrs⟩
    obtain ⟨y, hy, rfl⟩ := map_out hx
    have hi : i < c.length := (List.getElem?_eq_some_iff.mp hy).1
    have hyc : y ∈ c := List.mem_of_getElem? hy
    have hyn := not_in_take hc.nd hy
    refine for_of (c.map PyData.str) [.own false l k', .im (crewD c), .im (.int z), .own true l3 (rs.map roadD), .im (.str y), s5] (fun P h => h) (fun j δ' => ∃ k' s5 rs, δ' = [.own false l k', .im (crewD c), .im (.int z), .own true l3 (rs.map roadD), .im (.str y), s5] ∧ Used (1 + 5 * i + j) k k' ∧ rs.Nodup ∧ (∀ r ∈ rs, (r.1 ∈ c.take i ∨ (r.1 = y ∧ r.2 ∈ c.take j)) ∧ r.2 ∈ c ∧ r.1 ≠ r.2) ∧ rs.length ≤ 5 * i + j) ⟨k', _, rs, rfl, hU2, nd, fun r hr => ⟨.inl (hrs r hr).1, (hrs r hr).2⟩, ?_⟩ ?_ ?_
    · have h1 := nodup_le (m := (c.take i).flatMap fun a => c.map fun b => (a, b)) nd fun r hr => by
        rw [List.mem_flatMap]
        exact ⟨r.1, (hrs r hr).1, List.mem_map.mpr ⟨r.2, (hrs r hr).2.1, rfl⟩⟩
      have h2 : ∀ l : List Str, (l.flatMap fun a => c.map fun b => (a, b)).length = l.length * c.length := by
        intro l
        induction l with
        | nil => simp
        | cons a l ih => rw [List.flatMap_cons, List.length_append, ih, List.length_map, List.length_cons, Nat.succ_mul, Nat.add_comm]
      rw [h2, List.length_take] at h1
      have h3 : min i c.length * c.length ≤ i * 5 := Nat.mul_le_mul (Nat.min_le_left _ _) h5
      omega
    · rintro j x2 δ' hx2 ⟨k', s5, rs, rfl, hU3, nd, hrs, hlen⟩
      obtain ⟨w, hw, rfl⟩ := map_out hx2
      have hj : j < c.length := (List.getElem?_eq_some_iff.mp hw).1
      have hwc : w ∈ c := List.mem_of_getElem? hw
      have hwn := not_in_take hc.nd hw
      have grow : ∀ r : Str × Str, (r.1 ∈ c.take i ∨ (r.1 = y ∧ r.2 ∈ c.take j)) ∧ r.2 ∈ c ∧ r.1 ≠ r.2 → (r.1 ∈ c.take i ∨ (r.1 = y ∧ r.2 ∈ c.take (j + 1))) ∧ r.2 ∈ c ∧ r.1 ≠ r.2 := fun r hr => ⟨hr.1.imp id fun z => ⟨z.1, by rw [take_succ_get hw]; exact List.mem_append_left _ z.2⟩, hr.2⟩
      refine ⟨_, rfl, ?_⟩
      by_cases q : y = w
      · refine iff0 (by rw [decide_eq_true q]; rfl) ?_
        refine iff0 rfl ?_
        exact ⟨k', _, rs, rfl, hU3.mono (by omega), nd, fun r hr => grow r (hrs r hr), by omega⟩
      · refine ift (by rw [decide_eq_false q]; rfl) ?_
        refine ⟨trivial, ⟨hU3.ok hk (by show 800000 + (1 + 5 * i + j) ≤ 1000000; omega), 10, by decide, by decide, rfl⟩, fun r k4 hp4 => ?_⟩
        obtain ⟨hU4, v, rfl, h0, hv⟩ := hp4
        refine ⟨_, rfl, _, rfl, ?_⟩
        by_cases q2 : v < z
        · refine ift (decide_eq_true q2) ?_
          refine ⟨trivial, trivial, trivial, _, rfl, by show 2 ≤ sizeLine; decide, _, rfl, by rw [List.length_map]; exact small_lt (by omega), k4, .im (.str w), rs ++ [(y, w)], ?_, (hU3.trans hU4).mono (by omega), ?_, ?_, ?_⟩
          · rw [List.map_append]; rfl
          · refine List.nodup_append.mpr ⟨nd, List.nodup_cons.mpr ⟨by simp, List.nodup_nil⟩, fun a ha b hb => ?_⟩
            have eb : b = (y, w) := by simpa using hb
            rw [eb]
            intro e
            have := (hrs a ha).1
            rw [e] at this
            rcases this with z | z
            · exact hyn z
            · exact hwn z.2
          · intro r hr
            rcases List.mem_append.mp hr with z | z
            · exact grow r (hrs r z)
            · have er : r = (y, w) := by simpa using z
              rw [er]
              exact ⟨.inr ⟨rfl, by rw [take_succ_get hw]; simp⟩, hwc, q⟩
          · rw [List.length_append]; simp; omega
        · refine iff0 (decide_eq_false q2) ?_
          exact ⟨k4, _, rs, rfl, (hU3.trans hU4).mono (by omega), nd, fun r hr => grow r (hrs r hr), by omega⟩
    · rintro δ' ⟨k', s5, rs, rfl, hU3, nd, hrs, _⟩
      rw [hcl] at hU3
      refine ⟨k', _, s5, rs, rfl, hU3.mono (by omega), nd, fun r hr => ⟨?_, (hrs r hr).2⟩⟩
      rw [take_succ_get hy, List.mem_append]
      exact (hrs r hr).1.imp id fun z => by rw [z.1]; simp
  · rintro δ' ⟨k', s4, s5, rs, rfl, hU2, nd, hrs⟩
    rw [hcl] at hU2
    have ok : RoadsOk c rs := ⟨nd, fun r hr => List.mem_of_mem_take (hrs r hr).1, fun r hr => (hrs r hr).2.1, fun r hr => (hrs r hr).2.2⟩
    have hf := ok.few hc
    refine ⟨trivial, ⟨hU2.ok hk (by omega), .list (rs.map roadD), trivial, by show (rs.map roadD).length ≤ 1000; rw [List.length_map]; omega, rfl⟩, fun r k4 hp4 => ?_⟩
    obtain ⟨hU4, hp4⟩ := hp4
    obtain ⟨es, rfl, hpm⟩ := hp4 _ rfl
    obtain ⟨qs, rfl, hq⟩ := perm_roads hpm
    exact ⟨trivial, _, k4, rfl, rfl, out qs k4 ((hU2.trans hU4).mono (by omega)) ⟨hq.nodup_iff.mpr nd, fun r hr => ok.one r (hq.mem_iff.mp hr), fun r hr => ok.two r (hq.mem_iff.mp hr), fun r hr => ok.ne r (hq.mem_iff.mp hr)⟩⟩
end Dl

end
section
set_option Elab.async false
set_option linter.all false
set_option maxRecDepth 100000
set_option maxHeartbeats 4000000
set_option autoImplicit false
/-! Walks over data: page, the game, the keg's making. -/
namespace Dl
open PySem
theorem name_len {x : Str} (h : x ∈ names14) : x.length ≤ 8 := (name_facts x h).2.1
theorem wp_l_page : WpD 4 2 d_l_page pre_l_page post_l_page := by
  rintro as ⟨c, rs, hc, hr, rfl⟩
  refine ⟨⟨rfl, by decide, by simp [Sl.pure]⟩, ?_⟩
  have out : post_l_page [.im (crewD c), .im (roadsD rs)] (.str (pageOf c rs)) := fun c' rs' e => by
    obtain ⟨e1, e2⟩ := cons_inj e
    obtain ⟨e3, _⟩ := cons_inj e2
    rw [crewD_inj (im_inj e1), roadsD_inj (im_inj e3)]
  generalize post_l_page [.im (crewD c), .im (roadsD rs)] = post at out ⊢
  show d_l_page _ [.im (crewD c), .im (roadsD rs), .e, .e]
  have h5 := hc.five
  have hf := hr.few hc
  have s1 := sum_le (f := fun x : Str => x.length) (b := 8) (l := c) fun x hx => name_len (hc.sub x hx)
  have e1 : (" " : Str).length = 1 := rfl
  refine ⟨c, .inl rfl, ?_, trivial, _, rfl, Nat.succ_le_of_lt (by decide), _, rfl, ?_⟩
  · rw [e1]
    have : c.length * 8 ≤ 5 * 8 := Nat.mul_le_mul_right _ h5
    omega
  refine lc_map (rs.map roadD) [.im (crewD c), .im (roadsD rs), .e, .e] (fun d => .str (roadS (pairOf d))) (fun P h => h) (by rw [List.length_map]; exact small_le (by omega)) (fun x hx R hR => ?_) ?_
  · obtain ⟨⟨a, b⟩, h, rfl⟩ := List.mem_map.mp hx
    obtain ⟨n1, n2⟩ := hr.nm hc _ h
    have l1 := name_len n1
    have l2 := name_len n2
    have e3 : (" > " : Str).length = 3 := rfl
    have e4 : (a ++ (" > " : Str)).length = a.length + 3 := by rw [Str.length_append, e3]
    refine ⟨rfl, rfl, small_le (by rw [e3]; have : a.length ≤ 8 := l1; omega), _, rfl, small_le (by rw [e4]; have : a.length ≤ 8 := l1; have : b.length ≤ 8 := l2; omega), _, rfl, rfl, hR⟩
  · refine ⟨small_le ?_, Txt.join " " c :: rs.map roadS, .inr ?_, ?_, trivial, _, rfl, out⟩
    · show 1 + ((rs.map roadD).map _).length ≤ 1000
      rw [List.length_map, List.length_map]
      omega
    · show Sl.im (.list ([.str (Txt.join " " c)] ++ (rs.map roadD).map fun d => .str (roadS (pairOf d)))) = _
      rw [List.map_map, List.map_cons, List.map_map]
      rfl
    · have h0 := crew_len hc
      have h1 := sum_le (f := fun x : Str => x.length) (b := 19) (l := rs.map roadS) fun x hx => by
        obtain ⟨r, h, e⟩ := List.mem_map.mp hx
        rw [← e]
        exact (road_free r.1 (hr.nm hc r h).1 r.2 (hr.nm hc r h).2).2
      rw [List.length_map] at h1
      have e2 : ("\n" : Str).length = 1 := rfl
      have : rs.length * 19 ≤ 25 * 19 := Nat.mul_le_mul_right _ hf
      rw [List.map_cons, List.sum_cons, List.length_cons, List.length_map, e2]
      omega
theorem filter_map_strs (p : Str → Bool) (xs : List Str) (i : Nat) : fmI (fun _ d => if p (strOf d) = true then some (.str (strOf d)) else none) i (xs.map PyData.str) = (xs.filter p).map PyData.str := by
  rw [filter_fm (fun d => p (strOf d)) (fun d => .str (strOf d)), List.filter_map, List.map_map]
  rfl
theorem wp_l_pushed : WpD 3 2 d_l_pushed pre_l_pushed post_l_pushed := by
  rintro as ⟨rs, x, hrs, rfl⟩
  refine ⟨⟨rfl, by decide, by simp [Sl.pure]⟩, ?_⟩
  have out : post_l_pushed [.im (roadsD rs), .im (.str x)] (crewL (pushS rs x)) := fun rs' x' e => by
    obtain ⟨e1, e2⟩ := cons_inj e
    obtain ⟨e3, _⟩ := cons_inj e2
    have e4 := im_inj e3
    injection e4 with e4
    rw [roadsD_inj (im_inj e1), e4]
  generalize post_l_pushed [.im (roadsD rs), .im (.str x)] = post at out ⊢
  show d_l_pushed _ [.im (roadsD rs), .im (.str x), .e]
  refine lc_fm (rs.map roadD) [.im (roadsD rs), .im (.str x), .e] (fun _ d => if decide ((pairOf d).1 = x) = true then some (.str (pairOf d).2) else none) (fun P h => h) (by rw [List.length_map]; exact small_le (by omega)) (fun i y hy R N hR hN => ?_) ?_
  · obtain ⟨⟨a, b⟩, h, rfl⟩ := map_out hy
    refine ⟨.str a, rfl, _, rfl, _, rfl, ?_⟩
    have hR' : ∀ d, (if decide (a = x) = true then some (PyData.str b) else none) = some d → R d := hR
    have hN' : (if decide (a = x) = true then some (PyData.str b) else none) = none → N := hN
    by_cases q : a = x
    · refine ift (decide_eq_true q) ⟨.str b, rfl, _, rfl, rfl, hR' _ (if_pos (decide_eq_true q))⟩
    · exact iff0 (decide_eq_false q) ⟨rfl, hN' (if_neg (by rw [decide_eq_false q]; exact Bool.false_ne_true))⟩
  · rw [filter_fm (fun d => decide ((pairOf d).1 = x)) (fun d => .str (pairOf d).2), List.filter_map, List.map_map]
    have e : (rs.filter ((fun d => decide ((pairOf d).1 = x)) ∘ roadD)).map ((fun d => PyData.str (pairOf d).2) ∘ roadD) = (pushS rs x).map PyData.str := by
      unfold pushS
      rw [List.map_map]
      rfl
    rw [e]
    exact ⟨trivial, _, rfl, out⟩
theorem mem_pushS {rs : List (Str × Str)} {x y : Str} : y ∈ pushS rs x ↔ (x, y) ∈ rs := by
  unfold pushS
  rw [List.mem_map]
  refine ⟨fun ⟨r, h, e⟩ => ?_, fun h => ⟨(x, y), List.mem_filter.mpr ⟨h, by simp⟩, rfl⟩⟩
  obtain ⟨h1, h2⟩ := List.mem_filter.mp h
  have e2 : r.1 = x := of_decide_eq_true h2
  rw [← e, ← e2]
  exact h1
theorem pushS_len (rs : List (Str × Str)) (x : Str) : (pushS rs x).length ≤ rs.length := by
  unfold pushS
  rw [List.length_map]
  exact List.length_filter_le _ _
theorem wp_l_alone : WpD 5 3 d_l_alone pre_l_alone post_l_alone := by
  rintro as ⟨c, rs, x, sure, hc, hr, hs, rfl⟩
  refine ⟨⟨rfl, by decide, by simp [Sl.pure]⟩, ?_⟩
  have out : post_l_alone [.im (roadsD rs), .im (.str x), .im (crewL sure)] (crewL (aloneS rs x sure)) := fun rs' x' sure' e => by
    obtain ⟨e1, e2⟩ := cons_inj e
    obtain ⟨e3, e5⟩ := cons_inj e2
    obtain ⟨e6, _⟩ := cons_inj e5
    have e4 := im_inj e3
    injection e4 with e4
    rw [roadsD_inj (im_inj e1), e4, map_inj (fun a b e => by injection e) (lst_inj (im_inj e6))]
  generalize post_l_alone [.im (roadsD rs), .im (.str x), .im (crewL sure)] = post at out ⊢
  show d_l_alone _ [.im (roadsD rs), .im (.str x), .im (crewL sure), .e, .e]
  have hf := hr.few hc
  refine ⟨trivial, trivial, ⟨rs, x, by omega, rfl⟩, fun r hp => ?_⟩
  have hp := hp rs x rfl
  subst hp
  have hpl := pushS_len rs x
  refine ⟨by rw [List.length_map]; exact small_le (by omega), ?_⟩
  refine ⟨fun i acc δ' => δ' = [.im (roadsD rs), .im (.str x), .im (crewL sure), .e, .e] ∧ acc = (((pushS rs x).take i).filter fun y => decide (y ∉ sure)).map PyData.str, ⟨rfl, rfl⟩, ?_, ?_⟩
  · rintro i d acc δ' hd ⟨rfl, rfl⟩
    obtain ⟨y, hy, rfl⟩ := map_out hd
    have hyr := mem_pushS.mp (List.mem_of_getElem? hy)
    have hyn := hc.sub y (hr.two _ hyr)
    refine ⟨(sh_name hyn).shaped, (sh_crewL fun z hz => hc.sub z (hs z hz)).shaped, _, rfl, ?_⟩
    rw [in_strs]
    by_cases q : y ∈ sure
    · refine iff0 (by rw [decide_eq_true q]; rfl) ⟨rfl, ?_⟩
      rw [take_succ_get hy, List.filter_append]
      simp [q]
    · refine ift (by rw [decide_eq_false q]; rfl) ⟨_, rfl, rfl, ?_⟩
      rw [take_succ_get hy, List.filter_append]
      simp [q]
  · rintro acc δ' ⟨rfl, rfl⟩
    rw [List.length_map, List.take_of_length_le (Nat.le_refl _)]
    have ef : ((pushS rs x).filter fun y => decide (y ∉ sure)) = freshS rs x sure := rfl
    rw [ef]
    refine ⟨trivial, _, rfl, _, rfl, ?_⟩
    have hl : ((freshS rs x sure).map PyData.str).length = (freshS rs x sure).length := List.length_map _
    by_cases q : (freshS rs x sure).length = 1
    · refine ift (decide_eq_true (by rw [hl, q]; rfl)) ⟨trivial, _, rfl, ?_⟩
      have e : aloneS rs x sure = freshS rs x sure := if_pos q
      rw [e] at out
      exact out
    · refine iff0 (decide_eq_false (by rw [hl]; omega)) ⟨[], rfl, Nat.zero_le _, trivial, _, rfl, ?_⟩
      have e : aloneS rs x sure = [] := if_neg q
      rw [e] at out
      exact out
/-! ### the game -/
theorem mem_fresh {rs : List (Str × Str)} {x y : Str} {sure : List Str} : y ∈ freshS rs x sure ↔ (x, y) ∈ rs ∧ y ∉ sure := by
  unfold freshS
  rw [List.mem_filter, mem_pushS, decide_eq_true_iff]
structure SubS (c s : List Str) : Prop where
  nd : s.Nodup
  sub : ∀ y ∈ s, y ∈ c
def stepS (rs : List (Str × Str)) (s : List Str) (x : Str) : List Str := if x ∈ s then s ++ aloneS rs x s else s
theorem alone_cases (rs : List (Str × Str)) (x : Str) (s : List Str) : (aloneS rs x s = [] ∧ (freshS rs x s).length ≠ 1) ∨ ∃ y, aloneS rs x s = [y] ∧ (x, y) ∈ rs ∧ y ∉ s := by
  unfold aloneS
  by_cases q : (freshS rs x s).length = 1
  · right
    rw [if_pos q]
    match h : freshS rs x s, q with
    | [y], _ =>
      have hm : y ∈ freshS rs x s := by rw [h]; exact List.mem_cons_self
      exact ⟨y, rfl, mem_fresh.mp hm⟩
  · exact .inl ⟨if_neg q, q⟩
theorem step_ok {c : List Str} {rs : List (Str × Str)} {s : List Str} (hr : RoadsOk c rs) (h : SubS c s) (x : Str) : SubS c (stepS rs s x) := by
  unfold stepS
  by_cases q : x ∈ s
  · rw [if_pos q]
    rcases alone_cases rs x s with ⟨e, _⟩ | ⟨y, e, h1, h2⟩
    · rw [e, List.append_nil]; exact h
    · rw [e]
      refine ⟨List.nodup_append.mpr ⟨h.nd, List.nodup_cons.mpr ⟨by simp, List.nodup_nil⟩, fun a ha b hb => ?_⟩, fun z hz => ?_⟩
      · have eb : b = y := by simpa using hb
        rw [eb]
        exact fun e => h2 (by rw [← e]; exact ha)
      · rcases List.mem_append.mp hz with z1 | z1
        · exact h.sub z z1
        · have : z = y := by simpa using z1
          rw [this]
          exact hr.two _ h1
  · rw [if_neg q]; exact h
theorem fold_ok {c : List Str} {rs : List (Str × Str)} (hr : RoadsOk c rs) : ∀ (l s : List Str), SubS c s → SubS c (l.foldl (stepS rs) s)
  | [], _, h => h
  | x :: l, s, h => fold_ok hr l (stepS rs s x) (step_ok hr h x)
theorem passS_eq (rs : List (Str × Str)) (c s : List Str) : passS rs c s = c.foldl (stepS rs) s := rfl
def turnS (rs : List (Str × Str)) (c hs : List Str) (i : Nat) : List Str := (List.range i).foldl (fun s _ => passS rs c s) hs
theorem turnS_succ (rs : List (Str × Str)) (c hs : List Str) (i : Nat) : turnS rs c hs (i + 1) = passS rs c (turnS rs c hs i) := by
  unfold turnS
  rw [List.range_succ, List.foldl_append]
  rfl
theorem turn_ok {c : List Str} {rs : List (Str × Str)} {hs : List Str} (hr : RoadsOk c rs) (hh : HeadsOk c hs) : ∀ i, SubS c (turnS rs c hs i)
  | 0 => ⟨hh.nd, hh.sub⟩
  | i + 1 => by
    rw [turnS_succ, passS_eq]
    exact fold_ok hr c _ (turn_ok hr hh i)
theorem SubS.few {c s : List Str} (h : SubS c s) (hc : CrewOk c) : s.length ≤ 5 := Nat.le_trans (nodup_le h.nd h.sub) hc.five
theorem wp_l_game : WpD 6 3 d_l_game pre_l_game post_l_game := by
  rintro as ⟨c, rs, hs, hc, hr, hh, rfl⟩
  refine ⟨⟨rfl, by decide, by simp [Sl.pure]⟩, ?_⟩
  have out : post_l_game [.im (crewD c), .im (roadsD rs), .im (crewD hs)] (crewL (gameS c rs hs)) := fun c' rs' hs' e => by
    obtain ⟨e1, e2⟩ := cons_inj e
    obtain ⟨e3, e5⟩ := cons_inj e2
    obtain ⟨e6, _⟩ := cons_inj e5
    rw [crewD_inj (im_inj e1), roadsD_inj (im_inj e3), crewD_inj (im_inj e6)]
  generalize post_l_game [.im (crewD c), .im (roadsD rs), .im (crewD hs)] = post at out ⊢
  show d_l_game _ [.im (crewD c), .im (roadsD rs), .im (crewD hs), .e, .e, .e]
  have hcl : (c.map PyData.str).length = c.length := List.length_map _
  have h5 := hc.five
  refine ⟨trivial, ?_⟩
  simp only [dNext, dSeq]
  refine for_of (intsD c.length) [.im (crewD c), .im (roadsD rs), .im (crewD hs), .im (crewL hs), .e, .e] (fun P h => ⟨_, rfl, by rw [hcl]; omega, by rw [hcl]; omega, by rw [hcl]; exact h⟩) (fun i δ' => ∃ s4 s5, δ' = [.im (crewD c), .im (roadsD rs), .im (crewD hs), .im (crewL (turnS rs c hs i)), s4, s5]) ⟨_, _, rfl⟩ ?_ ?_
  · rintro i x δ' _ ⟨s4, s5, rfl⟩
    refine for_of (c.map PyData.str) [.im (crewD c), .im (roadsD rs), .im (crewD hs), .im (crewL (turnS rs c hs i)), .im x, s5] (fun P h => h) (fun j δ' => ∃ s5, δ' = [.im (crewD c), .im (roadsD rs), .im (crewD hs), .im (crewL ((c.take j).foldl (stepS rs) (turnS rs c hs i))), .im x, s5]) ⟨_, rfl⟩ ?_ ?_
    · rintro j y δ' hy ⟨s5', rfl⟩
      obtain ⟨z, hz, rfl⟩ := map_out hy
      have ok := fold_ok hr (c.take j) _ (turn_ok hr hh i)
      have hzc := List.mem_of_getElem? hz
      have ej : (c.take (j + 1)).foldl (stepS rs) (turnS rs c hs i) = stepS rs ((c.take j).foldl (stepS rs) (turnS rs c hs i)) z := by
        rw [take_succ_get hz, List.foldl_append]
        rfl
      generalize (c.take j).foldl (stepS rs) (turnS rs c hs i) = s at ok ej ⊢
      rw [ej]
      refine ⟨(sh_name (hc.sub z hzc)).shaped, (sh_crewL fun w hw => hc.sub w (ok.sub w hw)).shaped, _, rfl, ?_⟩
      rw [in_strs]
      by_cases q : z ∈ s
      · refine ift (decide_eq_true q) ?_
        refine ⟨trivial, trivial, trivial, ⟨c, rs, z, s, hc, hr, ok.sub, rfl⟩, fun r hp => ?_⟩
        have hp := hp _ _ _ rfl
        subst hp
        have e : stepS rs s z = s ++ aloneS rs z s := if_pos q
        have hl := ok.few hc
        have hl2 : (aloneS rs z s).length ≤ 1 := by
          rcases alone_cases rs z s with ⟨e, _⟩ | ⟨y, e, _⟩ <;> rw [e] <;> simp
        refine ⟨small_le (by rw [List.length_map, List.length_map]; omega), trivial, .im (.str z), ?_⟩
        rw [e]
        show [_, _, _, Sl.im (.list (s.map PyData.str ++ (aloneS rs z s).map PyData.str)), _, _] = _
        rw [← List.map_append]
        rfl
      · refine iff0 (decide_eq_false q) ⟨.im (.str z), ?_⟩
        have e : stepS rs s z = s := if_neg q
        rw [e]
        rfl
    · rintro δ' ⟨s5', rfl⟩
      rw [hcl, List.take_of_length_le (Nat.le_refl _)]
      refine ⟨.im x, s5', ?_⟩
      rw [turnS_succ]
      rfl
  · rintro δ' ⟨s4, s5, rfl⟩
    rw [intsD_len]
    exact ⟨trivial, _, rfl, out⟩
/-! ### the game's end is closed -/
theorem step_sup (rs : List (Str × Str)) (s : List Str) (x : Str) : ∀ y ∈ s, y ∈ stepS rs s x := fun y hy => by
  unfold stepS
  by_cases q : x ∈ s
  · rw [if_pos q]; exact List.mem_append_left _ hy
  · rw [if_neg q]; exact hy
theorem step_len (rs : List (Str × Str)) (s : List Str) (x : Str) : s.length ≤ (stepS rs s x).length := by
  unfold stepS
  by_cases q : x ∈ s
  · rw [if_pos q, List.length_append]; omega
  · rw [if_neg q]; exact Nat.le_refl _
theorem fold_sup (rs : List (Str × Str)) : ∀ (l s : List Str), ∀ y ∈ s, y ∈ l.foldl (stepS rs) s
  | [], _, _, h => h
  | x :: l, s, y, h => fold_sup rs l (stepS rs s x) y (step_sup rs s x y h)
theorem fold_len (rs : List (Str × Str)) : ∀ (l s : List Str), s.length ≤ (l.foldl (stepS rs) s).length
  | [], _ => Nat.le_refl _
  | x :: l, s => Nat.le_trans (step_len rs s x) (fold_len rs l (stepS rs s x))
/-- a pass that adds nothing leaves all as it was, and nothing to add -/
theorem fold_still (rs : List (Str × Str)) : ∀ (l s : List Str), (l.foldl (stepS rs) s).length = s.length → l.foldl (stepS rs) s = s ∧ ∀ x ∈ l, x ∈ s → (freshS rs x s).length ≠ 1
  | [], s, _ => ⟨rfl, fun x hx => nomatch hx⟩
  | x :: l, s, h => by
    have h1 := step_len rs s x
    have h2 := fold_len rs l (stepS rs s x)
    have h' : (l.foldl (stepS rs) (stepS rs s x)).length = s.length := h
    have e : stepS rs s x = s ∧ (x ∈ s → (freshS rs x s).length ≠ 1) := by
      unfold stepS at h' h1 h2 ⊢
      by_cases q : x ∈ s
      · rw [if_pos q] at h' h1 h2 ⊢
        rcases alone_cases rs x s with ⟨e, hne⟩ | ⟨y, e, _⟩
        · rw [e, List.append_nil]; exact ⟨rfl, fun _ => hne⟩
        · rw [e, List.length_append] at h2
          rw [e] at h'
          simp only [List.length_cons, List.length_nil] at h2
          omega
      · rw [if_neg q]; exact ⟨rfl, fun z => (q z).elim⟩
    rw [e.1] at h'
    obtain ⟨e2, h3⟩ := fold_still rs l s h'
    refine ⟨?_, fun y hy hs => ?_⟩
    · show l.foldl (stepS rs) (stepS rs s x) = s
      rw [e.1]; exact e2
    · rcases List.mem_cons.mp hy with z | z
      · rw [z] at hs ⊢; exact e.2 hs
      · exact h3 y z hs
theorem turn_grows {c : List Str} {rs : List (Str × Str)} {hs : List Str} : ∀ i, (i ≤ (turnS rs c hs i).length) ∨ (∀ x ∈ c, x ∈ turnS rs c hs i → (freshS rs x (turnS rs c hs i)).length ≠ 1)
  | 0 => .inl (Nat.zero_le _)
  | i + 1 => by
    rw [turnS_succ, passS_eq]
    rcases turn_grows (c := c) (rs := rs) (hs := hs) i with h | h
    · by_cases q : (c.foldl (stepS rs) (turnS rs c hs i)).length = (turnS rs c hs i).length
      · obtain ⟨e, h2⟩ := fold_still rs c _ q
        rw [e]
        exact .inr h2
      · have := fold_len rs c (turnS rs c hs i)
        exact .inl (by omega)
    · right
      have still : ∀ l : List Str, (∀ x ∈ l, x ∈ c) → l.foldl (stepS rs) (turnS rs c hs i) = turnS rs c hs i := by
        intro l
        induction l with
        | nil => intro _; rfl
        | cons x l ih =>
          intro hl
          have e : stepS rs (turnS rs c hs i) x = turnS rs c hs i := by
            unfold stepS
            by_cases q : x ∈ turnS rs c hs i
            · rw [if_pos q]
              have hne := h x (hl x List.mem_cons_self) q
              have : aloneS rs x (turnS rs c hs i) = [] := if_neg hne
              rw [this, List.append_nil]
            · rw [if_neg q]
          show l.foldl (stepS rs) (stepS rs (turnS rs c hs i) x) = _
          rw [e]
          exact ih fun y hy => hl y (List.mem_cons_of_mem _ hy)
      rw [still c fun _ h => h]
      exact h
theorem game_ok {c : List Str} {rs : List (Str × Str)} {hs : List Str} (hc : CrewOk c) (hr : RoadsOk c rs) (hh : HeadsOk c hs) : SureOk c rs hs (gameS c rs hs) := by
  have e : gameS c rs hs = turnS rs c hs c.length := rfl
  rw [e]
  have ok := turn_ok hr hh c.length
  refine ⟨ok.nd, ok.sub, ?_, ?_⟩
  · have sup : ∀ i, ∀ x ∈ hs, x ∈ turnS rs c hs i := by
      intro i
      induction i with
      | zero => exact fun x h => h
      | succ i ih =>
        intro x hx
        rw [turnS_succ, passS_eq]
        exact fold_sup rs c _ x (ih x hx)
    exact sup c.length
  · rcases turn_grows (c := c) (rs := rs) (hs := hs) c.length with h | h
    · -- all are known
      have hle := nodup_le ok.nd ok.sub
      have all : ∀ y ∈ c, y ∈ turnS rs c hs c.length := fun y hy => Classical.byContradiction fun hn => by
        have h1 := nodup_le (l := y :: turnS rs c hs c.length) (m := c) (List.nodup_cons.mpr ⟨hn, ok.nd⟩) fun z hz => (List.mem_cons.mp hz).elim (fun e => by rw [e]; exact hy) (ok.sub z)
        rw [List.length_cons] at h1
        omega
      intro x _ hl
      have hnil : freshS rs x (turnS rs c hs c.length) = [] := List.eq_nil_iff_forall_not_mem.mpr fun y hy => by
        obtain ⟨h1, h2⟩ := mem_fresh.mp hy
        exact h2 (all y (hr.two _ h1))
      rw [hnil] at hl
      cases hl
    · exact fun x hx => h x (ok.sub x hx) hx
theorem wp_l_wide_share : WpK 2 1 d_l_wide_share pre_l_wide_share post_l_wide_share := by
  rintro k as ⟨hk, rfl⟩
  refine ⟨⟨rfl, by decide, by simp [Sl.pure]⟩, fun l => ?_⟩
  have out : ∀ (q : Rat) (k' : List D), Used 3 k k' → FrM Mday 61 q → post_l_wide_share k [] (fr q) k' := fun q k' hU hq => ⟨hU, q, rfl, hq⟩
  generalize post_l_wide_share k [] = post at out ⊢
  show d_l_wide_share _ [.own false l k, .e]
  have pw : L2.CPow 10 9 := ⟨by decide, by decide, by decide⟩
  have pw2 : L2.CPow 10 18 := ⟨by decide, by decide, by decide⟩
  refine ⟨_, rfl, _, rfl, trivial, ⟨hk.mono (by decide), 2, by decide, by decide, rfl⟩, fun r k1 hp1 => ?_⟩
  obtain ⟨hU1, a, rfl, ha0, ha⟩ := hp1
  have ha := ha _ rfl
  have ba : Bz 3 (1 - 2 * a) := by unfold Bz; omega
  have ba2 : Bz 2 a := by unfold Bz; omega
  refine ⟨mulB (show Bz 3 2 by decide) ba2, _, rfl, _, rfl, _, rfl, pw, trivial, ⟨hU1.ok hk (by decide), 1000000000, by decide, by decide, rfl⟩, fun r k2 hp2 => ?_⟩
  obtain ⟨hU2, b, rfl, hb0, hb⟩ := hp2
  have hb : b < 1000000000 := hb _ rfl
  have bb : Bz 30 (1 + b) := by unfold Bz; omega
  refine ⟨mulB ba bb, _, rfl, _, rfl, _, rfl, pw, trivial, ⟨(hU1.trans hU2).ok hk (by decide), 1000000000, by decide, by decide, rfl⟩, fun r k3 hp3 => ?_⟩
  obtain ⟨hU3, d, rfl, hd0, hd⟩ := hp3
  have hd : d < 1000000000 := hd _ rfl
  have bd : Bz 30 (1 + d) := by unfold Bz; omega
  have b61 : Bz 61 ((1 - 2 * a) * (1 + b) * (1 + d)) := by
    have e1 : (1 - 2 * a).natAbs = 1 := by omega
    have h2 : (1 + b).natAbs ≤ 1000000000 := by omega
    have h3 : (1 + d).natAbs ≤ 1000000000 := by omega
    unfold Bz
    rw [Int.natAbs_mul, Int.natAbs_mul, e1, Nat.one_mul]
    have := Nat.mul_le_mul h2 h3
    exact Nat.lt_of_le_of_lt this (by decide)
  refine ⟨mulB (ba.mul bb) bd, trivial, ?_⟩
  refine ⟨trivial, _, rfl, pw2, _, rfl, trivial, ⟨_, _, by decide, b61.mono (by decide), (show Bz 60 1000000000000000009 by decide).mono (by decide), rfl⟩, fun r hp => ?_⟩
  have hp := hp _ _ (by decide) rfl
  subst hp
  exact ⟨trivial, _, k3, rfl, rfl, out _ k3 ((hU1.trans hU2).trans hU3) ⟨_, rfl, b61⟩⟩
end Dl

end
section
set_option Elab.async false
set_option linter.all false
set_option maxRecDepth 100000
set_option maxHeartbeats 4000000
set_option autoImplicit false
/-! Walks over data: the keg's making, tables. -/
namespace Dl
open PySem
theorem bz_small {n : Nat} {z : Int} (b : Nat) (h : z.natAbs ≤ n) (hn : n < 2 ^ b) : Bz b z := Nat.lt_of_le_of_lt h hn
theorem wp_l_keg : WpF 5 2 d_l_keg pre_l_keg post_l_keg := by
  rintro as ⟨ns, i, hl, hb, rfl, hi⟩
  refine ⟨⟨rfl, by decide, by simp [Sl.pure]⟩, ?_⟩
  have out : ∀ r, KegOk 1 r → post_l_keg [.sq (ns.map PyData.int), .im (.int (i : Nat))] r := fun r h => h
  generalize post_l_keg [.sq (ns.map PyData.int), .im (.int (i : Nat))] = post at out ⊢
  show d_l_keg _ [.sq (ns.map PyData.int), .im (.int (i : Nat)), .e, .e, .e]
  have hll : (ns.map PyData.int).length = ns.length := List.length_map _
  have main : ∀ z : Int, Bz 1048577 z → (dSeq (dAsg (dBin oAdd (dC (.int 693147)) (dBin oMul (dC (.int 40009)) (dVar 1))) (gN 3))
      (dSeq (dFor (iRange (dB2 oMin2 (dLen (dVar 0)) (dC (.int 8)))) (gN 4) (dAsg (dBin oMod (dUn oInt (dBin oAdd (dBin oAdd (dBinV oMul 3 (dBin oAdd (dC (.int 30089)) (dBin oMul (dC (.int 12)) (dVar 4)))) (dBin oMul (dC (.int 31)) (dIxV 0 (dVar 4)))) (dC (.int 13007)))) (dC (.int 2147483137))) (gN 3)))
      (dRetF (fLst (dCons (dIfE (dOrT (dTst (dBinV oLt 2 (dC (.int 0)))) (dTst (dBinV oGe 2 (dBin oPow (dC (.int 10)) (dC (.int 18)))))) (dUn oAbs (dVar 2)) (dC (.int 0))) (dCons (dBin oMod (dUn oInt (dBin oAdd (dBinV oMul 3 (dC (.int 19))) (dBinV oMul 2 (dC (.int 1009))))) (dC (.int 2147483137))) (dCons (dC (.int 1)) dNil)))))))
      { nx := fun x => False, rt := fun s x => ∃ l r, s = Sl.own true l r ∧ post r } [.sq (ns.map PyData.int), .im (.int (i : Nat)), .im (.int z), .e, .e] := by
    intro z hz
    have bi : Bz 3 (i : Int) := by unfold Bz; omega
    refine ⟨_, rfl, _, rfl, mulB (show Bz 16 40009 by decide) bi, trivial, ?_⟩
    simp only [dNext, dSeq]
    have bm0 : Bz 40 (693147 + 40009 * (i : Int)) := bz_small (n := 1000000) 40 (by omega) (by decide)
    generalize 693147 + 40009 * (i : Int) = m0 at bm0
    have hmin : ∀ P : Int → Prop, P ((min ns.length 8 : Nat) : Int) → P (if (8 : Int) < ((ns.map PyData.int).length : Int) then 8 else ((ns.map PyData.int).length : Int)) := fun P h => by
      rw [hll]
      by_cases q : (8 : Int) < (ns.length : Int)
      · rw [if_pos q]
        have : min ns.length 8 = 8 := by omega
        rw [this] at h; exact h
      · rw [if_neg q]
        have : min ns.length 8 = ns.length := by omega
        rw [this] at h; exact h
    refine for_of (intsD (min ns.length 8)) [.sq (ns.map PyData.int), .im (.int (i : Nat)), .im (.int z), .im (.int m0), .e] (fun P h => ?_) (fun k δ' => ∃ m s4, δ' = [.sq (ns.map PyData.int), .im (.int (i : Nat)), .im (.int z), .im (.int m), s4] ∧ Bz 40 m) ⟨m0, _, rfl, bm0⟩ ?_ ?_
    · refine ⟨_, rfl, _, rfl, _, rfl, ?_⟩
      refine hmin (fun n => n < 2 ^ 62 ∧ -(2 ^ 62) ≤ n ∧ P (intsD n.toNat) _) ⟨by omega, by omega, ?_⟩
      rw [Int.toNat_natCast]
      exact h
    · rintro k y δ' hy ⟨m, s4, rfl, hm⟩
      have hk : k < min ns.length 8 := by
        have := (List.getElem?_eq_some_iff.mp hy).1
        rw [intsD_len] at this
        exact this
      rw [intsD_get hk] at hy
      cases hy
      have hn := of_lt (0 : Int) (show k < ns.length by omega)
      have bn := hb _ (List.mem_of_getElem? hn)
      have bk : Bz 4 (k : Int) := by unfold Bz; omega
      have bk2 : Bz 40 (30089 + 12 * (k : Int)) := bz_small (n := 1000000) 40 (by omega) (by decide)
      refine ⟨_, rfl, _, rfl, mulB (show Bz 4 12 by decide) bk, mulB hm bk2, _, rfl, _, rfl, .int (ns.getD k 0), atI_nat ?_, mulB (show Bz 5 31 by decide) bn, _, rfl, _, rfl, by decide, trivial, _, _, rfl, ?_⟩
      · rw [List.getElem?_map, hn]; rfl
      · refine bz_small (n := 2147483137) 40 ?_ (by decide)
        have h1 := Int.emod_nonneg (m * (30089 + 12 * (k : Int)) + 31 * ns.getD k 0 + 13007) (show (2147483137 : Int) ≠ 0 by decide)
        have h2 := Int.emod_lt_of_pos (m * (30089 + 12 * (k : Int)) + 31 * ns.getD k 0 + 13007) (show (0 : Int) < 2147483137 by decide)
        omega
    · rintro δ' ⟨m, s4, rfl, hm⟩
      have fin : ∀ a : Int, 0 ≤ a → Bz 1048577 a → KegOk 1 [.int a, .int ((m * 19 + z * 1009) % 2147483137), .int 1] := fun a h1 h2 => ⟨_, _, _, rfl, h1, h2, Int.emod_nonneg _ (by decide), Int.emod_lt_of_pos _ (by decide), by decide, by decide⟩
      have rest : ∀ a : Int, 0 ≤ a → Bz 1048577 a → ∀ l : Addr, ∃ l' r, Sl.own true l [.int a, .int ((m * 19 + z * 1009) % 2147483137), .int 1] = Sl.own true l' r ∧ post r := fun a h1 h2 l => ⟨l, _, rfl, out _ (fin a h1 h2)⟩
      refine ⟨_, rfl, ?_⟩
      by_cases q1 : z < 0
      · refine ift (decide_eq_true q1) ?_
        refine ⟨trivial, mulB hm (show Bz 5 19 by decide), _, rfl, mulB hz (show Bz 10 1009 by decide), _, rfl, by decide, trivial, trivial, _, rfl, by show 3 ≤ sizeLine; decide, fun l _ => rest _ ?_ ?_ l⟩
        · rw [if_pos q1]; omega
        · rw [if_pos q1]; exact hz.neg
      · refine iff0 (decide_eq_false q1) ?_
        refine ⟨_, rfl, ⟨by decide, by decide, by decide⟩, _, rfl, ?_⟩
        by_cases q2 : (10 : Int) ^ (18 : Int).toNat ≤ z
        · refine ift (decide_eq_true q2) ?_
          refine ⟨trivial, mulB hm (show Bz 5 19 by decide), _, rfl, mulB hz (show Bz 10 1009 by decide), _, rfl, by decide, trivial, trivial, _, rfl, by show 3 ≤ sizeLine; decide, fun l _ => rest _ ?_ ?_ l⟩
          · rw [if_neg q1]; omega
          · rw [if_neg q1]; exact hz
        · refine iff0 (decide_eq_false q2) ?_
          refine ⟨trivial, mulB hm (show Bz 5 19 by decide), _, rfl, mulB hz (show Bz 10 1009 by decide), _, rfl, by decide, trivial, trivial, _, rfl, by show 3 ≤ sizeLine; decide, fun l _ => rest 0 (by decide) ((show Bz 1 0 by decide).mono (by decide)) l⟩
  refine ⟨_, rfl, ?_⟩
  rw [hll]
  by_cases q : (i : Int) < (ns.length : Int)
  · refine ift (decide_eq_true q) ?_
    have hn := of_lt (0 : Int) (show i < ns.length by omega)
    refine ⟨.int (ns.getD i 0), atI_nat ?_, trivial, main _ (hb _ (List.mem_of_getElem? hn))⟩
    rw [List.getElem?_map, hn]; rfl
  · refine iff0 (decide_eq_false q) ?_
    exact ⟨trivial, main 0 ((show Bz 1 0 by decide).mono (by decide))⟩
end Dl

end
section
set_option Elab.async false
set_option linter.all false
set_option maxRecDepth 100000
set_option maxHeartbeats 4000000
set_option autoImplicit false
/-! Walks over data: tables of strengths drawn. -/
namespace Dl
open PySem
/-- a table whose cells are so -/
structure CellsT (n m : Nat) (P : Nat → Nat → Int → Prop) (t : List (List Int)) : Prop where
  len : t.length = m
  rows : ∀ r ∈ t, r.length = n
  cell : ∀ i j, i < m → j < n → P i j (ent t i j)
theorem getD_app_lt {α : Type} {xs : List α} {y d : α} {i : Nat} (h : i < xs.length) : (xs ++ [y]).getD i d = xs.getD i d := by
  rw [List.getD_eq_getElem?_getD, List.getD_eq_getElem?_getD, List.getElem?_append_left h]
theorem getD_app_eq {α : Type} {xs : List α} {y d : α} : (xs ++ [y]).getD xs.length d = y := by
  rw [List.getD_eq_getElem?_getD, List.getElem?_append_right (Nat.le_refl _), Nat.sub_self]
  rfl
theorem CellsT.nil {n : Nat} {P : Nat → Nat → Int → Prop} : CellsT n 0 P [] := ⟨rfl, (fun r h => nomatch h), fun i j h => absurd h (Nat.not_lt_zero i)⟩
theorem CellsT.snoc {n m : Nat} {P : Nat → Nat → Int → Prop} {t : List (List Int)} {r : List Int} (h : CellsT n m P t) (hl : r.length = n) (hr : ∀ j, j < n → P m j (r.getD j 0)) : CellsT n (m + 1) P (t ++ [r]) := by
  refine ⟨by rw [List.length_append, h.len]; rfl, fun q hq => ?_, fun i j hi hj => ?_⟩
  · rcases List.mem_append.mp hq with z | z
    · exact h.rows q z
    · have : q = r := by simpa using z
      rw [this]; exact hl
  · unfold ent
    by_cases q : i < m
    · rw [getD_app_lt (by rw [h.len]; exact q)]
      exact h.cell i j q hj
    · have e : i = t.length := by rw [h.len]; omega
      rw [e, getD_app_eq, h.len]
      exact hr j hj
def CellsR (k : Nat) (P : Nat → Int → Prop) (r : List Int) : Prop := r.length = k ∧ ∀ j, j < k → P j (r.getD j 0)
theorem CellsR.snoc {k : Nat} {P : Nat → Int → Prop} {r : List Int} {x : Int} (h : CellsR k P r) (hx : P k x) : CellsR (k + 1) P (r ++ [x]) := by
  refine ⟨by rw [List.length_append, h.1]; rfl, fun j hj => ?_⟩
  by_cases q : j < k
  · rw [getD_app_lt (by rw [h.1]; exact q)]
    exact h.2 j q
  · have e : j = r.length := by rw [h.1]; omega
    rw [e, getD_app_eq, h.1]
    exact hx
def farP (c : List Str) (rs : List (Str × Str)) (far : Int) (i j : Nat) (x : Int) : Prop := (-far ≤ x ∧ x ≤ far) ∧ (i ≠ j → (x ≠ 0 ↔ (c.getD j "", c.getD i "") ∈ rs))
def edgeP (c : List Str) (rs : List (Str × Str)) (m : Int) (i j : Nat) (x : Int) : Prop := if i = j ∨ (c.getD j "", c.getD i "") ∈ rs then x = m ∨ x = -m else x = 0
theorem CellsT.sq {n : Nat} {P : Nat → Nat → Int → Prop} {t : List (List Int)} (h : CellsT n n P t) : Sq n t := ⟨h.len, h.rows⟩
theorem CellsT.mem {n : Nat} {P : Nat → Nat → Int → Prop} {t : List (List Int)} (h : CellsT n n P t) {r : List Int} (hr : r ∈ t) {x : Int} (hx : x ∈ r) : ∃ i j, i < n ∧ j < n ∧ P i j x := by
  obtain ⟨i, hi⟩ := List.mem_iff_getElem?.mp hr
  obtain ⟨j, hj⟩ := List.mem_iff_getElem?.mp hx
  have h1 := (List.getElem?_eq_some_iff.mp hi).1
  have h2 := (List.getElem?_eq_some_iff.mp hj).1
  rw [h.len] at h1
  rw [h.rows r hr] at h2
  have := h.cell i j h1 h2
  rw [ent_of hi, getD_of hj] at this
  exact ⟨i, j, h1, h2, this⟩
theorem nd_get {c : List Str} (nd : c.Nodup) {i j : Nat} {x : Str} (hi : c[i]? = some x) (hj : c[j]? = some x) : i = j :=
  (List.getElem?_inj (List.getElem?_eq_some_iff.mp hi).1 nd).mp (hi.trans hj.symm)
theorem sh_pair {x y : Str} (h1 : x ∈ names14) (h2 : y ∈ names14) : SeqAt.shaped (.tuple [.str x, .str y]) = true := (sh_road (r := (x, y)) h1 h2).shaped
theorem wp_l_edge : WpK 9 4 d_l_edge pre_l_edge post_l_edge := by
  rintro k as ⟨hk, c, rs, m, hc, hr, hm1, hm2, rfl⟩
  refine ⟨⟨rfl, by decide, by simp [Sl.pure]⟩, fun l => ?_⟩
  have out : ∀ (t : List (List Int)) (k' : List D), Used 100 k k' → CellsT c.length c.length (edgeP c rs m) t → post_l_edge k [.im (crewD c), .im (roadsD rs), .im (.int m)] (tabD t) k' := fun t k' hU ht => ⟨hU, fun c' rs' m' _ _ e => by
    obtain ⟨e1, e2⟩ := cons_inj e
    obtain ⟨e3, e4⟩ := cons_inj e2
    obtain ⟨e5, _⟩ := cons_inj e4
    have e6 := im_inj e5
    injection e6 with e6
    rw [← crewD_inj (im_inj e1), ← roadsD_inj (im_inj e3), ← e6]
    exact ⟨t, rfl, ht.sq, fun i j hi hj => ht.cell i j hi hj⟩⟩
  generalize post_l_edge k [.im (crewD c), .im (roadsD rs), .im (.int m)] = post at out ⊢
  show d_l_edge _ [.own false l k, .im (crewD c), .im (roadsD rs), .im (.int m), .e, .e, .e, .e, .e]
  have hcl : (c.map PyData.str).length = c.length := List.length_map _
  have h5 := hc.five
  refine ⟨[], rfl, Nat.zero_le _, fun l4 _ => ?_⟩
  simp only [dNext, dSeq]
  refine for_of (c.map PyData.str) [.own false l k, .im (crewD c), .im (roadsD rs), .im (.int m), .own true l4 [], .e, .e, .e, .e] (fun P h => h) (fun i δ' => ∃ k' t s5 s6 s7 s8, δ' = [.own false l k', .im (crewD c), .im (roadsD rs), .im (.int m), .own true l4 (t.map rowD), s5, s6, s7, s8] ∧ Used (5 * i) k k' ∧ CellsT c.length i (edgeP c rs m) t) ⟨k, [], _, _, _, _, rfl, Used.refl k, CellsT.nil⟩ ?_ ?_
  · rintro i x δ' hx ⟨k', t, s5, s6, s7, s8, rfl, hU, hT⟩
    obtain ⟨y, hy, rfl⟩ := map_out hx
    have hi : i < c.length := (List.getElem?_eq_some_iff.mp hy).1
    have ey : c.getD i "" = y := getD_of hy
    refine ⟨[], rfl, Nat.zero_le _, fun l6 _ => ?_⟩
    simp only [dNext, dSeq]
    refine for_of (c.map PyData.str) [.own false l k', .im (crewD c), .im (roadsD rs), .im (.int m), .own true l4 (t.map rowD), .im (.str y), .own true l6 [], s7, s8] (fun P h => h) (fun j δ' => ∃ k' r s7 s8, δ' = [.own false l k', .im (crewD c), .im (roadsD rs), .im (.int m), .own true l4 (t.map rowD), .im (.str y), .own true l6 (r.map PyData.int), s7, s8] ∧ Used (5 * i + j) k k' ∧ CellsR j (edgeP c rs m i) r) ⟨k', [], _, _, rfl, hU, rfl, fun j h => absurd h (Nat.not_lt_zero j)⟩ ?_ ?_
    · rintro j x2 δ' hx2 ⟨k2, r, s7, s8, rfl, hU2, hR⟩
      obtain ⟨w, hw, rfl⟩ := map_out hx2
      have hj : j < c.length := (List.getElem?_eq_some_iff.mp hw).1
      have ew : c.getD j "" = w := getD_of hw
      have nw := hc.sub w (List.mem_of_getElem? hw)
      have ny := hc.sub y (List.mem_of_getElem? hy)
      refine ⟨trivial, ⟨hU2.ok hk (by show 800000 + (5 * i + j) ≤ 1000000; omega), 2, by decide, by decide, rfl⟩, fun v k3 hp3 => ?_⟩
      obtain ⟨hU3, v, rfl, _, _⟩ := hp3
      have go : ∀ z : Int, z = m ∨ z = -m → (dApp 6 (dIfE (dOrT (dTst (dBinV oEq 7 (dVar 5))) (dTst (dBin oIn (dTup (dCons (dVar 7) (dCons (dVar 5) dNil))) (dVar 2)))) (dVar 8) (dC (.int 0))) : DTS) { nx := fun δ' => ∃ k' r s7 s8, δ' = [.own false l k', .im (crewD c), .im (roadsD rs), .im (.int m), .own true l4 (t.map rowD), .im (.str y), .own true l6 (r.map PyData.int), s7, s8] ∧ Used (5 * i + (j + 1)) k k' ∧ CellsR (j + 1) (edgeP c rs m i) r, rt := fun _ _ => True } [.own false l k3, .im (crewD c), .im (roadsD rs), .im (.int m), .own true l4 (t.map rowD), .im (.str y), .own true l6 (r.map PyData.int), .im (.str w), .im (.int z)] := by
        intro z hz
        have hlen : (r.map PyData.int).length < sizeLine := by rw [List.length_map, hR.1]; exact small_lt (by omega)
        have fin : ∀ x : Int, edgeP c rs m i j x → ∃ k' r' s7 s8, ([Sl.own false l k3, .im (crewD c), .im (roadsD rs), .im (.int m), .own true l4 (t.map rowD), .im (.str y), .own true l6 (r.map PyData.int), .im (.str w), .im (.int z)] : DE).set 6 (.own true l6 (r.map PyData.int ++ [.int x])) = [.own false l k', .im (crewD c), .im (roadsD rs), .im (.int m), .own true l4 (t.map rowD), .im (.str y), .own true l6 (r'.map PyData.int), s7, s8] ∧ Used (5 * i + (j + 1)) k k' ∧ CellsR (j + 1) (edgeP c rs m i) r' := fun x hx => ⟨k3, r ++ [x], .im (.str w), .im (.int z), by rw [List.map_append]; rfl, (hU2.trans hU3).mono (by omega), hR.snoc hx⟩
        refine ⟨trivial, _, rfl, ?_⟩
        by_cases q : w = y
        · have eij : i = j := nd_get hc.nd hy (by rw [hw, q])
          refine ift (decide_eq_true q) ⟨_, rfl, hlen, fin z ?_⟩
          unfold edgeP
          rw [if_pos (.inl eij)]
          exact hz
        · have nij : i ≠ j := fun e => q (by subst e; rw [hy] at hw; exact (Option.some.inj hw).symm)
          refine iff0 (decide_eq_false q) ?_
          refine ⟨trivial, trivial, _, rfl, by show 2 ≤ sizeLine; decide, _, rfl, sh_pair nw ny, (sh_roadsL (hr.nm hc)).shaped, _, rfl, ?_⟩
          have e1 : ((rs.map roadD).any fun z => PyData.eqv z (.tuple [.str w, .str y])) = decide ((w, y) ∈ rs) := in_roads (w, y) rs
          rw [e1]
          by_cases q2 : (w, y) ∈ rs
          · refine ift (decide_eq_true q2) ⟨_, rfl, hlen, fin z ?_⟩
            unfold edgeP
            rw [ew, ey, if_pos (.inr q2)]
            exact hz
          · refine iff0 (decide_eq_false q2) ⟨_, rfl, hlen, fin 0 ?_⟩
            unfold edgeP
            rw [ew, ey, if_neg (fun h => h.elim nij q2)]
      refine ⟨_, rfl, _, rfl, ?_⟩
      by_cases q0 : v = 0
      · refine ift (decide_eq_true q0) ⟨trivial, ?_⟩
        exact go m (.inl rfl)
      · refine iff0 (decide_eq_false q0) ⟨_, rfl, trivial, ?_⟩
        rw [Int.zero_sub]
        exact go (-m) (.inr rfl)
    · rintro δ' ⟨k2, r, s7, s8, rfl, hU2, hR⟩
      rw [hcl] at hU2 hR
      refine ⟨trivial, _, rfl, by rw [List.length_map, hT.len]; exact small_lt (by omega), k2, t ++ [r], .im (.str y), .own true l6 (r.map PyData.int), s7, s8, ?_, hU2.mono (by omega), hT.snoc hR.1 hR.2⟩
      rw [List.map_append]
      rfl
  · rintro δ' ⟨k', t, s5, s6, s7, s8, rfl, hU, hT⟩
    rw [hcl] at hU hT
    exact ⟨trivial, _, k', rfl, rfl, out t k' (hU.mono (by omega)) hT⟩
end Dl

end
section
set_option Elab.async false
set_option linter.all false
set_option maxRecDepth 100000
set_option maxHeartbeats 4000000
set_option autoImplicit false
/-! Walks over data: a table drawn. -/
namespace Dl
open PySem
theorem wp_l_table : WpK 9 4 d_l_table pre_l_table post_l_table := by
  rintro k as ⟨hk, c, rs, far, hc, hr, hm1, hm2, rfl⟩
  refine ⟨⟨rfl, by decide, by simp [Sl.pure]⟩, fun l => ?_⟩
  have out : ∀ (t : List (List Int)) (k' : List D), Used 100 k k' → CellsT c.length c.length (farP c rs far) t → post_l_table k [.im (crewD c), .im (roadsD rs), .im (.int far)] (tabD t) k' := fun t k' hU ht => ⟨hU, fun c' rs' m' _ _ e => by
    obtain ⟨e1, e2⟩ := cons_inj e
    obtain ⟨e3, e4⟩ := cons_inj e2
    obtain ⟨e5, _⟩ := cons_inj e4
    have e6 := im_inj e5
    injection e6 with e6
    rw [← crewD_inj (im_inj e1), ← roadsD_inj (im_inj e3), ← e6]
    refine ⟨t, rfl, ht.sq, fun r hr x hx => ?_, fun i j hi hj hij => (ht.cell i j hi hj).2 hij⟩
    obtain ⟨i, j, _, _, h⟩ := ht.mem hr hx
    exact h.1⟩
  generalize post_l_table k [.im (crewD c), .im (roadsD rs), .im (.int far)] = post at out ⊢
  show d_l_table _ [.own false l k, .im (crewD c), .im (roadsD rs), .im (.int far), .e, .e, .e, .e, .e]
  have hcl : (c.map PyData.str).length = c.length := List.length_map _
  have h5 := hc.five
  refine ⟨[], rfl, Nat.zero_le _, fun l4 _ => ?_⟩
  simp only [dNext, dSeq]
  refine for_of (c.map PyData.str) [.own false l k, .im (crewD c), .im (roadsD rs), .im (.int far), .own true l4 [], .e, .e, .e, .e] (fun P h => h) (fun i δ' => ∃ k' t s5 s6 s7 s8, δ' = [.own false l k', .im (crewD c), .im (roadsD rs), .im (.int far), .own true l4 (t.map rowD), s5, s6, s7, s8] ∧ Used (15 * i) k k' ∧ CellsT c.length i (farP c rs far) t) ⟨k, [], _, _, _, _, rfl, Used.refl k, CellsT.nil⟩ ?_ ?_
  · rintro i x δ' hx ⟨k', t, s5, s6, s7, s8, rfl, hU, hT⟩
    obtain ⟨y, hy, rfl⟩ := map_out hx
    have hi : i < c.length := (List.getElem?_eq_some_iff.mp hy).1
    have ey : c.getD i "" = y := getD_of hy
    refine ⟨[], rfl, Nat.zero_le _, fun l6 _ => ?_⟩
    simp only [dNext, dSeq]
    refine for_of (c.map PyData.str) [.own false l k', .im (crewD c), .im (roadsD rs), .im (.int far), .own true l4 (t.map rowD), .im (.str y), .own true l6 [], s7, s8] (fun P h => h) (fun j δ' => ∃ k' r s7 s8, δ' = [.own false l k', .im (crewD c), .im (roadsD rs), .im (.int far), .own true l4 (t.map rowD), .im (.str y), .own true l6 (r.map PyData.int), s7, s8] ∧ Used (15 * i + 3 * j) k k' ∧ CellsR j (farP c rs far i) r) ⟨k', [], _, _, rfl, hU, rfl, fun j h => absurd h (Nat.not_lt_zero j)⟩ ?_ ?_
    · rintro j x2 δ' hx2 ⟨k2, r, s7, s8, rfl, hU2, hR⟩
      obtain ⟨w, hw, rfl⟩ := map_out hx2
      have hj : j < c.length := (List.getElem?_eq_some_iff.mp hw).1
      have ew : c.getD j "" = w := getD_of hw
      have nw := hc.sub w (List.mem_of_getElem? hw)
      have ny := hc.sub y (List.mem_of_getElem? hy)
      refine ⟨_, rfl, trivial, ⟨hU2.ok hk (by show 800000 + (15 * i + 3 * j) ≤ 1000000; omega), far, hm1, by omega, rfl⟩, fun v k3 hp3 => ?_⟩
      obtain ⟨hU3, v, rfl, hv0, hv1⟩ := hp3
      have hv1 := hv1 _ rfl
      refine ⟨trivial, trivial, ⟨(hU2.trans hU3).ok hk (by show 800000 + (15 * i + 3 * j + 1) ≤ 1000000; omega), 2, by decide, by decide, rfl⟩, fun v2 k4 hp4 => ?_⟩
      obtain ⟨hU4, v2, rfl, _, _⟩ := hp4
      have hU5 := (hU2.trans hU3).trans hU4
      have hlen : (r.map PyData.int).length < sizeLine := by rw [List.length_map, hR.1]; exact small_lt (by omega)
      have go : ∀ z : Int, z ≠ 0 → -far ≤ z → z ≤ far → (dSeq (dIf (dTst (dBinV oEq 7 (dVar 5))) (dAsg (dCallK 0 pre_l_pick post_l_pick (dCons (dFr (fLst (dCons (dC (.int 0)) (dCons (dC (.int 0)) (dCons (dVar 8) dNil))))) dNil)) (gN 8)) (dIf (dTst (dBin oNotIn (dTup (dCons (dVar 7) (dCons (dVar 5) dNil))) (dVar 2))) (dAsg (dC (.int 0)) (gN 8)) dNext))
          (dApp 6 (dVar 8)) : DTS) { nx := fun δ' => ∃ k' r s7 s8, δ' = [.own false l k', .im (crewD c), .im (roadsD rs), .im (.int far), .own true l4 (t.map rowD), .im (.str y), .own true l6 (r.map PyData.int), s7, s8] ∧ Used (15 * i + 3 * (j + 1)) k k' ∧ CellsR (j + 1) (farP c rs far i) r, rt := fun _ _ => True } [.own false l k4, .im (crewD c), .im (roadsD rs), .im (.int far), .own true l4 (t.map rowD), .im (.str y), .own true l6 (r.map PyData.int), .im (.str w), .im (.int z)] := by
        intro z hz0 hz1 hz2
        have fin : ∀ (k5 : List D) (x : Int), Used (15 * i + 3 * (j + 1)) k k5 → farP c rs far i j x → ∃ k' r' s7 s8, ([Sl.own false l k5, .im (crewD c), .im (roadsD rs), .im (.int far), .own true l4 (t.map rowD), .im (.str y), .own true l6 (r.map PyData.int ++ [.int x]), .im (.str w), .im (.int x)] : DE) = [.own false l k', .im (crewD c), .im (roadsD rs), .im (.int far), .own true l4 (t.map rowD), .im (.str y), .own true l6 (r'.map PyData.int), s7, s8] ∧ Used (15 * i + 3 * (j + 1)) k k' ∧ CellsR (j + 1) (farP c rs far i) r' := fun k5 x hU6 hx => ⟨k5, r ++ [x], .im (.str w), .im (.int x), by rw [List.map_append]; rfl, hU6, hR.snoc hx⟩
        refine ⟨_, rfl, ?_⟩
        by_cases q : w = y
        · have eij : i = j := nd_get hc.nd hy (by rw [hw, q])
          refine ift (decide_eq_true q) ?_
          refine ⟨trivial, trivial, trivial, [.int 0, .int 0, .int z], rfl, by show 3 ≤ sizeLine; decide, trivial, ⟨hU5.ok hk (by show 800000 + (15 * i + 3 * j + 1 + 1) ≤ 1000000; omega), .list [.int 0, .int 0, .int z], trivial, by show 1 ≤ 3; decide, by show 3 ≤ 1000; decide, rfl⟩, fun v5 k5 hp5 => ?_⟩
          obtain ⟨hU6, hp5⟩ := hp5
          have hp5 := hp5 _ rfl
          have hcase : v5 = .int 0 ∨ v5 = .int z := by
            simp [seqOf] at hp5
            exact hp5
          have hU7 : Used (15 * i + 3 * (j + 1)) k k5 := (hU5.trans hU6).mono (by omega)
          rcases hcase with rfl | rfl
          · exact ⟨trivial, trivial, _, rfl, hlen, fin k5 0 hU7 ⟨⟨by omega, by omega⟩, fun h => (h eij).elim⟩⟩
          · exact ⟨trivial, trivial, _, rfl, hlen, fin k5 z hU7 ⟨⟨hz1, hz2⟩, fun h => (h eij).elim⟩⟩
        · have nij : i ≠ j := fun e => q (by subst e; rw [hy] at hw; exact (Option.some.inj hw).symm)
          refine iff0 (decide_eq_false q) ?_
          have hU7 : Used (15 * i + 3 * (j + 1)) k k4 := hU5.mono (by omega)
          refine ⟨trivial, trivial, _, rfl, by show 2 ≤ sizeLine; decide, _, rfl, sh_pair nw ny, (sh_roadsL (hr.nm hc)).shaped, _, rfl, ?_⟩
          have e1 : ((rs.map roadD).any fun z => PyData.eqv z (.tuple [.str w, .str y])) = decide ((w, y) ∈ rs) := in_roads (w, y) rs
          rw [e1]
          by_cases q2 : (w, y) ∈ rs
          · refine iff0 (by rw [decide_eq_true q2]; rfl) ?_
            refine ⟨trivial, _, rfl, hlen, fin k4 z hU7 ⟨⟨hz1, hz2⟩, fun _ => ?_⟩⟩
            rw [ew, ey]
            exact ⟨fun _ => q2, fun _ => hz0⟩
          · refine ift (by rw [decide_eq_false q2]; rfl) ?_
            refine ⟨trivial, trivial, _, rfl, hlen, fin k4 0 hU7 ⟨⟨by omega, by omega⟩, fun _ => ?_⟩⟩
            rw [ew, ey]
            exact ⟨fun h => (h rfl).elim, fun h => (q2 h).elim⟩
      refine ⟨_, rfl, _, rfl, ?_⟩
      by_cases q0 : v2 = 0
      · refine ift (decide_eq_true q0) ⟨trivial, ?_⟩
        exact go (1 + v) (by omega) (by omega) (by omega)
      · refine iff0 (decide_eq_false q0) ⟨_, rfl, trivial, ?_⟩
        exact go (0 - (1 + v)) (by omega) (by omega) (by omega)
    · rintro δ' ⟨k2, r, s7, s8, rfl, hU2, hR⟩
      rw [hcl] at hU2 hR
      refine ⟨trivial, _, rfl, by rw [List.length_map, hT.len]; exact small_lt (by omega), k2, t ++ [r], .im (.str y), .own true l6 (r.map PyData.int), s7, s8, ?_, hU2.mono (by omega), hT.snoc hR.1 hR.2⟩
      rw [List.map_append]
      rfl
  · rintro δ' ⟨k', t, s5, s6, s7, s8, rfl, hU, hT⟩
    rw [hcl] at hU hT
    exact ⟨trivial, _, k', rfl, rfl, out t k' (hU.mono (by omega)) hT⟩
end Dl

end
section
set_option Elab.async false
set_option linter.all false
set_option maxRecDepth 100000
set_option maxHeartbeats 4000000
set_option autoImplicit false
/-! Elimination, in plain: every column has a pivot iff nothing but nought is sent to nought. -/
namespace Dl
open PySem
def Ker0 (rows : List (List Rat)) (x : List Rat) : Prop := ∀ r ∈ rows, dotR r x = 0
/-- nothing but nought among the vectors that begin with so many noughts -/
def KerAt (n at_ : Nat) (rows : List (List Rat)) : Prop := ∀ x : List Rat, x.length = n → (∀ j, j < at_ → x.getD j 0 = 0) → Ker0 rows x → ∀ q ∈ x, q = 0
theorem kerT_iff (n : Nat) (rows : List (List Rat)) : KerT n rows ↔ KerAt n 0 rows := ⟨fun h x hx _ hk => h x hx hk, fun h x hx hk => h x hx (fun j hj => absurd hj (Nat.not_lt_zero j)) hk⟩
theorem dot_cons (a b : Rat) (r x : List Rat) : dotR (a :: r) (b :: x) = a * b + dotR r x := by
  unfold dotR
  rw [List.zipWith_cons_cons, List.sum_cons]
theorem dot_nil_l (x : List Rat) : dotR [] x = 0 := rfl
theorem dot_nil_r (r : List Rat) : dotR r [] = 0 := by cases r <;> rfl
theorem dot_sub (p : Rat) : ∀ r f x : List Rat, r.length = f.length → dotR (List.zipWith (fun a b => a - p * b) r f) x = dotR r x - p * dotR f x
  | [], [], x, _ => by
    show dotR [] x = dotR [] x - p * dotR [] x
    rw [dot_nil_l]; grind
  | a :: r, b :: f, [], _ => by rw [dot_nil_r, dot_nil_r, dot_nil_r]; grind
  | a :: r, b :: f, c :: x, h => by
    rw [List.zipWith_cons_cons, dot_cons, dot_cons, dot_cons, dot_sub p r f x (by simpa using h)]
    grind
  | [], _ :: _, _, h => by cases h
  | _ :: _, [], _, h => by cases h
theorem dot_lin (p q : Rat) : ∀ r f x : List Rat, r.length = f.length → dotR (List.zipWith (fun a b => a * p - b * q) r f) x = p * dotR r x - q * dotR f x
  | [], [], x, _ => by
    show dotR [] x = p * dotR [] x - q * dotR [] x
    rw [dot_nil_l]; grind
  | a :: r, b :: f, [], _ => by rw [dot_nil_r, dot_nil_r, dot_nil_r]; grind
  | a :: r, b :: f, c :: x, h => by
    rw [List.zipWith_cons_cons, dot_cons, dot_cons, dot_cons, dot_lin p q r f x (by simpa using h)]
    grind
  | [], _ :: _, _, h => by cases h
  | _ :: _, [], _, h => by cases h
theorem dot_scale (p : Rat) : ∀ r x : List Rat, dotR (r.map (p * ·)) x = p * dotR r x
  | [], x => by show dotR [] x = p * dotR [] x; rw [dot_nil_l]; grind
  | a :: r, [] => by rw [dot_nil_r, dot_nil_r]; grind
  | a :: r, c :: x => by
    rw [List.map_cons, dot_cons, dot_cons, dot_scale p r x]
    grind
theorem dot_set (v : Rat) : ∀ (r x : List Rat) (i : Nat), i < x.length → dotR r (x.set i v) = dotR r x + r.getD i 0 * (v - x.getD i 0)
  | [], x, i, _ => by rw [dot_nil_l, dot_nil_l]; simp; grind
  | a :: r, [], i, h => by simp at h
  | a :: r, b :: x, 0, _ => by
    rw [List.set_cons_zero, dot_cons, dot_cons]
    show a * v + dotR r x = a * b + dotR r x + a * (v - b)
    grind
  | a :: r, b :: x, i + 1, h => by
    rw [List.set_cons_succ, dot_cons, dot_cons, dot_set v r x i (by simpa using h)]
    show a * b + (dotR r x + r.getD i 0 * (v - x.getD i 0)) = a * b + dotR r x + r.getD i 0 * (v - x.getD i 0)
    grind
theorem dot_zero : ∀ (r x : List Rat), (∀ j, r.getD j 0 = 0 ∨ x.getD j 0 = 0) → dotR r x = 0
  | [], x, _ => dot_nil_l x
  | a :: r, [], _ => dot_nil_r _
  | a :: r, b :: x, h => by
    rw [dot_cons, dot_zero r x fun j => h (j + 1)]
    rcases h 0 with z | z
    · have : a = 0 := z
      rw [this]; grind
    · have : b = 0 := z
      rw [this]; grind
theorem getD_set_ne {x : List Rat} {i j : Nat} {v : Rat} (h : i ≠ j) : (x.set i v).getD j 0 = x.getD j 0 := by
  rw [List.getD_eq_getElem?_getD, List.getElem?_set_ne h, ← List.getD_eq_getElem?_getD]
theorem getD_set_eq {x : List Rat} {i : Nat} {v : Rat} (h : i < x.length) : (x.set i v).getD i 0 = v := by
  rw [List.getD_eq_getElem?_getD, List.getElem?_set_self h]
  rfl
theorem all_zero {x : List Rat} (h : ∀ j, j < x.length → x.getD j 0 = 0) : ∀ q ∈ x, q = 0 := fun q hq => by
  obtain ⟨j, hj⟩ := List.mem_iff_getElem?.mp hq
  have := h j (List.getElem?_eq_some_iff.mp hj).1
  rw [getD_of hj] at this
  exact this
theorem zero_all {x : List Rat} (h : ∀ q ∈ x, q = 0) (j : Nat) : x.getD j 0 = 0 := by
  by_cases hj : j < x.length
  · exact h _ (List.mem_of_getElem? (of_lt (0 : Rat) hj))
  · rw [List.getD_eq_getElem?_getD, List.getElem?_eq_none (by omega)]
    rfl
/-- a column with a pivot -/
theorem pivot_step {n at_ : Nat} {rest rest' : List (List Rat)} {p : List Rat} (ha : at_ < n) (hp : p ∈ rest) (hz : ∀ r ∈ rest, ∀ j, j < at_ → r.getD j 0 = 0) (hne : p.getD at_ 0 ≠ 0)
    (h1 : ∀ x : List Rat, Ker0 rest x → Ker0 rest' x) (h2 : ∀ x : List Rat, dotR p x = 0 → Ker0 rest' x → Ker0 rest x) (hz' : ∀ r ∈ rest', r.getD at_ 0 = 0) : KerAt n at_ rest ↔ KerAt n (at_ + 1) rest' := by
  have keep : ∀ (x : List Rat) (v : Rat), at_ < x.length → Ker0 rest' x → Ker0 rest' (x.set at_ v) := fun x v hx hk r hr => by
    rw [dot_set v r x at_ hx, hk r hr, hz' r hr]; grind
  constructor
  · intro h x hx h0 hk
    have hxl : at_ < x.length := by omega
    have hx0 := h0 at_ (Nat.lt_succ_self _)
    -- the pivot's entry is chosen
    have hk2 : Ker0 rest (x.set at_ (-(dotR p x) / p.getD at_ 0)) := by
      refine h2 _ ?_ (keep x _ hxl hk)
      rw [dot_set _ p x at_ hxl, hx0]
      grind
    have hall := h _ (by rw [List.length_set]; exact hx) (fun j hj => by rw [getD_set_ne (by omega)]; exact h0 j (by omega)) hk2
    refine all_zero fun j hj => ?_
    by_cases q : j = at_
    · rw [q]; exact hx0
    · have := zero_all hall j
      rw [getD_set_ne (fun e => q e.symm)] at this
      exact this
  · intro h x hx h0 hk
    have hxl : at_ < x.length := by omega
    have hall := h (x.set at_ 0) (by rw [List.length_set]; exact hx) (fun j hj => by
      by_cases q : j = at_
      · rw [q, getD_set_eq hxl]
      · rw [getD_set_ne (fun e => q e.symm)]; exact h0 j (by omega)) (keep x 0 hxl (h1 x hk))
    have hoth : ∀ j, j ≠ at_ → x.getD j 0 = 0 := fun j hj => by
      have := zero_all hall j
      rw [getD_set_ne (fun e => hj e.symm)] at this
      exact this
    have hd := hk p hp
    have hs := dot_set 0 p x at_ hxl
    rw [dot_zero p (x.set at_ 0) (fun j => .inr (zero_all hall j)), hd] at hs
    have hx0 : x.getD at_ 0 = 0 := by grind
    refine all_zero fun j _ => ?_
    by_cases q : j = at_
    · rw [q]; exact hx0
    · exact hoth j q
/-- a column without -/
theorem free_column {n at_ : Nat} {rest : List (List Rat)} (ha : at_ < n) (hz : ∀ r ∈ rest, r.getD at_ 0 = 0) : ¬ KerAt n at_ rest := fun h => by
  have hl : ((List.replicate n (0 : Rat)).set at_ 1).length = n := by rw [List.length_set, List.length_replicate]
  have z0 : ∀ j, (List.replicate n (0 : Rat)).getD j 0 = 0 := fun j => by
    rw [List.getD_eq_getElem?_getD, List.getElem?_replicate]
    split <;> rfl
  have hall := h ((List.replicate n (0 : Rat)).set at_ 1) hl (fun j hj => by rw [getD_set_ne (by omega)]; exact z0 j) fun r hr => by
    refine dot_zero _ _ fun j => ?_
    by_cases q : j = at_
    · rw [q]; exact .inl (hz r hr)
    · rw [getD_set_ne (fun e => q e.symm)]; exact .inr (z0 j)
  have := zero_all hall at_
  rw [getD_set_eq (by rw [List.length_replicate]; exact ha)] at this
  exact absurd this (by decide)
theorem ker_last (n : Nat) (rest : List (List Rat)) : KerAt n n rest := fun x hx h0 _ => all_zero fun j hj => h0 j (by omega)
/-- how an elimination stands ahead of a column: as many pivots as columns so far and the question is handed on, or fewer and it is answered -/
def Elim (n at_ count : Nat) (rows rest : List (List Rat)) : Prop := (count = at_ ∧ (KerT n rows ↔ KerAt n at_ rest)) ∨ (count < at_ ∧ ¬ KerT n rows)
theorem Elim.start (n : Nat) (rows : List (List Rat)) : Elim n 0 0 rows rows := .inl ⟨rfl, kerT_iff n rows⟩
theorem Elim.pivot {n at_ count : Nat} {rows rest rest' : List (List Rat)} (h : Elim n at_ count rows rest) (hs : KerAt n at_ rest ↔ KerAt n (at_ + 1) rest') : Elim n (at_ + 1) (count + 1) rows rest' := by
  rcases h with ⟨h1, h2⟩ | ⟨h1, h2⟩
  · exact .inl ⟨by omega, h2.trans hs⟩
  · exact .inr ⟨by omega, h2⟩
theorem Elim.free {n at_ count : Nat} {rows rest : List (List Rat)} (h : Elim n at_ count rows rest) (ha : at_ < n) (hz : ∀ r ∈ rest, r.getD at_ 0 = 0) : Elim n (at_ + 1) count rows rest := by
  rcases h with ⟨h1, h2⟩ | ⟨h1, h2⟩
  · exact .inr ⟨by omega, fun z => free_column ha hz (h2.mp z)⟩
  · exact .inr ⟨by omega, h2⟩
theorem Elim.last {n count : Nat} {rows rest : List (List Rat)} (h : Elim n n count rows rest) : count ≤ n ∧ (count = n ↔ KerT n rows) := by
  rcases h with ⟨h1, h2⟩ | ⟨h1, h2⟩
  · exact ⟨by omega, fun _ => h2.mpr (ker_last n rest), fun _ => h1⟩
  · exact ⟨by omega, fun z => by omega, fun z => (h2 z).elim⟩
end Dl

end
section
set_option Elab.async false
set_option linter.all false
set_option maxRecDepth 100000
set_option maxHeartbeats 4000000
set_option autoImplicit false
/-! Walks over data: the law's cut. -/
namespace Dl
open PySem
theorem lc_rel {di : DTI} {g : DTG} {te : DTE} {vs : List Nat} {δ : DE} {P : List D → DE → Prop} (items : List D) (δ1 : DE) (Rel : Nat → D → D → Prop) (hi : ∀ P : List D → DE → Prop, P items δ1 → di δ P) (hz : items.length ≤ sizeLine)
    (hb : ∀ i x, items[i]? = some x → ∀ (R : D → Prop), (∀ d, Rel i x d → R d) → g (.im x) (wipeD δ1 vs) fun δ2 => te δ2 fun y δ4 => ∃ d, y = .im d ∧ (wipeD δ4 vs = wipeD δ1 vs ∧ R d))
    (hP : ∀ ds : List D, ds.length = items.length → (∀ i x d, items[i]? = some x → ds[i]? = some d → Rel i x d) → P ds (wipeD δ1 vs)) : dLc di g dYes te vs δ P := by
  refine hi _ ⟨hz, fun i acc δ' => δ' = wipeD δ1 vs ∧ acc.length = i ∧ ∀ j x d, items[j]? = some x → acc[j]? = some d → Rel j x d, ⟨rfl, rfl, fun j x d _ h => by simp at h⟩, fun i x acc δ' hx h => ?_, fun acc δ' h => ?_⟩
  · obtain ⟨rfl, hl, ha⟩ := h
    refine hb i x hx (fun d => (acc ++ [d]).length = i + 1 ∧ ∀ j x d', items[j]? = some x → (acc ++ [d])[j]? = some d' → Rel j x d') fun d hd => ⟨by rw [List.length_append, hl]; rfl, fun j x' d' hx' hd' => ?_⟩
    by_cases q : j < i
    · rw [List.getElem?_append_left (by omega)] at hd'
      exact ha j x' d' hx' hd'
    · have hj : j = i := by
        have := (List.getElem?_eq_some_iff.mp hd').1
        rw [List.length_append] at this
        simp at this
        omega
      subst hj
      rw [List.getElem?_append_right (by omega), hl, Nat.sub_self] at hd'
      rw [hx] at hx'
      cases hx'
      cases hd'
      exact hd
  · obtain ⟨rfl, hl, ha⟩ := h
    exact hP acc hl ha
theorem choose_list {β : Type} (f : β → D) : ∀ {ds : List D} {Q : Nat → β → Prop}, (∀ i d, ds[i]? = some d → ∃ b, d = f b ∧ Q i b) → ∃ bs : List β, ds = bs.map f ∧ ∀ i b, bs[i]? = some b → Q i b
  | [], Q, _ => ⟨[], rfl, fun i b h => by simp at h⟩
  | d :: ds, Q, h => by
    obtain ⟨b, e, q⟩ := h 0 d rfl
    obtain ⟨bs, e2, q2⟩ := choose_list f (ds := ds) (Q := fun i b => Q (i + 1) b) fun i d' hd => h (i + 1) d' (by simpa using hd)
    refine ⟨b :: bs, by rw [List.map_cons, ← e, ← e2], fun i b' hb => ?_⟩
    cases i with
    | zero =>
      have : b = b' := by simpa using hb
      rw [← this]; exact q
    | succ i => exact q2 i b' (by simpa using hb)
theorem gcd_bound {g a b : Nat} (hg : g < 2 ^ b) (ha : a < 2 ^ b) : Nat.gcd g a < 2 ^ b := by
  by_cases q : a = 0
  · subst q; rw [Nat.gcd_zero_right]; exact hg
  · exact Nat.lt_of_le_of_lt (Nat.gcd_le_right g (Nat.pos_of_ne_zero q)) ha
theorem wp_l_cut : WpD 5 1 d_l_cut pre_l_cut post_l_cut := by
  rintro as ⟨xs, h5, hb, rfl⟩
  refine ⟨⟨rfl, by decide, by simp [Sl.pure]⟩, ?_⟩
  have out : ∀ (g : Int) (ys : List Int), 0 < g → xs = ys.map (g * ·) → post_l_cut [.im (rowL xs)] (rowL ys) := fun g ys hg he xs' e => by
    obtain ⟨e1, _⟩ := cons_inj e
    rw [← rowL_inj (im_inj e1)]
    exact ⟨g, ys, hg, he, rfl⟩
  generalize post_l_cut [.im (rowL xs)] = post at out ⊢
  show d_l_cut _ [.im (rowL xs), .e, .e, .e, .e]
  have hll : (xs.map PyData.int).length = xs.length := List.length_map _
  refine ⟨trivial, ?_⟩
  simp only [dNext, dSeq]
  refine for_of (xs.map PyData.int) [.im (rowL xs), .im (.int ((0 : Nat) : Int)), .e, .e, .e] (fun P h => h) (fun i δ' => ∃ (g : Nat) (s2 s3 s4 : Sl), δ' = [.im (rowL xs), .im (.int (g : Nat)), s2, s3, s4] ∧ g < 2 ^ 6000 ∧ ∀ x ∈ xs.take i, (g : Int) ∣ x) ⟨0, _, _, _, rfl, Nat.pow_pos (by decide), fun x h => by simp at h⟩ ?_ ?_
  · rintro i z δ' hz ⟨g, s2, s3, s4, rfl, hg, hd⟩
    obtain ⟨x, hx, rfl⟩ := map_out hz
    have bx : x.natAbs < 2 ^ 6000 := hb x (List.mem_of_getElem? hx)
    have e1 : (if x < 0 then -x else x) = ((x.natAbs : Nat) : Int) := by split <;> omega
    refine ⟨trivial, ?_⟩
    have fin : ∀ (y : Nat) (s4 : Sl), y = Nat.gcd g x.natAbs → ∃ (g' : Nat) (s2 s3 s4' : Sl), ([Sl.im (rowL xs), .im (.int (y : Nat)), .im (.int x), .im (.int ((0 : Nat) : Int)), s4] : DE) = [.im (rowL xs), .im (.int (g' : Nat)), s2, s3, s4'] ∧ g' < 2 ^ 6000 ∧ ∀ x ∈ xs.take (i + 1), (g' : Int) ∣ x := fun y s4 ey => by
      subst ey
      refine ⟨_, _, _, _, rfl, gcd_bound hg bx, fun w hw => ?_⟩
      rw [take_succ_get hx, List.mem_append] at hw
      rcases hw with hw | hw
      · exact Int.dvd_trans (Int.natCast_dvd_natCast.mpr (Nat.gcd_dvd_left g x.natAbs)) (hd w hw)
      · have ew : w = x := by simpa using hw
        rw [ew]
        exact Int.dvd_trans (Int.natCast_dvd_natCast.mpr (Nat.gcd_dvd_right g x.natAbs)) (Int.natAbs_dvd.mpr (Int.dvd_refl x))
    simp only [dNext, dSeq]
    refine for_of (intsD 100000) [.im (rowL xs), .im (.int (g : Nat)), .im (.int x), .im (.int ((x.natAbs : Nat) : Int)), s4] (fun P h => ?_) (fun j δ' => ∃ (a b : Nat) (s : Sl), δ' = [.im (rowL xs), .im (.int (a : Nat)), .im (.int x), .im (.int (b : Nat)), s] ∧ Nat.gcd a b = Nat.gcd g x.natAbs ∧ EuS j a b) ⟨g, x.natAbs, _, rfl, rfl, .inr (.inr ⟨rfl, ?_, ?_⟩)⟩ ?_ ?_
    · refine ⟨100000, rfl, by decide, by decide, ?_⟩
      rw [← e1] at h
      exact h
    · have h3 := Nat.mul_le_mul (Nat.le_of_lt hg) (Nat.le_of_lt bx)
      rw [← Nat.pow_add] at h3
      exact Nat.le_trans h3 (Nat.pow_le_pow_right (by decide) (by decide))
    · exact Nat.le_trans (Nat.le_of_lt bx) (Nat.pow_le_pow_right (by decide) (by decide))
    · rintro j w δ' hw ⟨a, b, s, rfl, hab, he⟩
      refine ⟨_, rfl, ?_⟩
      by_cases hb0 : b = 0
      · subst hb0
        refine ift (decide_eq_true rfl) ?_
        exact fin a _ (by rw [← hab, Nat.gcd_zero_right])
      · refine iff0 (decide_eq_false (by omega)) ?_
        refine ⟨trivial, _, rfl, by omega, trivial, _, _, rfl, b, a % b, _, rfl, by rw [gcd_step]; exact hab, eu_step he hb0⟩
    · rintro δ' ⟨a, b, s, rfl, hab, he⟩
      have hb0 := eu_end he (by rw [intsD_len]; decide)
      subst hb0
      exact fin a s (by rw [← hab, Nat.gcd_zero_right])
  · rintro δ' ⟨g, s2, s3, s4, rfl, hg, hd⟩
    rw [hll, List.take_of_length_le (Nat.le_refl _)] at hd
    refine ⟨_, rfl, ?_⟩
    by_cases q : (1 : Int) < (g : Int)
    · refine ift (decide_eq_true q) ?_
      refine lc_map (xs.map PyData.int) [.im (rowL xs), .im (.int (g : Nat)), s2, s3, s4] (fun d => match d with | .int x => .int (x / (g : Int)) | _ => .none) (fun P h => h) (by rw [hll]; exact small_le (by omega)) (fun x hx R hR => ?_) ?_
      · obtain ⟨z, hz, rfl⟩ := List.mem_map.mp hx
        exact ⟨divW (b := 6000) (by omega) hg (by decide) (by decide), _, rfl, rfl, hR⟩
      · refine ⟨trivial, rowL (xs.map fun x => x / (g : Int)), ?_, out (g : Int) _ (by omega) ?_⟩
        · unfold rowL
          rw [List.map_map, List.map_map]
          rfl
        · rw [List.map_map]
          refine (List.map_id'' (fun _ => rfl) xs).symm.trans (List.map_congr_left fun x hx => ?_)
          exact (Int.mul_ediv_cancel' (hd x hx)).symm
    · refine iff0 (decide_eq_false q) ?_
      exact ⟨trivial, rowL xs, rfl, out 1 xs (by decide) ((List.map_id'' (fun x => Int.one_mul x) xs).symm)⟩
end Dl

end
section
set_option Elab.async false
set_option linter.all false
set_option maxRecDepth 100000
set_option maxHeartbeats 4000000
set_option autoImplicit false
/-! Walks over data: the law's elimination. -/
namespace Dl
open PySem
def bb : Nat → Nat
  | 0 => 120
  | k + 1 => 2 * bb k + 1
theorem bb_le {k : Nat} (h : k ≤ 4) : bb k ≤ 1935 := (show ∀ k, k < 5 → bb k ≤ 1935 by decide) k (by omega)
theorem toR_getD (r : List Int) (j : Nat) : (toR r).getD j 0 = ((r.getD j 0 : Int) : Rat) := by
  unfold toR
  rw [List.getD_eq_getElem?_getD, List.getElem?_map, List.getD_eq_getElem?_getD]
  cases r[j]? <;> rfl
theorem toR_scale (g : Int) (r : List Int) : toR (r.map (g * ·)) = (toR r).map ((g : Rat) * ·) := by
  unfold toR
  rw [List.map_map, List.map_map]
  refine List.map_congr_left fun x _ => ?_
  show ((g * x : Int) : Rat) = (g : Rat) * (x : Rat)
  rw [Rat.intCast_mul]
def mixI (p q : Int) (r f : List Int) : List Int := List.zipWith (fun a b => a * p - b * q) r f
theorem mix_len (p q : Int) (r f : List Int) (h : r.length = f.length) : (mixI p q r f).length = r.length := by
  unfold mixI
  rw [List.length_zipWith, h, Nat.min_self]
theorem toR_mix (p q : Int) : ∀ r f : List Int, toR (mixI p q r f) = List.zipWith (fun a b => a * (p : Rat) - b * (q : Rat)) (toR r) (toR f)
  | [], _ => rfl
  | _ :: _, [] => rfl
  | a :: r, b :: f => by
    have ih := toR_mix p q r f
    unfold toR mixI at ih ⊢
    rw [List.zipWith_cons_cons, List.map_cons, List.map_cons, List.map_cons, List.zipWith_cons_cons, ih, Rat.intCast_sub, Rat.intCast_mul, Rat.intCast_mul]
theorem mix_getD (p q : Int) {r f : List Int} (h : r.length = f.length) (j : Nat) : (mixI p q r f).getD j 0 = r.getD j 0 * p - f.getD j 0 * q := by
  unfold mixI
  by_cases hj : j < r.length
  · have h1 := of_lt (0 : Int) hj
    have h2 := of_lt (0 : Int) (show j < f.length by omega)
    rw [List.getD_eq_getElem?_getD, List.getElem?_zipWith, h1, h2]
    rfl
  · have e1 : r.getD j 0 = 0 := by rw [List.getD_eq_getElem?_getD, List.getElem?_eq_none (by omega)]; rfl
    have e2 : f.getD j 0 = 0 := by rw [List.getD_eq_getElem?_getD, List.getElem?_eq_none (by omega)]; rfl
    rw [List.getD_eq_getElem?_getD, List.getElem?_eq_none (by rw [List.length_zipWith]; omega), e1, e2]
    simp
theorem dot_mix (p q : Int) (r f : List Int) (x : List Rat) (h : r.length = f.length) : dotR (toR (mixI p q r f)) x = (p : Rat) * dotR (toR r) x - (q : Rat) * dotR (toR f) x := by
  rw [toR_mix]
  exact dot_lin (p : Rat) (q : Rat) (toR r) (toR f) x (by rw [toR_len, toR_len, h])
theorem dot_toR_zero {r : List Int} (h : ∀ x ∈ r, x = 0) (x : List Rat) : dotR (toR r) x = 0 := dot_zero _ _ fun j => .inl (by
  rw [toR_getD]
  by_cases hj : j < r.length
  · rw [h _ (mem_getD hj)]; rfl
  · rw [List.getD_eq_getElem?_getD, List.getElem?_eq_none (by omega)]; rfl)
theorem cast_zero {z : Int} (h : (z : Rat) = 0) : z = 0 := by exact_mod_cast h
theorem scale_dot {g : Int} (hg : 0 < g) {r c : List Int} (h : r = c.map (g * ·)) (x : List Rat) : dotR (toR r) x = 0 ↔ dotR (toR c) x = 0 := by
  rw [h, toR_scale, dot_scale]
  have hne : (g : Rat) ≠ 0 := cast_ne (Int.ne_of_gt hg)
  constructor
  · intro z
    rcases Rat.mul_eq_zero.mp z with e | e
    · exact (hne e).elim
    · exact e
  · intro z
    rw [z]; exact Rat.mul_zero _
theorem scale_getD {g : Int} {r c : List Int} (h : r = c.map (g * ·)) (j : Nat) : r.getD j 0 = g * c.getD j 0 := by
  rw [h, List.getD_eq_getElem?_getD, List.getElem?_map, List.getD_eq_getElem?_getD]
  cases c[j]? <;> simp
theorem scale_len {g : Int} {r c : List Int} (h : r = c.map (g * ·)) : c.length = r.length := by rw [h, List.length_map]
theorem scale_bz {g : Int} (hg : 0 < g) {r c : List Int} {b : Nat} (h : r = c.map (g * ·)) (hr : ∀ x ∈ r, Bz b x) : ∀ x ∈ c, Bz b x := fun x hx => by
  have h1 := hr (g * x) (by rw [h]; exact List.mem_map.mpr ⟨x, hx, rfl⟩)
  unfold Bz at h1 ⊢
  rw [Int.natAbs_mul] at h1
  have : 1 ≤ g.natAbs := by omega
  have := Nat.mul_le_mul_right x.natAbs this
  omega
theorem Elim.swap {n at_ count : Nat} {rows rest rest' : List (List Rat)} (h : Elim n at_ count rows rest) (hs : ∀ x : List Rat, Ker0 rest x ↔ Ker0 rest' x) : Elim n at_ count rows rest' := by
  have e : KerAt n at_ rest ↔ KerAt n at_ rest' := ⟨fun k x hx h0 hk => k x hx h0 ((hs x).mpr hk), fun k x hx h0 hk => k x hx h0 ((hs x).mp hk)⟩
  rcases h with ⟨h1, h2⟩ | h
  · exact .inl ⟨h1, h2.trans e⟩
  · exact .inr h
theorem ker_map {rows : List (List Int)} {x : List Rat} : Ker0 (rows.map toR) x ↔ ∀ r ∈ rows, dotR (toR r) x = 0 :=
  ⟨fun h r hr => h _ (List.mem_map.mpr ⟨r, hr, rfl⟩), fun h r hr => by
    obtain ⟨q, hq, rfl⟩ := List.mem_map.mp hr
    exact h q hq⟩
/-- the rows that are left ahead of a column -/
structure LeftOk (n at_ : Nat) (left : List (List Int)) : Prop where
  few : left.length ≤ 25
  len : ∀ r ∈ left, r.length = n
  bits : ∀ r ∈ left, ∀ x ∈ r, Bz (bb at_) x
  zero : ∀ r ∈ left, ∀ j, j < at_ → r.getD j 0 = 0
/-- the pure step of a column with a pivot -/
theorem left_step {n at_ count : Nat} {rows : List (List Rat)} {left cuts : List (List Int)} {top : List Int} {more : List (List Int)} (ha : at_ < n) (hn : n ≤ 5) (h : LeftOk n at_ left) (he : Elim n at_ count rows (left.map toR))
    (hs : (left.filter fun r => !decide (r.getD at_ 0 = 0)) = top :: more) (hc : cuts.length = more.length)
    (hq : ∀ (i : Nat) (r c : List Int), more[i]? = some r → cuts[i]? = some c → ∃ g : Int, 0 < g ∧ mixI (top.getD at_ 0) (r.getD at_ 0) r top = c.map (g * ·)) :
    LeftOk n (at_ + 1) (((left.filter fun r => decide (r.getD at_ 0 = 0)) ++ cuts).filter fun r => r.any fun x => !decide (x = 0)) ∧ Elim n (at_ + 1) (count + 1) rows ((((left.filter fun r => decide (r.getD at_ 0 = 0)) ++ cuts).filter fun r => r.any fun x => !decide (x = 0)).map toR) := by
  have inSome : ∀ r, r ∈ top :: more ↔ r ∈ left ∧ r.getD at_ 0 ≠ 0 := fun r => by
    rw [← hs, List.mem_filter]
    simp
  have htop := (inSome top).mp List.mem_cons_self
  have hmore : ∀ r ∈ more, r ∈ left ∧ r.getD at_ 0 ≠ 0 := fun r hr => (inSome r).mp (List.mem_cons_of_mem _ hr)
  have lentop := h.len top htop.1
  -- each cut row, from its own
  have cutOf : ∀ c ∈ cuts, ∃ r ∈ more, ∃ g : Int, 0 < g ∧ mixI (top.getD at_ 0) (r.getD at_ 0) r top = c.map (g * ·) := fun c hcm => by
    obtain ⟨i, hi⟩ := List.mem_iff_getElem?.mp hcm
    have hil := (List.getElem?_eq_some_iff.mp hi).1
    have hr := List.getElem?_eq_getElem (l := more) (show i < more.length by omega)
    exact ⟨_, List.mem_of_getElem? hr, hq i _ c hr hi⟩
  have cutFor : ∀ r ∈ more, ∃ c ∈ cuts, ∃ g : Int, 0 < g ∧ mixI (top.getD at_ 0) (r.getD at_ 0) r top = c.map (g * ·) := fun r hrm => by
    obtain ⟨i, hi⟩ := List.mem_iff_getElem?.mp hrm
    have hil := (List.getElem?_eq_some_iff.mp hi).1
    have hc2 := List.getElem?_eq_getElem (l := cuts) (show i < cuts.length by omega)
    exact ⟨_, List.mem_of_getElem? hc2, hq i r _ hi hc2⟩
  have memL : ∀ r, r ∈ (((left.filter fun r => decide (r.getD at_ 0 = 0)) ++ cuts).filter fun r => r.any fun x => !decide (x = 0)) → (r ∈ left ∧ r.getD at_ 0 = 0) ∨ r ∈ cuts := fun r hr => by
    have h1 := (List.mem_filter.mp hr).1
    rcases List.mem_append.mp h1 with z | z
    · have := List.mem_filter.mp z
      exact .inl ⟨this.1, of_decide_eq_true this.2⟩
    · exact .inr z
  have mb : bb at_ ≤ bb (at_ + 1) := by show bb at_ ≤ 2 * bb at_ + 1; omega
  refine ⟨⟨?_, fun r hr => ?_, fun r hr => ?_, fun r hr => ?_⟩, ?_⟩
  · refine Nat.le_trans (List.length_filter_le _ _) ?_
    rw [List.length_append, hc]
    have e1 : (left.filter fun r => !decide (r.getD at_ 0 = 0)).length + (left.filter fun r => decide (r.getD at_ 0 = 0)).length = left.length := by
      have : ∀ l : List (List Int), (l.filter fun r => !decide (r.getD at_ 0 = 0)).length + (l.filter fun r => decide (r.getD at_ 0 = 0)).length = l.length := by
        intro l
        induction l with
        | nil => rfl
        | cons a l ih =>
          rw [List.filter_cons, List.filter_cons]
          by_cases q : a.getD at_ 0 = 0
          · rw [decide_eq_true q]; simp only [Bool.not_true, Bool.false_eq_true, if_false, if_true, List.length_cons]; omega
          · rw [decide_eq_false q]; simp only [Bool.not_false, Bool.false_eq_true, if_false, if_true, List.length_cons]; omega
      exact this left
    rw [hs, List.length_cons] at e1
    have := h.few
    omega
  · rcases memL r hr with ⟨z, _⟩ | z
    · exact h.len r z
    · obtain ⟨q, hqm, g, hg, e⟩ := cutOf r z
      have hl := h.len q (hmore q hqm).1
      rw [scale_len e, mix_len _ _ _ _ (hl.trans lentop.symm), hl]
  · rcases memL r hr with ⟨z, _⟩ | z
    · exact fun x hx => (h.bits r z x hx).mono mb
    · obtain ⟨q, hqm, g, hg, e⟩ := cutOf r z
      have hl := h.len q (hmore q hqm).1
      refine scale_bz hg e fun x hx => ?_
      obtain ⟨j, hj⟩ := List.mem_iff_getElem?.mp hx
      have hjl := (List.getElem?_eq_some_iff.mp hj).1
      rw [mix_len _ _ _ _ (hl.trans lentop.symm)] at hjl
      have ex := mix_getD (top.getD at_ 0) (q.getD at_ 0) (hl.trans lentop.symm) j
      rw [getD_of hj] at ex
      rw [ex, Int.sub_eq_add_neg]
      have b1 := (h.bits q (hmore q hqm).1 _ (mem_getD hjl)).mul (h.bits top htop.1 _ (mem_getD (show at_ < top.length by omega)))
      have b2 := (h.bits top htop.1 _ (mem_getD (show j < top.length by omega))).mul (h.bits q (hmore q hqm).1 _ (mem_getD (show at_ < q.length by omega)))
      exact (b1.add b2.neg).mono (by show bb at_ + bb at_ + 1 ≤ 2 * bb at_ + 1; omega)
  · rcases memL r hr with ⟨z, z0⟩ | z
    · intro j hj
      by_cases q : j = at_
      · rw [q]; exact z0
      · exact h.zero r z j (by omega)
    · obtain ⟨q, hqm, g, hg, e⟩ := cutOf r z
      have hl := h.len q (hmore q hqm).1
      intro j hj
      have e1 := scale_getD e j
      rw [mix_getD _ _ (hl.trans lentop.symm)] at e1
      have e2 : q.getD j 0 * top.getD at_ 0 - top.getD j 0 * q.getD at_ 0 = 0 := by
        by_cases qq : j = at_
        · rw [qq, Int.mul_comm (top.getD at_ 0)]; omega
        · rw [h.zero q (hmore q hqm).1 j (by omega), h.zero top htop.1 j (by omega)]; simp
      rw [e2] at e1
      rcases Int.mul_eq_zero.mp e1.symm with z | z
      · omega
      · exact z
  · refine he.pivot (pivot_step (p := toR top) ha (List.mem_map.mpr ⟨top, htop.1, rfl⟩) (fun r hr j hj => ?_) ?_ (fun x hk => ?_) (fun x hp hk => ?_) (fun r hr => ?_))
    · obtain ⟨q, hqm, rfl⟩ := List.mem_map.mp hr
      rw [toR_getD, h.zero q hqm j hj]; rfl
    · rw [toR_getD]
      exact cast_ne htop.2
    · rw [ker_map] at hk ⊢
      intro r hr
      rcases memL r hr with ⟨z, _⟩ | z
      · exact hk r z
      · obtain ⟨q, hqm, g, hg, e⟩ := cutOf r z
        have hl := h.len q (hmore q hqm).1
        refine (scale_dot hg e x).mp ?_
        rw [dot_mix _ _ _ _ _ (hl.trans lentop.symm), hk q (hmore q hqm).1, hk top htop.1]
        grind
    · rw [ker_map] at hk ⊢
      have known : ∀ r, r ∈ ((left.filter fun r => decide (r.getD at_ 0 = 0)) ++ cuts) → dotR (toR r) x = 0 := fun r hr => by
        by_cases q : (r.any fun x => !decide (x = 0)) = true
        · exact hk r (List.mem_filter.mpr ⟨hr, q⟩)
        · refine dot_toR_zero (fun y hy => ?_) x
          refine Classical.byContradiction fun hne => q ?_
          rw [List.any_eq_true]
          exact ⟨y, hy, by rw [decide_eq_false hne]; rfl⟩
      intro r hr
      by_cases q : r.getD at_ 0 = 0
      · exact known r (List.mem_append_left _ (List.mem_filter.mpr ⟨hr, decide_eq_true q⟩))
      · have hrs := (inSome r).mpr ⟨hr, q⟩
        rcases List.mem_cons.mp hrs with z | z
        · rw [z]; exact hp
        · obtain ⟨c, hcm, g, hg, e⟩ := cutFor r z
          have hl := h.len r hr
          have h0 := (scale_dot hg e x).mpr (known c (List.mem_append_right _ hcm))
          rw [dot_mix _ _ _ _ _ (hl.trans lentop.symm), hp] at h0
          have h1 : ((top.getD at_ 0 : Int) : Rat) * dotR (toR r) x = 0 := by grind
          rcases Rat.mul_eq_zero.mp h1 with z | z
          · exact absurd (cast_zero z) htop.2
          · exact z
    · obtain ⟨q, hqm, rfl⟩ := List.mem_map.mp hr
      rw [toR_getD]
      have : q.getD at_ 0 = 0 := by
        rcases memL q hqm with ⟨_, z0⟩ | z
        · exact z0
        · obtain ⟨q', hqm', g, hg, e⟩ := cutOf q z
          have hl := h.len q' (hmore q' hqm').1
          have e1 := scale_getD e at_
          rw [mix_getD _ _ (hl.trans lentop.symm), Int.mul_comm (top.getD at_ 0)] at e1
          have e3 : g * q.getD at_ 0 = 0 := by omega
          rcases Int.mul_eq_zero.mp e3 with z | z
          · omega
          · exact z
      rw [this]; rfl
end Dl

end
section
set_option Elab.async false
set_option linter.all false
set_option maxRecDepth 100000
set_option maxHeartbeats 4000000
set_option autoImplicit false
/-! Walks over data: the law's elimination, walked. -/
namespace Dl
open PySem
theorem lc_filt {α : Type} {di : DTI} {g : DTG} {tt : DTT} {te : DTE} {vs : List Nat} {δ : DE} {P : List D → DE → Prop} (f : α → D) (xs : List α) (p : α → Bool) (δ1 : DE) (hi : ∀ P : List D → DE → Prop, P (xs.map f) δ1 → di δ P) (hz : xs.length ≤ sizeLine)
    (hb : ∀ x ∈ xs, ∀ (R : D → Prop) (N : Prop), (p x = true → R (f x)) → (p x = false → N) → g (.im (f x)) (wipeD δ1 vs) fun δ2 => tt δ2 fun b δ3 => if b = true then te δ3 fun y δ4 => ∃ d, y = .im d ∧ (wipeD δ4 vs = wipeD δ1 vs ∧ R d) else (wipeD δ3 vs = wipeD δ1 vs ∧ N))
    (hP : P ((xs.filter p).map f) (wipeD δ1 vs)) : dLc di g tt te vs δ P := by
  refine hi _ ⟨by rw [List.length_map]; exact hz, fun i acc δ' => δ' = wipeD δ1 vs ∧ acc = ((xs.take i).filter p).map f, ⟨rfl, rfl⟩, fun i d acc δ' hd h => ?_, fun acc δ' h => ?_⟩
  · obtain ⟨rfl, rfl⟩ := h
    obtain ⟨x, hx, rfl⟩ := map_out hd
    refine hb x (List.mem_of_getElem? hx) (fun d => ((xs.take i).filter p).map f ++ [d] = ((xs.take (i + 1)).filter p).map f) (((xs.take i).filter p).map f = ((xs.take (i + 1)).filter p).map f) (fun h => ?_) (fun h => ?_)
    · rw [take_succ_get hx, List.filter_append, List.map_append, List.filter_cons, if_pos h]; rfl
    · rw [take_succ_get hx, List.filter_append, List.filter_cons, if_neg (by rw [h]; exact Bool.false_ne_true)]
      simp
  · obtain ⟨rfl, rfl⟩ := h
    rw [List.length_map, List.take_of_length_le (Nat.le_refl _)]
    exact hP
theorem eqv_nil (xs : List D) : PyData.eqv (.list xs) (.list []) = decide (xs = []) := by
  cases xs <;> simp [PyData.eqv, PyData.eqvAll]
theorem sh_rowL (r : List Int) : Sh 1 (rowL r) := sh_lst (sh_map fun x _ => sh_int 0 x)
theorem sh_rowsL (rs : List (List Int)) : Sh 2 (.list (rs.map rowL)) := sh_lst (sh_map fun x _ => sh_rowL x)
theorem sh_nilL : Sh 1 (.list []) := sh_lst fun d hd => nomatch hd
theorem map_nil {α : Type} {f : α → D} {xs : List α} : xs.map f = [] ↔ xs = [] := List.map_eq_nil_iff
theorem intsL_eq (r : List Int) : rowL r = .list (r.map PyData.int) := rfl
theorem zip_range (p q : Int) : ∀ (r f : List Int), r.length = f.length → ((List.range r.length).map fun i => PyData.int (r.getD i 0 * p - f.getD i 0 * q)) = (mixI p q r f).map PyData.int
  | [], [], _ => rfl
  | a :: r, b :: f, h => by
    rw [List.length_cons, List.range_succ_eq_map, List.map_cons, List.map_map]
    show _ = (List.zipWith (fun a b => a * p - b * q) (a :: r) (b :: f)).map PyData.int
    rw [List.zipWith_cons_cons, List.map_cons]
    have ih := zip_range p q r f (by simpa using h)
    unfold mixI at ih
    rw [← ih]
    rfl
  | [], _ :: _, h => by cases h
  | _ :: _, [], h => by cases h
theorem frz_own {i : Nat} {t : DTS} {n : DEnds} {δ : DE} {l : Addr} {ds : List D} (h : δ[i]? = some (.own true l ds)) (k : t n (δ.set i (.im (.list ds)))) : dFrz i t n δ := by
  unfold dFrz look
  rw [h]
  exact k
theorem wp_l_free : WpD 13 1 d_l_free pre_l_free post_l_free := by
  rintro as ⟨rows, n, hn1, hn5, hfew, hrows, rfl⟩
  refine ⟨⟨rfl, by decide, by simp [Sl.pure]⟩, ?_⟩
  have out : ∀ k : Nat, (rows = [] → k = 0) → (k = n ↔ KerT n (rows.map toR)) → post_l_free [.im (.list (rows.map rowL))] (.int (k : Nat)) := fun k h0 hk rows' n' hn' hl' e => by
    obtain ⟨e1, _⟩ := cons_inj e
    have e2 := map_inj (fun a b e => rowL_inj e) (lst_inj (im_inj e1))
    subst e2
    refine ⟨k, rfl, ?_⟩
    cases rows with
    | nil =>
      have hf : ¬ KerT n' (([] : List (List Int)).map toR) := fun z => free_column (at_ := 0) (n := n') (by omega) (fun r hr => absurd hr (by simp)) ((kerT_iff n' _).mp z)
      rw [h0 rfl]
      exact ⟨fun z => by omega, fun z => (hf z).elim⟩
    | cons r rs =>
      have e3 : n' = n := (hl' r List.mem_cons_self).symm.trans (hrows r List.mem_cons_self).1
      rw [e3]; exact hk
  generalize post_l_free [.im (.list (rows.map rowL))] = post at out ⊢
  show d_l_free _ [.im (.list (rows.map rowL)), .e, .e, .e, .e, .e, .e, .e, .e, .e, .e, .e, .e]
  refine lc_rel (rows.map rowL) [.im (.list (rows.map rowL)), .e, .e, .e, .e, .e, .e, .e, .e, .e, .e, .e, .e] (fun i x d => ∀ xs, x = rowL xs → ∃ (g : Int) (ys : List Int), 0 < g ∧ xs = ys.map (g * ·) ∧ d = rowL ys) (fun P h => h) (by rw [List.length_map]; exact small_le (by omega)) (fun i x hx R hR => ?_) ?_
  · obtain ⟨r, hr, rfl⟩ := map_out hx
    obtain ⟨h1, h2⟩ := hrows r (List.mem_of_getElem? hr)
    refine ⟨trivial, ⟨r, by omega, fun x hx => (h2 x hx).mono (by decide), rfl⟩, fun v hv => ⟨v, rfl, rfl, hR v fun xs e => ?_⟩⟩
    rw [← rowL_inj e]
    exact hv r rfl
  intro ds hdl hds
  obtain ⟨left0, rfl, hl0⟩ := choose_list rowL (ds := ds) (Q := fun i ys => ∃ (g : Int) (r : List Int), rows[i]? = some r ∧ 0 < g ∧ r = ys.map (g * ·)) fun i d hd => by
    have hi := (List.getElem?_eq_some_iff.mp hd).1
    rw [hdl, List.length_map] at hi
    have hr := List.getElem?_eq_getElem hi
    obtain ⟨g, ys, hg, e, ed⟩ := hds i (rowL rows[i]) d (by rw [List.getElem?_map, hr]; rfl) hd rows[i] rfl
    exact ⟨ys, ed, g, _, hr, hg, e⟩
  rw [List.length_map, List.length_map] at hdl
  have left0_of : ∀ ys ∈ left0, ∃ r ∈ rows, ∃ g : Int, 0 < g ∧ r = ys.map (g * ·) := fun ys hy => by
    obtain ⟨i, hi⟩ := List.mem_iff_getElem?.mp hy
    obtain ⟨g, r, h1, h2, h3⟩ := hl0 i ys hi
    exact ⟨r, List.mem_of_getElem? h1, g, h2, h3⟩
  have rows_of : ∀ r ∈ rows, ∃ ys ∈ left0, ∃ g : Int, 0 < g ∧ r = ys.map (g * ·) := fun r hr => by
    obtain ⟨i, hi⟩ := List.mem_iff_getElem?.mp hr
    have hil := (List.getElem?_eq_some_iff.mp hi).1
    have hy := List.getElem?_eq_getElem (l := left0) (show i < left0.length by omega)
    obtain ⟨g, r', h1, h2, h3⟩ := hl0 i _ hy
    rw [hi] at h1
    cases h1
    exact ⟨_, List.mem_of_getElem? hy, g, h2, h3⟩
  have ok0 : LeftOk n 0 left0 := ⟨by omega, fun ys hy => by
      obtain ⟨r, hr, g, _, e⟩ := left0_of ys hy
      rw [scale_len e]; exact (hrows r hr).1, fun ys hy => by
      obtain ⟨r, hr, g, hg, e⟩ := left0_of ys hy
      exact scale_bz hg e (hrows r hr).2, fun ys _ j hj => absurd hj (Nat.not_lt_zero j)⟩
  have el0 : Elim n 0 0 (rows.map toR) (left0.map toR) := (Elim.start n (rows.map toR)).swap fun x => by
    rw [ker_map, ker_map]
    refine ⟨fun h ys hy => ?_, fun h r hr => ?_⟩
    · obtain ⟨r, hr, g, hg, e⟩ := left0_of ys hy
      exact (scale_dot hg e x).mp (h r hr)
    · obtain ⟨ys, hy, g, hg, e⟩ := rows_of r hr
      exact (scale_dot hg e x).mpr (h ys hy)
  refine ⟨trivial, trivial, _, _, rfl, ?_⟩
  simp only [dNext, dSeq]
  refine for_of (intsD (if rows = [] then 0 else n)) [.im (.list (rows.map rowL)), .im (.list (left0.map rowL)), .im (.int ((0 : Nat) : Int)), .e, .e, .e, .e, .e, .e, .e, .e, .e, .e] (fun P h => ?_)
    (fun at_ δ' => ∃ (left : List (List Int)) (count : Nat) (s3 s4 s5 s6 s7 s8 s9 s10 s11 : Sl), δ' = [.im (.list (rows.map rowL)), .im (.list (left.map rowL)), .im (.int (count : Nat)), s3, s4, s5, s6, s7, s8, s9, s10, s11, .e] ∧ LeftOk n at_ left ∧ Elim n at_ count (rows.map toR) (left.map toR)) ⟨left0, 0, _, _, _, _, _, _, _, _, _, rfl, ok0, el0⟩ ?_ ?_
  · refine ⟨[], rfl, Nat.zero_le _, (sh_rowsL rows).shaped, sh_nilL.shaped, _, rfl, ?_⟩
    rw [eqv_nil]
    cases rows with
    | nil => exact iff0 rfl ⟨_, rfl, by decide, by decide, h⟩
    | cons r rs =>
      refine ift rfl ?_
      have hr := (hrows r List.mem_cons_self).1
      have hll : (r.map PyData.int).length = n := by rw [List.length_map, hr]
      rw [if_neg (fun z => nomatch z)] at h
      exact ⟨rowL r, atI_zero rfl, _, rfl, by rw [hll]; omega, by rw [hll]; omega, by rw [hll]; exact h⟩
  · rintro at_ y δ' hy ⟨left, count, s3, s4, s5, s6, s7, s8, s9, s10, s11, rfl, ok, el⟩
    have hlt := (List.getElem?_eq_some_iff.mp hy).1
    rw [intsD_len] at hlt
    have hat : at_ < n := by
      by_cases q : rows = []
      · rw [if_pos q] at hlt; omega
      · rw [if_neg q] at hlt; exact hlt
    rw [intsD_get hlt] at hy
    cases hy
    have hfl := ok.few
    have rd : ∀ r ∈ left, L2.atI (r.map PyData.int) (at_ : Int) = some (.int (r.getD at_ 0)) := fun r hr => atI_nat (by rw [List.getElem?_map, of_lt (0 : Int) (by rw [ok.len r hr]; exact hat)]; rfl)
    refine lc_filt rowL left (fun r => !decide (r.getD at_ 0 = 0)) [.im (.list (rows.map rowL)), .im (.list (left.map rowL)), .im (.int (count : Nat)), s3, .im (.int (at_ : Nat)), s5, s6, s7, s8, s9, s10, s11, .e] (fun P h => h) (small_le (by omega)) (fun r hr R N hR hN => ?_) ?_
    · refine ⟨.int (r.getD at_ 0), rd r hr, _, rfl, _, rfl, ?_⟩
      by_cases q : r.getD at_ 0 = 0
      · exact iff0 (by rw [decide_eq_true q]; rfl) ⟨rfl, hN (by rw [decide_eq_true q]; rfl)⟩
      · exact ift (by rw [decide_eq_false q]; rfl) ⟨_, rfl, rfl, hR (by rw [decide_eq_false q]; rfl)⟩
    refine ⟨trivial, [], rfl, Nat.zero_le _, (sh_rowsL _).shaped, sh_nilL.shaped, _, rfl, ?_⟩
    rw [eqv_nil]
    cases hs : (left.filter fun r => !decide (r.getD at_ 0 = 0)) with
    | nil =>
      refine iff0 rfl ?_
      have hz : ∀ r ∈ left, r.getD at_ 0 = 0 := fun r hr => Classical.byContradiction fun hne => by
        have : r ∈ (left.filter fun r => !decide (r.getD at_ 0 = 0)) := List.mem_filter.mpr ⟨hr, by rw [decide_eq_false hne]; rfl⟩
        rw [hs] at this
        cases this
      refine ⟨left, count, .e, .im (.int (at_ : Nat)), .im (.list []), s6, s7, s8, s9, s10, s11, rfl, ⟨ok.few, ok.len, fun r hr x hx => (ok.bits r hr x hx).mono (by show bb at_ ≤ 2 * bb at_ + 1; omega), fun r hr j hj => ?_⟩, el.free hat fun r hr => ?_⟩
      · by_cases q : j = at_
        · rw [q]; exact hz r hr
        · exact ok.zero r hr j (by omega)
      · obtain ⟨q, hq, rfl⟩ := List.mem_map.mp hr
        rw [toR_getD, hz q hq]; rfl
    | cons top more =>
      refine ift rfl ?_
      have inSome : ∀ r, r ∈ top :: more → r ∈ left := fun r hr => by
        rw [← hs] at hr
        exact (List.mem_filter.mp hr).1
      have htl := inSome top List.mem_cons_self
      have b4 := bb_le (k := at_) (by omega)
      have moreLen : (top :: more).length ≤ 25 := by
        rw [← hs]
        exact Nat.le_trans (List.length_filter_le _ _) ok.few
      rw [List.length_cons] at moreLen
      have zlen := List.length_filter_le (fun r : List Int => decide (r.getD at_ 0 = 0)) left
      refine ⟨rowL top, atI_zero rfl, trivial, trivial, _, _, rfl, ?_⟩
      simp only [dNext, dSeq]
      refine lc_filt rowL left (fun r => decide (r.getD at_ 0 = 0)) [.im (.list (rows.map rowL)), .im (.list (left.map rowL)), .im (.int ((count + 1 : Nat) : Int)), .e, .im (.int (at_ : Nat)), .im (.list ((top :: more).map rowL)), .im (rowL top), s7, s8, s9, s10, s11, .e] (fun P h => h) (small_le (by omega)) (fun r hr R N hR hN => ?_) ?_
      · refine ⟨.int (r.getD at_ 0), rd r hr, _, rfl, _, rfl, ?_⟩
        by_cases q : r.getD at_ 0 = 0
        · exact ift (decide_eq_true q) ⟨_, rfl, rfl, hR (decide_eq_true q)⟩
        · exact iff0 (decide_eq_false q) ⟨rfl, hN (decide_eq_false q)⟩
      intro l7 _
      generalize hzs : (left.filter fun r => decide (r.getD at_ 0 = 0)) = zeros at zlen
      simp only [dNext, dSeq]
      refine for_of (more.map rowL) [.im (.list (rows.map rowL)), .im (.list (left.map rowL)), .im (.int ((count + 1 : Nat) : Int)), .e, .im (.int (at_ : Nat)), .im (.list ((top :: more).map rowL)), .im (rowL top), .own true l7 (zeros.map rowL), s8, s9, s10, s11, .e] (fun P h => ⟨_, rfl, _, rfl, ?_⟩)
        (fun j δ' => ∃ (cuts : List (List Int)) (s3 s8 s9 s10 s11 : Sl), δ' = [.im (.list (rows.map rowL)), .im (.list (left.map rowL)), .im (.int ((count + 1 : Nat) : Int)), s3, .im (.int (at_ : Nat)), .im (.list ((top :: more).map rowL)), .im (rowL top), .own true l7 ((zeros ++ cuts).map rowL), s8, s9, s10, s11, .e] ∧ cuts.length = j ∧
          ∀ (i : Nat) (r c : List Int), more[i]? = some r → cuts[i]? = some c → ∃ g : Int, 0 < g ∧ mixI (top.getD at_ 0) (r.getD at_ 0) r top = c.map (g * ·)) ⟨[], _, _, _, _, _, by rw [List.append_nil], rfl, fun i r c _ h => by simp at h⟩ ?_ ?_
      · show P (cutD ((top :: more).map rowL) (some ((1 : Nat) : Int)) none) _
        rw [cut_from _ _ (by simp)]
        exact h
      · rintro j d δ' hd ⟨cuts, s3, s8, s9, s10, s11, rfl, hcl, hcq⟩
        obtain ⟨r, hr, rfl⟩ := map_out hd
        have hrm := inSome r (List.mem_cons_of_mem _ (List.mem_of_getElem? hr))
        have hrl := ok.len r hrm
        have htn := ok.len top htl
        have hj : j < more.length := (List.getElem?_eq_some_iff.mp hr).1
        refine ⟨.int (top.getD at_ 0), rd top htl, trivial, .int (r.getD at_ 0), rd r hrm, trivial, _, _, rfl, trivial, ?_⟩
        have zl : (zipD (r.map PyData.int) (top.map PyData.int)).length = r.length := by rw [zipD_len, List.length_map, List.length_map, hrl, htn, Nat.min_self]
        refine lc_idx (zipD (r.map PyData.int) (top.map PyData.int)) [.im (.list (rows.map rowL)), .im (.list (left.map rowL)), .im (.int ((count + 1 : Nat) : Int)), .im (rowL r), .im (.int (at_ : Nat)), .im (.list ((top :: more).map rowL)), .im (rowL top), .own true l7 ((zeros ++ cuts).map rowL), .im (.int (top.getD at_ 0)), .im (.int (r.getD at_ 0)), s10, s11, .e] (fun i => .int (r.getD i 0 * top.getD at_ 0 - top.getD i 0 * r.getD at_ 0)) (fun P h => ⟨_, _, rfl, rfl, _, _, rfl, rfl, h⟩) (by rw [zl]; exact small_le (by omega)) (fun i z hz R hR => ?_) ?_
        · obtain ⟨a, b, ha, hb, rfl⟩ := zipD_get hz
          obtain ⟨x, hx, rfl⟩ := map_out ha
          obtain ⟨w, hw, rfl⟩ := map_out hb
          rw [getD_of hx, getD_of hw] at hR
          have ba : ∀ q ∈ left, Bz 1935 (q.getD at_ 0) := fun q hq => (ok.bits q hq _ (mem_getD (by rw [ok.len q hq]; exact hat))).mono b4
          exact ⟨rfl, rfl, mulB ((ok.bits r hrm x (List.mem_of_getElem? hx)).mono b4) (ba top htl), _, rfl, mulB ((ok.bits top htl w (List.mem_of_getElem? hw)).mono b4) (ba r hrm), _, rfl, rfl, hR⟩
        · rw [zl, zip_range _ _ _ _ (hrl.trans htn.symm)]
          refine ⟨trivial, ⟨mixI (top.getD at_ 0) (r.getD at_ 0) r top, ?_, fun x hx => ?_, rfl⟩, fun v hv => ?_⟩
          · rw [mix_len _ _ _ _ (hrl.trans htn.symm)]; omega
          · obtain ⟨i, hi⟩ := List.mem_iff_getElem?.mp hx
            have hil := (List.getElem?_eq_some_iff.mp hi).1
            rw [mix_len _ _ _ _ (hrl.trans htn.symm)] at hil
            have ex := mix_getD (top.getD at_ 0) (r.getD at_ 0) (hrl.trans htn.symm) i
            rw [getD_of hi] at ex
            rw [ex, Int.sub_eq_add_neg]
            have b1 := (ok.bits r hrm _ (mem_getD hil)).mul (ok.bits top htl _ (mem_getD (show at_ < top.length by omega)))
            have b2 := (ok.bits top htl _ (mem_getD (show i < top.length by omega))).mul (ok.bits r hrm _ (mem_getD (show at_ < r.length by omega)))
            exact (b1.add b2.neg).mono (by omega)
          · obtain ⟨g, ys, hg, he, rfl⟩ := hv _ rfl
            refine ⟨_, rfl, ?_, cuts ++ [ys], .im (rowL r), .im (.int (top.getD at_ 0)), .im (.int (r.getD at_ 0)), .e, .e, ?_, by rw [List.length_append, hcl]; rfl, fun i r' c' hr' hc' => ?_⟩
            · show ((zeros ++ cuts).map rowL).length < sizeLine
              rw [List.length_map, List.length_append, hcl]
              exact small_lt (by omega)
            · have e : (zeros ++ (cuts ++ [ys])).map rowL = (zeros ++ cuts).map rowL ++ [rowL ys] := by
                rw [← List.append_assoc, List.map_append]
                rfl
              rw [e]
              rfl
            · by_cases q : i < cuts.length
              · rw [List.getElem?_append_left q] at hc'
                exact hcq i r' c' hr' hc'
              · have hi : i = cuts.length := by
                  have := (List.getElem?_eq_some_iff.mp hc').1
                  rw [List.length_append] at this
                  simp at this
                  omega
                rw [hi, List.getElem?_append_right (Nat.le_refl _), Nat.sub_self] at hc'
                cases hc'
                rw [hi, hcl, hr] at hr'
                cases hr'
                exact ⟨g, hg, he⟩
      · rintro δ' ⟨cuts, s3, s8, s9, s10, s11, rfl, hcl, hcq⟩
        rw [List.length_map] at hcl
        have step := left_step hat hn5 ok el hs hcl hcq
        rw [hzs] at step
        simp only [dNext, dSeq]
        refine frz_own rfl ?_
        refine lc_filt rowL (zeros ++ cuts) (fun r => r.any fun x => !decide (x = 0)) [.im (.list (rows.map rowL)), .im (.list (left.map rowL)), .im (.int ((count + 1 : Nat) : Int)), s3, .im (.int (at_ : Nat)), .im (.list ((top :: more).map rowL)), .im (rowL top), .im (.list ((zeros ++ cuts).map rowL)), s8, s9, s10, s11, .e] (fun P h => h) (by rw [List.length_append, hcl]; exact small_le (by omega)) (fun r hr R N hR hN => ?_) ?_
        · refine lc_filt PyData.int r (fun x => !decide (x = 0)) [.im (.list (rows.map rowL)), .im (.list (left.map rowL)), .im (.int ((count + 1 : Nat) : Int)), .im (rowL r), .im (.int (at_ : Nat)), .im (.list ((top :: more).map rowL)), .im (rowL top), .im (.list ((zeros ++ cuts).map rowL)), s8, s9, s10, s11, .e] (fun P h => h) ?_ (fun x hx R2 N2 hR2 hN2 => ?_) ?_
          · have : r.length = n := by
              rcases List.mem_append.mp hr with z | z
              · rw [← hzs] at z
                exact ok.len r (List.mem_filter.mp z).1
              · obtain ⟨i, hi⟩ := List.mem_iff_getElem?.mp z
                have hil := (List.getElem?_eq_some_iff.mp hi).1
                have hr2 := List.getElem?_eq_getElem (l := more) (show i < more.length by omega)
                obtain ⟨g, hg, he⟩ := hcq i _ r hr2 hi
                have hl2 := ok.len _ (inSome _ (List.mem_cons_of_mem _ (List.mem_of_getElem? hr2)))
                rw [scale_len he, mix_len _ _ _ _ (hl2.trans (ok.len top htl).symm), hl2]
            exact small_le (by omega)
          · refine ⟨_, rfl, ?_⟩
            by_cases q : x = 0
            · exact iff0 (by rw [decide_eq_true q]; rfl) ⟨rfl, hN2 (by rw [decide_eq_true q]; rfl)⟩
            · exact ift (by rw [decide_eq_false q]; rfl) ⟨_, rfl, rfl, hR2 (by rw [decide_eq_false q]; rfl)⟩
          · refine ⟨_, rfl, [], rfl, Nat.zero_le _, (sh_lst (sh_map fun x _ => sh_int 0 x)).shaped, sh_nilL.shaped, _, rfl, ?_⟩
            rw [eqv_nil]
            by_cases q : (r.any fun x => !decide (x = 0)) = true
            · refine ift ?_ ⟨_, rfl, rfl, hR q⟩
              rw [decide_eq_false (fun z => ?_)]
              · rfl
              · obtain ⟨x, hx, hx2⟩ := List.any_eq_true.mp q
                have : x ∈ r.filter fun x => !decide (x = 0) := List.mem_filter.mpr ⟨hx, hx2⟩
                rw [map_nil.mp z] at this
                cases this
            · refine iff0 ?_ ⟨rfl, hN (by simpa using q)⟩
              rw [decide_eq_true (map_nil.mpr (List.filter_eq_nil_iff.mpr fun x hx h2 => q (List.any_eq_true.mpr ⟨x, hx, h2⟩)))]
              rfl
        · exact ⟨trivial, _, count + 1, .e, .im (.int (at_ : Nat)), .im (.list ((top :: more).map rowL)), .im (rowL top), .im (.list ((zeros ++ cuts).map rowL)), s8, s9, s10, s11, rfl, step⟩
  · rintro δ' ⟨left, count, s3, s4, s5, s6, s7, s8, s9, s10, s11, rfl, ok, el⟩
    rw [intsD_len] at el ok
    refine ⟨trivial, _, rfl, out count (fun e => ?_) ?_⟩
    · rw [if_pos e] at el
      rcases el with ⟨h, _⟩ | ⟨h, _⟩
      · exact h
      · omega
    · by_cases e : rows = []
      · rw [if_pos e] at el
        have hc : count = 0 := by
          rcases el with ⟨h, _⟩ | ⟨h, _⟩
          · exact h
          · omega
        rw [hc, e]
        have hf : ¬ KerT n (([] : List (List Int)).map toR) := fun z => free_column (at_ := 0) (n := n) (by omega) (fun r hr => absurd hr (by simp)) ((kerT_iff n _).mp z)
        exact ⟨fun z => by omega, fun z => (hf z).elim⟩
      · rw [if_neg e] at el
        exact el.last.2
end Dl

end
section
set_option Elab.async false
set_option linter.all false
set_option maxRecDepth 100000
set_option maxHeartbeats 4000000
set_option autoImplicit false
/-! Walks over data: what the pushes reach. -/
namespace Dl
open PySem
theorem dotI_le {p q : Nat} : ∀ (a b : List Int), (∀ x ∈ a, Bz p x) → (∀ x ∈ b, Bz q x) → (dotI a b).natAbs ≤ a.length * 2 ^ (p + q)
  | [], _, _, _ => by show (0 : Int).natAbs ≤ _; simp
  | _ :: _, [], _, _ => by show (0 : Int).natAbs ≤ _; simp
  | x :: a, y :: b, ha, hb => by
    have ih := dotI_le a b (fun z hz => ha z (List.mem_cons_of_mem _ hz)) (fun z hz => hb z (List.mem_cons_of_mem _ hz))
    have h1 : (x * y).natAbs < 2 ^ (p + q) := (ha x List.mem_cons_self).mul (hb y List.mem_cons_self)
    have e : dotI (x :: a) (y :: b) = x * y + dotI a b := by
      unfold dotI
      rw [List.zipWith_cons_cons, List.sum_cons]
    rw [e, List.length_cons, Nat.succ_mul]
    have := Int.natAbs_add_le (x * y) (dotI a b)
    omega
theorem dotI_bz {p q : Nat} {a b : List Int} (hl : a.length ≤ 5) (ha : ∀ x ∈ a, Bz p x) (hb : ∀ x ∈ b, Bz q x) : Bz (p + q + 3) (dotI a b) := by
  have h := dotI_le a b ha hb
  have h2 : a.length * 2 ^ (p + q) ≤ 5 * 2 ^ (p + q) := Nat.mul_le_mul_right _ hl
  have hp : 0 < 2 ^ (p + q) := Nat.pow_pos (by decide)
  unfold Bz
  rw [Nat.pow_add]
  omega
theorem iter_succ (t : List (List Int)) : ∀ (d : Nat) (x : List Int), iterI t (d + 1) x = stepI t (iterI t d x)
  | 0, _ => rfl
  | d + 1, x => iter_succ t d (stepI t x)
theorem step_len' {n : Nat} {t : List (List Int)} (hs : Sq n t) (x : List Int) : (stepI t x).length = n := by
  unfold stepI
  rw [List.length_map, hs.1]
theorem unit_len (n s : Nat) : (unitI n s).length = n := by
  unfold unitI
  rw [List.length_map, List.length_range]
theorem iter_len {n : Nat} {t : List (List Int)} (hs : Sq n t) (s : Nat) : ∀ d, (iterI t d (unitI n s)).length = n
  | 0 => unit_len n s
  | d + 1 => by rw [iter_succ]; exact step_len' hs _
theorem iter_bz {n : Nat} {t : List (List Int)} (hn : n ≤ 5) (hs : Sq n t) (hT : TabB 21 t) (s : Nat) : ∀ d, ∀ x ∈ iterI t d (unitI n s), Bz (1 + 24 * d) x
  | 0 => fun x hx => by
    have hx' : x ∈ unitI n s := hx
    unfold unitI at hx'
    obtain ⟨k, _, rfl⟩ := List.mem_map.mp hx'
    split <;> decide
  | d + 1 => fun x hx => by
    rw [iter_succ] at hx
    unfold stepI at hx
    obtain ⟨r, hr, rfl⟩ := List.mem_map.mp hx
    have := dotI_bz (by rw [hs.2 r hr]; exact hn) (hT r hr) (iter_bz hn hs hT s d)
    exact this.mono (by omega)
theorem reach_mem {n : Nat} {t : List (List Int)} {sp : List Nat} {r : List Int} (h : r ∈ reachI t n sp) : ∃ s ∈ sp, ∃ d, d < n ∧ r = iterI t d (unitI n s) := by
  unfold reachI at h
  rw [List.mem_flatMap] at h
  obtain ⟨s, hs, h⟩ := h
  obtain ⟨d, hd, rfl⟩ := List.mem_map.mp h
  exact ⟨s, hs, d, List.mem_range.mp hd, rfl⟩
theorem reach_len (t : List (List Int)) (n : Nat) : ∀ sp : List Nat, (reachI t n sp).length = sp.length * n
  | [] => by simp [reachI]
  | s :: sp => by
    have ih := reach_len t n sp
    unfold reachI at ih ⊢
    rw [List.flatMap_cons, List.length_append, ih, List.length_map, List.length_range, List.length_cons, Nat.succ_mul, Nat.add_comm]
def rowsD (t : List (List Int)) (n s : Nat) (d : Nat) : List (List Int) := (List.range d).map fun d => iterI t d (unitI n s)
theorem rowsD_succ (t : List (List Int)) (n s d : Nat) : rowsD t n s (d + 1) = rowsD t n s d ++ [iterI t d (unitI n s)] := by
  unfold rowsD
  rw [List.range_succ, List.map_append]
  rfl
theorem reach_snoc (t : List (List Int)) (n : Nat) {sp : List Nat} {i s : Nat} (h : sp[i]? = some s) : reachI t n (sp.take (i + 1)) = reachI t n (sp.take i) ++ rowsD t n s n := by
  unfold reachI
  rw [take_succ_get h, List.flatMap_append]
  simp [rowsD]
theorem wp_l_come : WpD 9 3 d_l_come pre_l_come post_l_come := by
  rintro as ⟨n, t, sp, hn, hs, hT, hsl, hsp, rfl⟩
  refine ⟨⟨rfl, by decide, by simp [Sl.pure]⟩, ?_⟩
  have out : post_l_come [.im (tabD t), .im (spotsD sp), .im (.int (n : Nat))] (.list ((reachI t n sp).map rowL)) := fun n' t' sp' _ _ e => by
    obtain ⟨e1, e2⟩ := cons_inj e
    obtain ⟨e3, e4⟩ := cons_inj e2
    obtain ⟨e5, _⟩ := cons_inj e4
    have e6 := im_inj e5
    injection e6 with e6
    have e7 : n = n' := by omega
    rw [tabD_inj (im_inj e1), spotsD_inj (im_inj e3), e7]
  generalize post_l_come [.im (tabD t), .im (spotsD sp), .im (.int (n : Nat))] = post at out ⊢
  show d_l_come _ [.im (tabD t), .im (spotsD sp), .im (.int (n : Nat)), .e, .e, .e, .e, .e, .e]
  have hlt : (t.map rowD).length = n := by rw [List.length_map, hs.1]
  refine ⟨[], rfl, Nat.zero_le _, fun l3 _ => ?_⟩
  simp only [dNext, dSeq]
  refine for_of (sp.map fun i : Nat => PyData.int (i : Int)) [.im (tabD t), .im (spotsD sp), .im (.int (n : Nat)), .own true l3 [], .e, .e, .e, .e, .e] (fun P h => h) (fun i δ' => ∃ s4 s5 s7, δ' = [.im (tabD t), .im (spotsD sp), .im (.int (n : Nat)), .own true l3 ((reachI t n (sp.take i)).map rowL), s4, s5, .e, s7, .e]) ⟨_, _, _, rfl⟩ ?_ ?_
  · rintro i d δ' hd ⟨s4, s5, s7, rfl⟩
    obtain ⟨s, hsi, rfl⟩ := map_out hd
    have hi : i < sp.length := (List.getElem?_eq_some_iff.mp hsi).1
    refine lc_idx (intsD n) [.im (tabD t), .im (spotsD sp), .im (.int (n : Nat)), .own true l3 ((reachI t n (sp.take i)).map rowL), .im (.int (s : Nat)), s5, .e, s7, .e] (fun k => .int (if k = s then 1 else 0)) (fun P h => ⟨_, rfl, by rw [hlt]; omega, by rw [hlt]; omega, by rw [hlt]; exact h⟩) (by rw [intsD_len]; exact small_le (by omega)) (fun k y hy R hR => ?_) ?_
    · have hk : k < n := by
        have := (List.getElem?_eq_some_iff.mp hy).1
        rw [intsD_len] at this
        exact this
      rw [intsD_get hk] at hy
      cases hy
      refine ⟨_, rfl, rfl, ?_⟩
      by_cases q : k = s
      · rw [if_pos q] at hR
        show R (.int (if decide ((k : Int) = (s : Int)) = true then 1 else 0))
        rw [if_pos (decide_eq_true (by omega))]
        exact hR
      · rw [if_neg q] at hR
        show R (.int (if decide ((k : Int) = (s : Int)) = true then 1 else 0))
        rw [if_neg (by rw [decide_eq_false (by omega)]; exact Bool.false_ne_true)]
        exact hR
    · have eu : (List.range (intsD n).length).map (fun k => PyData.int (if k = s then 1 else 0)) = (unitI n s).map PyData.int := by
        rw [intsD_len]
        unfold unitI
        rw [List.map_map]
        rfl
      rw [eu]
      refine ⟨trivial, ?_⟩
      simp only [dNext, dSeq]
      refine for_of (intsD n) [.im (tabD t), .im (spotsD sp), .im (.int (n : Nat)), .own true l3 ((reachI t n (sp.take i)).map rowL), .im (.int (s : Nat)), .im (rowL (unitI n s)), .e, s7, .e] (fun P h => ⟨_, rfl, by omega, by omega, h⟩) (fun d δ' => ∃ s7, δ' = [.im (tabD t), .im (spotsD sp), .im (.int (n : Nat)), .own true l3 ((reachI t n (sp.take i) ++ rowsD t n s d).map rowL), .im (.int (s : Nat)), .im (rowL (iterI t d (unitI n s))), .e, s7, .e]) ⟨s7, by rw [show rowsD t n s 0 = [] from rfl, List.append_nil]; rfl⟩ ?_ ?_
      · rintro d y δ' hy ⟨s7', rfl⟩
        have hdn : d < n := by
          have := (List.getElem?_eq_some_iff.mp hy).1
          rw [intsD_len] at this
          exact this
        have xl := iter_len hs s d
        have xb := iter_bz hn hs hT s d
        have elen : (reachI t n (sp.take i) ++ rowsD t n s d).length ≤ 100 := by
          rw [List.length_append, reach_len]
          unfold rowsD
          rw [List.length_map, List.length_range, List.length_take]
          have : min i sp.length * n ≤ 5 * 5 := Nat.mul_le_mul (by omega) hn
          omega
        have eadd : (reachI t n (sp.take i) ++ rowsD t n s (d + 1)).map rowL = (reachI t n (sp.take i) ++ rowsD t n s d).map rowL ++ [rowL (iterI t d (unitI n s))] := by
          rw [rowsD_succ, ← List.append_assoc, List.map_append]
          rfl
        refine ⟨trivial, _, rfl, by rw [List.length_map]; exact small_lt (by omega), ?_⟩
        rw [eadd, iter_succ]
        generalize iterI t d (unitI n s) = x at xl xb ⊢
        generalize (reachI t n (sp.take i) ++ rowsD t n s d).map rowL = fs
        have exl : (x.map PyData.int).length = n := by rw [List.length_map, xl]
        dsimp only
        refine lc_map (t.map rowD) [.im (tabD t), .im (spotsD sp), .im (.int (n : Nat)), .own true l3 (fs ++ [rowL x]), .im (.int (s : Nat)), .im (rowL x), .e, .im y, .e] (fun d => match d with | .tuple r => .int (dotI (r.map fun x => match x with | .int z => z | _ => 0) x) | _ => .none) (fun P h => h) (by rw [hlt]; exact small_le (by omega)) (fun d hd R hR => ?_) ?_
        · obtain ⟨r, hr, rfl⟩ := List.mem_map.mp hd
          have hrl := hs.2 r hr
          have hR' : R (.int (dotI ((r.map PyData.int).map fun x => match x with | .int z => z | _ => (0 : Int)) x)) := hR
          have er : ((r.map PyData.int).map fun x => match x with | .int z => z | _ => (0 : Int)) = r := by
            rw [List.map_map]
            exact List.map_id'' (fun _ => rfl) r
          rw [er] at hR'
          refine lc_idx (intsD n) [.im (tabD t), .im (spotsD sp), .im (.int (n : Nat)), .own true l3 (fs ++ [rowL x]), .im (.int (s : Nat)), .im (rowL x), .e, .im y, .im (rowD r)] (fun k => .int (r.getD k 0 * x.getD k 0)) (fun P h => ⟨_, rfl, by rw [exl]; omega, by rw [exl]; omega, by rw [exl]; exact h⟩) (by rw [intsD_len]; exact small_le (by omega)) (fun k y hy R hR => ?_) ?_
          · have hk : k < n := by
              have := (List.getElem?_eq_some_iff.mp hy).1
              rw [intsD_len] at this
              exact this
            rw [intsD_get hk] at hy
            cases hy
            have h1 := of_lt (0 : Int) (show k < r.length by omega)
            have h2 := of_lt (0 : Int) (show k < x.length by omega)
            refine ⟨.int (r.getD k 0), atI_nat ?_, _, rfl, .int (x.getD k 0), atI_nat ?_, mulB (hT r hr _ (List.mem_of_getElem? h1)) ((xb _ (List.mem_of_getElem? h2)).mono (show 1 + 24 * d ≤ 200 by omega)), _, rfl, rfl, hR⟩
            · rw [List.getElem?_map, h1]; rfl
            · rw [List.getElem?_map, h2]; rfl
          · refine ⟨(List.range n).map fun k => r.getD k 0 * x.getD k 0, by rw [intsD_len, List.map_map]; rfl, _, rfl, rfl, ?_⟩
            have ed := dot_range r x (hrl.trans xl.symm)
            rw [hrl] at ed
            rw [← ed]
            exact hR'
        · have es : (t.map rowD).map (fun d => match d with | .tuple r => PyData.int (dotI (r.map fun x => match x with | .int z => z | _ => 0) x) | _ => .none) = (stepI t x).map PyData.int := by
            unfold stepI
            rw [List.map_map, List.map_map]
            refine List.map_congr_left fun r _ => ?_
            show PyData.int (dotI ((r.map PyData.int).map fun x => match x with | .int z => z | _ => (0 : Int)) x) = .int (dotI r x)
            rw [List.map_map]
            rw [show (r.map ((fun x => match x with | PyData.int z => z | _ => (0 : Int)) ∘ PyData.int)) = r from List.map_id'' (fun _ => rfl) r]
          rw [es]
          exact ⟨trivial, .im y, rfl⟩
      · rintro δ' ⟨s7', rfl⟩
        rw [intsD_len]
        refine ⟨.im (.int (s : Nat)), .im (rowL (iterI t n (unitI n s))), s7', ?_⟩
        rw [reach_snoc t n hsi]
  · rintro δ' ⟨s4, s5, s7, rfl⟩
    rw [List.length_map, List.take_of_length_le (Nat.le_refl _)]
    exact ⟨trivial, _, rfl, out⟩
/-! ### places of names -/
theorem idx_at {c : List Str} {x : Str} (h : x ∈ c) : c[c.idxOf x]? = some x ∧ ∀ m, m < c.idxOf x → c[m]? ≠ some x := by
  have hl : c.idxOf x < c.length := List.idxOf_lt_length_iff.mpr h
  refine ⟨?_, fun m hm e => ?_⟩
  · rw [List.getElem?_eq_getElem hl, List.getElem_idxOf hl]
  · have hml : m < c.length := (List.getElem?_eq_some_iff.mp e).1
    have e2 : c[m] = x := (List.getElem?_eq_some_iff.mp e).2
    have := List.not_of_lt_findIdx (p := (· == x)) hm
    simp [e2] at this
theorem spots_len (c hs : List Str) : (spots c hs).length = hs.length := List.length_map _
theorem spots_lt {c hs : List Str} (h : ∀ x ∈ hs, x ∈ c) : ∀ i ∈ spots c hs, i < c.length := fun i hi => by
  obtain ⟨x, hx, rfl⟩ := List.mem_map.mp hi
  exact List.idxOf_lt_length_iff.mpr (h x hx)
theorem spotsD_eq (c hs : List Str) : (hs.map fun x => PyData.int ((c.idxOf x : Nat) : Int)) = (spots c hs).map fun i : Nat => PyData.int (i : Int) := by
  unfold spots
  rw [List.map_map]
  rfl
theorem HeadsOk.few {c hs : List Str} (h : HeadsOk c hs) (hc : CrewOk c) : hs.length ≤ 5 := Nat.le_trans (nodup_le h.nd h.sub) hc.five
theorem wp_l_does_steer : WpD 4 3 d_l_does_steer pre_l_does_steer post_l_does_steer := by
  rintro as ⟨c, hs, t, hc, hh, hsq, hT, rfl⟩
  refine ⟨⟨rfl, by decide, by simp [Sl.pure]⟩, ?_⟩
  have out : ∀ b : Bool, (b = true ↔ Full t c.length (spots c hs)) → post_l_does_steer [.im (crewD c), .im (tabD t), .im (crewD hs)] (.bool b) := fun b hb c' hs' t' _ _ _ _ e => by
    obtain ⟨e1, e2⟩ := cons_inj e
    obtain ⟨e3, e4⟩ := cons_inj e2
    obtain ⟨e5, _⟩ := cons_inj e4
    rw [← crewD_inj (im_inj e1), ← tabD_inj (im_inj e3), ← crewD_inj (im_inj e5)]
    exact ⟨b, rfl, hb⟩
  generalize post_l_does_steer [.im (crewD c), .im (tabD t), .im (crewD hs)] = post at out ⊢
  show d_l_does_steer _ [.im (crewD c), .im (tabD t), .im (crewD hs), .e]
  have hcl : (c.map PyData.str).length = c.length := List.length_map _
  have h5 := hc.five
  have hf := hh.few hc
  refine ⟨trivial, ?_⟩
  refine lc_map (hs.map PyData.str) [.im (crewD c), .im (tabD t), .im (crewD hs), .e] (fun d => .int ((c.idxOf (strOf d) : Nat) : Int)) (fun P h => h) (by rw [List.length_map]; exact small_le (by omega)) (fun x hx R hR => ?_) ?_
  · obtain ⟨z, hz, rfl⟩ := List.mem_map.mp hx
    obtain ⟨h1, h2⟩ := idx_at (hh.sub z hz)
    exact ⟨c, rfl, z, rfl, c.idxOf z, h1, h2, _, rfl, rfl, hR⟩
  · have e1 : (hs.map PyData.str).map (fun d => PyData.int ((c.idxOf (strOf d) : Nat) : Int)) = (spots c hs).map fun i : Nat => PyData.int (i : Int) := by
      rw [List.map_map]
      exact spotsD_eq c hs
    rw [e1]
    have hsl := spots_len c hs
    refine ⟨trivial, trivial, ⟨c.length, t, spots c hs, h5, hsq, hT, by omega, spots_lt hh.sub, by rw [hcl]; rfl⟩, fun r hr => ?_⟩
    have hr := hr c.length t (spots c hs) hsq hT (by rw [hcl]; rfl)
    subst hr
    have rl : ∀ r ∈ reachI t c.length (spots c hs), r.length = c.length := fun r hr => by
      obtain ⟨s, _, d, _, rfl⟩ := reach_mem hr
      exact iter_len hsq s d
    refine ⟨trivial, ⟨reachI t c.length (spots c hs), c.length, by have := hc.two; omega, h5, ?_, fun r hr => ⟨rl r hr, fun x hx => ?_⟩, rfl⟩, fun r hr => ?_⟩
    · rw [reach_len, hsl]
      have : hs.length * c.length ≤ 5 * 5 := Nat.mul_le_mul hf h5
      omega
    · obtain ⟨s, _, d, hd, rfl⟩ := reach_mem hr
      exact (iter_bz h5 hsq hT s d x hx).mono (by omega)
    · obtain ⟨k, rfl, hk⟩ := hr _ c.length (by have := hc.two; omega) rl rfl
      refine ⟨_, rfl, trivial, _, rfl, out _ ?_⟩
      rw [hcl, decide_eq_true_iff]
      exact (show ((k : Int) = (c.length : Int)) ↔ k = c.length by omega).trans hk
end Dl

end
section
set_option Elab.async false
set_option linter.all false
set_option maxRecDepth 100000
set_option maxHeartbeats 4000000
set_option autoImplicit false
/-! The program's elimination, in plain. -/
namespace Dl
open PySem
theorem div_map (c : Rat) : ∀ (r x : List Rat), dotR (r.map (· / c)) x = dotR r x / c
  | [], x => by show dotR [] x = dotR [] x / c; rw [dot_nil_l]; grind
  | a :: r, [] => by rw [dot_nil_r, dot_nil_r]; grind
  | a :: r, b :: x => by
    rw [List.map_cons, dot_cons, dot_cons, div_map c r x]
    grind
def normR (p : List Rat) (c : Rat) : List Rat := p.map (· / c)
def lessR (q : Rat) (r f : List Rat) : List Rat := List.zipWith (fun x y => x - q * y) r f
theorem norm_getD (p : List Rat) (c : Rat) (j : Nat) : (normR p c).getD j 0 = p.getD j 0 / c := by
  unfold normR
  rw [List.getD_eq_getElem?_getD, List.getElem?_map, List.getD_eq_getElem?_getD]
  cases p[j]?
  · show (0 : Rat) = 0 / c
    grind
  · rfl
theorem norm_len (p : List Rat) (c : Rat) : (normR p c).length = p.length := List.length_map _
theorem less_len {r f : List Rat} (q : Rat) (h : r.length = f.length) : (lessR q r f).length = r.length := by
  unfold lessR
  rw [List.length_zipWith, h, Nat.min_self]
theorem less_getD {r f : List Rat} (q : Rat) (h : r.length = f.length) (j : Nat) : (lessR q r f).getD j 0 = r.getD j 0 - q * f.getD j 0 := by
  unfold lessR
  by_cases hj : j < r.length
  · have h1 := of_lt (0 : Rat) hj
    have h2 := of_lt (0 : Rat) (show j < f.length by omega)
    rw [List.getD_eq_getElem?_getD, List.getElem?_zipWith, h1, h2]
    rfl
  · have e1 : r.getD j 0 = 0 := by rw [List.getD_eq_getElem?_getD, List.getElem?_eq_none (by omega)]; rfl
    have e2 : f.getD j 0 = 0 := by rw [List.getD_eq_getElem?_getD, List.getElem?_eq_none (by omega)]; rfl
    rw [List.getD_eq_getElem?_getD, List.getElem?_eq_none (by rw [List.length_zipWith]; omega), e1, e2]
    show (0 : Rat) = 0 - q * 0
    grind
theorem memR_getD {xs : List Rat} {k : Nat} (h : k < xs.length) : xs.getD k 0 ∈ xs := List.mem_of_getElem? (of_lt 0 h)
/-! ### sizes -/
theorem rowB_bd {b : Nat} {r : List Rat} (h : RowB b r) (hb : b ≤ 4400) : ∀ q ∈ r, Bd 4400 q := fun q hq => by
  obtain ⟨M, h0, h1, h2⟩ := h
  exact frM_bd h0 h1 (h2 q hq) hb hb
theorem RowB.mono {a b : Nat} {r : List Rat} (h : RowB a r) (hab : a ≤ b) : RowB b r := by
  obtain ⟨M, h0, h1, h2⟩ := h
  exact ⟨M, h0, Nat.lt_of_lt_of_le h1 (Nat.pow_le_pow_right (by decide) hab), fun q hq => by
    obtain ⟨k, e, hk⟩ := h2 q hq
    exact ⟨k, e, hk.mono hab⟩⟩
theorem natCast_ne {M : Nat} (h : 0 < M) : (M : Rat) ≠ 0 := fun z => by
  have : M = 0 := by exact_mod_cast z
  omega
theorem norm_row {b : Nat} {p : List Rat} {i : Nat} (h : RowB b p) (hi : i < p.length) (hne : p.getD i 0 ≠ 0) : RowB b (normR p (p.getD i 0)) := by
  obtain ⟨M, h0, h1, h2⟩ := h
  obtain ⟨c, ec, hc⟩ := h2 _ (memR_getD hi)
  have hM := natCast_ne h0
  have hc0 : c ≠ 0 := fun z => hne (by rw [ec, z]; show (0 : Rat) / _ = 0; grind)
  have hcR : (c : Rat) ≠ 0 := cast_ne hc0
  refine ⟨c.natAbs, by omega, hc, fun q hq => ?_⟩
  unfold normR at hq
  obtain ⟨x, hx, rfl⟩ := List.mem_map.mp hq
  obtain ⟨k, ek, hk⟩ := h2 x hx
  rcases Int.natAbs_eq c with e | e
  · refine ⟨k, ?_, hk⟩
    have e2 : ((c.natAbs : Nat) : Rat) = (c : Rat) := by
      conv => rhs; rw [e]
      rfl
    rw [e2, ek, ec]
    grind
  · refine ⟨-k, ?_, hk.neg⟩
    have e2 : ((c.natAbs : Nat) : Rat) = -(c : Rat) := by
      have : ((c.natAbs : Nat) : Int) = -c := by omega
      have h3 : (((c.natAbs : Nat) : Int) : Rat) = ((-c : Int) : Rat) := by rw [this]
      rw [Rat.intCast_neg] at h3
      exact h3
    rw [e2, ek, ec, Rat.intCast_neg]
    grind
theorem frM_mul2 {M N a b : Nat} {p q : Rat} (hM : 0 < M) (hN : 0 < N) (hp : ∃ k : Int, p = (k : Rat) / (M : Rat) ∧ Bz a k) (hq : ∃ k : Int, q = (k : Rat) / (N : Rat) ∧ Bz b k) : FrM (M * N) (a + b) (p * q) := by
  obtain ⟨k, rfl, hk⟩ := hp
  obtain ⟨l, rfl, hl⟩ := hq
  have h1 := natCast_ne hM
  have h2 := natCast_ne hN
  refine ⟨k * l, ?_, hk.mul hl⟩
  rw [Rat.intCast_mul, Rat.natCast_mul]
  grind
theorem frM_up {M N a b : Nat} {p : Rat} (hM : 0 < M) (hN : 0 < N) (hNb : N < 2 ^ b) (hp : ∃ k : Int, p = (k : Rat) / (M : Rat) ∧ Bz a k) : FrM (M * N) (a + b) p := by
  obtain ⟨k, rfl, hk⟩ := hp
  have h1 := natCast_ne hM
  have h2 := natCast_ne hN
  refine ⟨k * (N : Int), ?_, hk.mul (bz_nat hNb)⟩
  rw [Rat.intCast_mul, Rat.natCast_mul]
  show (k : Rat) / (M : Rat) = (k : Rat) * (N : Rat) / ((M : Rat) * (N : Rat))
  grind
theorem less_row {b : Nat} {r f : List Rat} {q : Rat} (hr : RowB b r) (hf : RowB b f) (hq : q ∈ r) (hl : r.length = f.length) : RowB (2 * b + 1) (lessR q r f) ∧ (∀ y ∈ f, Bd 4400 q → 2 * b ≤ 4400 → Bd 4400 (q * y)) := by
  obtain ⟨M, m0, m1, m2⟩ := hr
  obtain ⟨N, n0, n1, n2⟩ := hf
  have hMN : 0 < M * N := Nat.mul_pos m0 n0
  have hlt : M * N < 2 ^ (2 * b) := by
    have := Nat.mul_lt_mul'' m1 n1
    rw [← Nat.pow_add] at this
    rw [show 2 * b = b + b by omega]
    exact this
  refine ⟨⟨M * N, hMN, Nat.lt_of_lt_of_le hlt (Nat.pow_le_pow_right (by decide) (by omega)), fun z hz => ?_⟩, fun y hy _ hb => ?_⟩
  · unfold lessR at hz
    obtain ⟨i, hi⟩ := List.mem_iff_getElem?.mp hz
    rw [List.getElem?_zipWith] at hi
    cases hx : r[i]? with
    | none => rw [hx] at hi; cases hi
    | some x =>
      cases hy : f[i]? with
      | none => rw [hx, hy] at hi; cases hi
      | some y =>
        rw [hx, hy] at hi
        have ez : z = x - q * y := (Option.some.inj hi).symm
        have f1 := frM_up m0 n0 n1 (m2 x (List.mem_of_getElem? hx))
        obtain ⟨k2, e2, h2⟩ := frM_mul2 m0 n0 (m2 q hq) (n2 y (List.mem_of_getElem? hy))
        have f2 : FrM (M * N) (b + b) (-(q * y)) := ⟨-k2, by rw [e2, Rat.intCast_neg]; grind, h2.neg⟩
        have f3 := f1.add f2
        rw [ez, Rat.sub_eq_add_neg]
        rw [show 2 * b + 1 = b + b + 1 by omega]
        exact f3
  · exact frM_bd hMN hlt (frM_mul2 m0 n0 (m2 q hq) (n2 y hy)) (by omega) hb
/-! ### one column -/
structure RestOk (n at_ : Nat) (rest : List (List Rat)) : Prop where
  len : ∀ r ∈ rest, r.length = n
  bits : ∀ r ∈ rest, RowB (bb at_) r
  zero : ∀ r ∈ rest, ∀ j, j < at_ → r.getD j 0 = 0
theorem rest_step {n at_ count : Nat} {rows rest : List (List Rat)} {p : List Rat} {i : Nat} (ha : at_ < n) (h : RestOk n at_ rest) (he : Elim n at_ count rows rest) (hi : rest[i]? = some p) (hne : p.getD at_ 0 ≠ 0) :
    RestOk n (at_ + 1) ((rest.take i ++ rest.drop (i + 1)).map fun r => lessR (r.getD at_ 0) r (normR p (p.getD at_ 0))) ∧ Elim n (at_ + 1) (count + 1) rows ((rest.take i ++ rest.drop (i + 1)).map fun r => lessR (r.getD at_ 0) r (normR p (p.getD at_ 0))) := by
  have hp := List.mem_of_getElem? hi
  have hil := (List.getElem?_eq_some_iff.mp hi).1
  have hpl := h.len p hp
  have oth : ∀ r ∈ rest.take i ++ rest.drop (i + 1), r ∈ rest := fun r hr => (List.mem_append.mp hr).elim (fun z => List.mem_of_mem_take z) fun z => List.mem_of_mem_drop z
  have split : ∀ r ∈ rest, r = p ∨ r ∈ rest.take i ++ rest.drop (i + 1) := fun r hr => by
    obtain ⟨j, hj⟩ := List.mem_iff_getElem?.mp hr
    rcases Nat.lt_trichotomy j i with q | q | q
    · exact .inr (List.mem_append_left _ (List.mem_of_getElem? (i := j) (by rw [List.getElem?_take_of_lt q]; exact hj)))
    · subst q
      rw [hi] at hj
      exact .inl (Option.some.inj hj).symm
    · exact .inr (List.mem_append_right _ (List.mem_of_getElem? (i := j - (i + 1)) (by rw [List.getElem?_drop, show i + 1 + (j - (i + 1)) = j by omega]; exact hj)))
  have fl : (normR p (p.getD at_ 0)).length = n := by rw [norm_len, hpl]
  have f1 : (normR p (p.getD at_ 0)).getD at_ 0 = 1 := by rw [norm_getD]; grind
  have f0 : ∀ j, j < at_ → (normR p (p.getD at_ 0)).getD j 0 = 0 := fun j hj => by rw [norm_getD, h.zero p hp j hj]; grind
  have col : ∀ r ∈ rest, ∀ j, j < at_ + 1 → (lessR (r.getD at_ 0) r (normR p (p.getD at_ 0))).getD j 0 = 0 := fun r hr j hj => by
    rw [less_getD _ ((h.len r hr).trans fl.symm)]
    by_cases q : j = at_
    · rw [q, f1]; grind
    · rw [h.zero r hr j (by omega), f0 j (by omega)]; grind
  refine ⟨⟨fun r hr => ?_, fun r hr => ?_, fun r hr => ?_⟩, he.pivot (pivot_step (p := p) ha hp h.zero hne (fun x hk => ?_) (fun x hpx hk => ?_) (fun r hr => ?_))⟩
  · obtain ⟨q, hq, rfl⟩ := List.mem_map.mp hr
    have hl := h.len q (oth q hq)
    rw [less_len _ (hl.trans fl.symm), hl]
  · obtain ⟨q, hq, rfl⟩ := List.mem_map.mp hr
    have hl := h.len q (oth q hq)
    exact (less_row (h.bits q (oth q hq)) (norm_row (h.bits p hp) (by omega) hne) (memR_getD (by omega)) (hl.trans fl.symm)).1
  · obtain ⟨q, hq, rfl⟩ := List.mem_map.mp hr
    exact col q (oth q hq)
  · intro r hr
    obtain ⟨q, hq, rfl⟩ := List.mem_map.mp hr
    have hl := h.len q (oth q hq)
    unfold lessR normR
    rw [dot_sub _ _ _ _ (by rw [List.length_map, hl, hpl]), div_map, hk q (oth q hq), hk p hp]
    grind
  · intro r hr
    rcases split r hr with e | hm
    · rw [e]; exact hpx
    · have hl := h.len r hr
      have h1 := hk _ (List.mem_map.mpr ⟨r, hm, rfl⟩)
      unfold lessR normR at h1
      rw [dot_sub _ _ _ _ (by rw [List.length_map, hl, hpl]), div_map, hpx] at h1
      grind
  · obtain ⟨q, hq, rfl⟩ := List.mem_map.mp hr
    exact col q (oth q hq) at_ (Nat.lt_succ_self _)
end Dl

end
section
set_option Elab.async false
set_option linter.all false
set_option maxRecDepth 100000
set_option maxHeartbeats 4000000
set_option autoImplicit false
/-! The program's elimination, walked. -/
namespace Dl
open PySem
theorem range_map {α β : Type} (g : α → β) (d : α) : ∀ xs : List α, (List.range xs.length).map (fun k => g (xs.getD k d)) = xs.map g
  | [] => rfl
  | x :: xs => by
    rw [List.length_cons, List.range_succ_eq_map, List.map_cons, List.map_map, List.map_cons, ← range_map g d xs]
    rfl
def idxF (p : Nat → Bool) : Nat → D → Option D := fun i _ => if p i = true then some (.int (i : Nat)) else none
theorem fm_first (p : Nat → Bool) : ∀ (xs : List D) (k : Nat), (fmI (idxF p) k xs = [] ∧ ∀ j, j < xs.length → p (k + j) = false) ∨ ∃ (i : Nat) (tl : List D), fmI (idxF p) k xs = .int (i : Nat) :: tl ∧ k ≤ i ∧ i < k + xs.length ∧ p i = true
  | [], k => .inl ⟨rfl, fun j h => absurd h (Nat.not_lt_zero j)⟩
  | x :: xs, k => by
    by_cases q : p k = true
    · refine .inr ⟨k, fmI (idxF p) (k + 1) xs, ?_, Nat.le_refl _, by rw [List.length_cons]; omega, q⟩
      show (match idxF p k x with | some d => d :: fmI (idxF p) (k + 1) xs | none => fmI (idxF p) (k + 1) xs) = _
      unfold idxF
      rw [if_pos q]
    · have e : fmI (idxF p) k (x :: xs) = fmI (idxF p) (k + 1) xs := by
        show (match idxF p k x with | some d => d :: fmI (idxF p) (k + 1) xs | none => fmI (idxF p) (k + 1) xs) = _
        unfold idxF
        rw [if_neg q]
      rw [e]
      rcases fm_first p xs (k + 1) with ⟨h1, h2⟩ | ⟨i, tl, h1, h2, h3, h4⟩
      · refine .inl ⟨h1, fun j hj => ?_⟩
        cases j with
        | zero => simpa using q
        | succ j => rw [show k + (j + 1) = k + 1 + j by omega]; exact h2 j (by simpa using hj)
      · exact .inr ⟨i, tl, h1, by omega, by rw [List.length_cons]; omega, h4⟩
theorem fm_ints (p : Nat → Bool) : ∀ (xs : List D) (k : Nat), ∀ d ∈ fmI (idxF p) k xs, Sh 0 d
  | [], _ => fun d hd => nomatch hd
  | x :: xs, k => fun d hd => by
    by_cases q : p k = true
    · have e : fmI (idxF p) k (x :: xs) = .int (k : Nat) :: fmI (idxF p) (k + 1) xs := by
        show (match idxF p k x with | some d => d :: fmI (idxF p) (k + 1) xs | none => fmI (idxF p) (k + 1) xs) = _
        unfold idxF
        rw [if_pos q]
      rw [e] at hd
      rcases List.mem_cons.mp hd with z | z
      · rw [z]; exact sh_int 0 _
      · exact fm_ints p xs (k + 1) d z
    · have e : fmI (idxF p) k (x :: xs) = fmI (idxF p) (k + 1) xs := by
        show (match idxF p k x with | some d => d :: fmI (idxF p) (k + 1) xs | none => fmI (idxF p) (k + 1) xs) = _
        unfold idxF
        rw [if_neg q]
      rw [e] at hd
      exact fm_ints p xs (k + 1) d hd
theorem lc_less {P : List D → DE → Prop} {n b at_ src : Nat} {rs : List (List Rat)} {first : List Rat} (d0 d1 d2 d3 : Sl) (e2 e4 : Sl) (hn : n ≤ 5) (hb : 2 * b ≤ 4400) (ha : at_ < n) (hfew : rs.length ≤ 25) (hl : ∀ r ∈ rs, r.length = n ∧ RowB b r) (hfl : first.length = n) (hfb : RowB b first)
    (hsrc : ∀ P : List D → DE → Prop, P (rs.map frsL) [d0, d1, e2, d2, e4, .e, .im (.int (at_ : Nat)), d3, .e, .im (frsL first), .e] → iSeq (dVar src) [d0, d1, e2, d2, e4, .e, .im (.int (at_ : Nat)), d3, .e, .im (frsL first), .e] P)
    (hP : P ((rs.map fun r => lessR (r.getD at_ 0) r first).map frsL) [d0, d1, e2, d2, e4, .e, .im (.int (at_ : Nat)), d3, .e, .im (frsL first), .e]) :
    dLc (iSeq (dVar src)) (gN 5) dYes (dCall pre_less_part post_less_part (dCons (dVar 5) (dCons (dIxV 5 (dVar 6)) (dCons (dVar 9) dNil)))) [5] [d0, d1, e2, d2, e4, .e, .im (.int (at_ : Nat)), d3, .e, .im (frsL first), .e] P := by
  refine lc_idx (rs.map frsL) [d0, d1, e2, d2, e4, .e, .im (.int (at_ : Nat)), d3, .e, .im (frsL first), .e] (fun k => frsL (lessR ((rs.getD k []).getD at_ 0) (rs.getD k []) first)) hsrc (by rw [List.length_map]; exact small_le (by omega)) (fun k x hx R hR => ?_) ?_
  · obtain ⟨r, hr, rfl⟩ := map_out hx
    rw [getD_of hr] at hR
    obtain ⟨rl, rb⟩ := hl r (List.mem_of_getElem? hr)
    have hq := memR_getD (xs := r) (k := at_) (by omega)
    have lr := less_row rb hfb hq (rl.trans hfl.symm)
    have bq := rowB_bd rb (by omega) _ hq
    refine ⟨trivial, fr (r.getD at_ 0), atI_nat ?_, trivial, trivial, ⟨r, r.getD at_ 0, first, rl.trans hfl.symm, by omega, bq, rowB_bd rb (by omega), fun y hy => ⟨rowB_bd hfb (by omega) y hy, lr.2 y hy bq hb⟩, rfl⟩, fun v hv => ?_⟩
    · rw [List.getElem?_map, of_lt (0 : Rat) (show at_ < r.length by omega)]; rfl
    · have hv := hv _ _ _ rfl
      subst hv
      exact ⟨_, rfl, rfl, hR⟩
  · have e : (List.range (rs.map frsL).length).map (fun k => frsL (lessR ((rs.getD k []).getD at_ 0) (rs.getD k []) first)) = (rs.map fun r => lessR (r.getD at_ 0) r first).map frsL := by
      rw [List.length_map, range_map (fun r => frsL (lessR (r.getD at_ 0) r first)) [] rs, List.map_map]
      rfl
    rw [e]
    exact hP
theorem sh_frsL (s : List Rat) : Sh 2 (frsL s) := sh_lst (sh_map fun x _ => sh_fr x)
theorem eqv_nought (q : Rat) : PyData.eqv (fr q) (.tuple [.int 0, .int 1]) = decide (q = 0) := bool_dec (eqv_fr q 0)
theorem wp_stepped : WpD 11 2 d_stepped pre_stepped post_stepped := by
  rintro as ⟨rows, n, hn, hfew, hrows, rfl⟩
  refine ⟨⟨rfl, by decide, by simp [Sl.pure]⟩, ?_⟩
  have out : ∀ (f q : D) (hs : List D), hs.length ≤ n → (hs.length = n ↔ KerT n rows) → post_stepped [.im (.list (rows.map frsL)), .im (.int (n : Nat))] (.tuple [f, .list hs, q]) := fun f q hs h1 h2 rows' n' e hl => by
    obtain ⟨e1, e2⟩ := cons_inj e
    obtain ⟨e3, _⟩ := cons_inj e2
    have e4 := im_inj e3
    injection e4 with e4
    have e5 : n = n' := by omega
    rw [← map_inj (fun a b e => frsL_inj e) (lst_inj (im_inj e1)), ← e5]
    exact ⟨f, hs, q, rfl, h1, h2⟩
  generalize post_stepped [.im (.list (rows.map frsL)), .im (.int (n : Nat))] = post at out ⊢
  show d_stepped _ [.im (.list (rows.map frsL)), .im (.int (n : Nat)), .e, .e, .e, .e, .e, .e, .e, .e, .e]
  refine ⟨[], rfl, Nat.zero_le _, trivial, [], rfl, Nat.zero_le _, fun l3 _ => ?_⟩
  refine lc_map (rows.map frsL) [.im (.list (rows.map frsL)), .im (.int (n : Nat)), .e, .e, .e, .e, .e, .e, .e, .e, .e] (fun d => d) (fun P h => h) (by rw [List.length_map]; exact small_le (by omega)) (fun x hx R hR => ?_) ?_
  · obtain ⟨r, hr, rfl⟩ := List.mem_map.mp hx
    exact ⟨_, rfl, rfl, hR⟩
  rw [List.map_id'' (fun _ => rfl)]
  refine ⟨trivial, _, _, _, rfl, ?_⟩
  simp only [dNext, dSeq]
  refine for_of (intsD n) [.im (.list (rows.map frsL)), .im (.int (n : Nat)), .im (.list []), .own true l3 [], .im (.list (rows.map frsL)), .e, .e, .e, .e, .e, .e] (fun P h => ⟨_, rfl, by omega, by omega, h⟩)
    (fun at_ δ' => ∃ (found rest : List (List Rat)) (hs : List D) (s6 s7 s9 : Sl), δ' = [.im (.list (rows.map frsL)), .im (.int (n : Nat)), .im (.list (found.map frsL)), .own true l3 hs, .im (.list (rest.map frsL)), .e, s6, s7, .e, s9, .e] ∧ RestOk n at_ rest ∧ rest.length ≤ 25 ∧ Elim n at_ hs.length rows rest ∧ hs.length ≤ at_ ∧ (∀ r ∈ found, r.length = n ∧ RowB (bb at_) r) ∧ found.length ≤ at_)
    ⟨[], rows, [], _, _, _, rfl, ⟨fun r hr => (hrows r hr).1, fun r hr => (hrows r hr).2, fun r _ j hj => absurd hj (Nat.not_lt_zero j)⟩, hfew, Elim.start n rows, Nat.le_refl _, (fun r hr => nomatch hr), Nat.le_refl _⟩ ?_ ?_
  · rintro at_ y δ' hy ⟨found, rest, hs, s6, s7, s9, rfl, ok, hrl, el, hhl, hfd, hfl⟩
    have hat : at_ < n := by
      have := (List.getElem?_eq_some_iff.mp hy).1
      rw [intsD_len] at this
      exact this
    rw [intsD_get hat] at hy
    cases hy
    have b4 := bb_le (k := at_) (by omega)
    have mb : bb at_ ≤ bb (at_ + 1) := by show bb at_ ≤ 2 * bb at_ + 1; omega
    refine lc_fm (enumD 0 (rest.map frsL)) [.im (.list (rows.map frsL)), .im (.int (n : Nat)), .im (.list (found.map frsL)), .own true l3 hs, .im (.list (rest.map frsL)), .e, .im (.int (at_ : Nat)), s7, .e, s9, .e] (idxF fun i => !decide ((rest.getD i []).getD at_ 0 = 0)) (fun P h => h) (by rw [enumD_len, List.length_map]; exact small_le (by omega)) (fun i x hx R N hR hN => ?_) ?_
    · obtain ⟨d, hd, rfl⟩ := enum_out hx
      obtain ⟨r, hr, rfl⟩ := map_out hd
      rw [Nat.zero_add]
      have er : rest.getD i [] = r := getD_of hr
      have rl := ok.len r (List.mem_of_getElem? hr)
      refine ⟨rfl, rfl, fr (r.getD at_ 0), atI_nat ?_, _, rfl, (sh_fr _).shaped, (sh_fr 0).shaped, _, rfl, ?_⟩
      · rw [List.getElem?_map, of_lt (0 : Rat) (show at_ < r.length by omega)]; rfl
      · rw [eqv_nought]
        by_cases q : r.getD at_ 0 = 0
        · exact iff0 (by rw [decide_eq_true q]; rfl) ⟨rfl, hN (if_neg (by show ¬ (!decide ((rest.getD i []).getD at_ 0 = 0)) = true; rw [er, decide_eq_true q]; exact Bool.false_ne_true))⟩
        · exact ift (by rw [decide_eq_false q]; rfl) ⟨_, rfl, rfl, hR _ (if_pos (by show (!decide ((rest.getD i []).getD at_ 0 = 0)) = true; rw [er, decide_eq_false q]; rfl))⟩
    refine ⟨trivial, [], rfl, Nat.zero_le _, (sh_lst (fm_ints _ _ 0)).shaped, sh_nilL.shaped, _, rfl, ?_⟩
    rw [eqv_nil]
    rcases fm_first (fun i => !decide ((rest.getD i []).getD at_ 0 = 0)) (enumD 0 (rest.map frsL)) 0 with ⟨e, hz⟩ | ⟨i, tl, e, _, hi, hpi⟩
    · rw [e]
      refine iff0 rfl ?_
      have hz' : ∀ r ∈ rest, r.getD at_ 0 = 0 := fun r hr => by
        obtain ⟨j, hj⟩ := List.mem_iff_getElem?.mp hr
        have := hz j (by rw [enumD_len, List.length_map]; exact (List.getElem?_eq_some_iff.mp hj).1)
        rw [Nat.zero_add, getD_of hj] at this
        simpa using this
      refine ⟨found, rest, hs, .im (.int (at_ : Nat)), .im (.list []), s9, rfl, ⟨ok.len, fun r hr => (ok.bits r hr).mono mb, fun r hr j hj => ?_⟩, hrl, el.free hat hz', by omega, fun r hr => ⟨(hfd r hr).1, (hfd r hr).2.mono mb⟩, by omega⟩
      by_cases q : j = at_
      · rw [q]; exact hz' r hr
      · exact ok.zero r hr j (by omega)
    · rw [e]
      refine ift rfl ?_
      rw [enumD_len, List.length_map, Nat.zero_add] at hi
      have hp := of_lt ([] : List Rat) hi
      have hne : (rest.getD i []).getD at_ 0 ≠ 0 := by simpa using hpi
      generalize rest.getD i [] = p at hp hne
      have hpm := List.mem_of_getElem? hp
      have hpl := ok.len p hpm
      have hpb := ok.bits p hpm
      have step := rest_step hat ok el hp hne
      have hfln : (normR p (p.getD at_ 0)).length = n := by rw [norm_len, hpl]
      have hfb := norm_row hpb (show at_ < p.length by omega) hne
      refine ⟨.int (i : Nat), atI_zero rfl, frsL p, atI_nat (by rw [List.getElem?_map, hp]; rfl), trivial, ?_⟩
      try simp only [dNext, dSeq]
      refine lc_idx (p.map fr) [.im (.list (rows.map frsL)), .im (.int (n : Nat)), .im (.list (found.map frsL)), .own true l3 hs, .im (.list (rest.map frsL)), .e, .im (.int (at_ : Nat)), .im (.list (.int (i : Nat) :: tl)), .e, .im (frsL p), .e] (fun k => fr (p.getD k 0 / p.getD at_ 0)) (fun P h => h) (by rw [List.length_map]; exact small_le (by omega)) (fun k x hx R hR => ?_) ?_
      · obtain ⟨q, hq, rfl⟩ := map_out hx
        rw [getD_of hq] at hR
        have hb := rowB_bd hpb (by omega)
        refine ⟨trivial, fr (p.getD at_ 0), atI_nat ?_, trivial, ⟨_, _, hb q (List.mem_of_getElem? hq), hb _ (memR_getD (by omega)), hne, rfl⟩, fun v hv => ?_⟩
        · rw [List.getElem?_map, of_lt (0 : Rat) (show at_ < p.length by omega)]; rfl
        · have hv := hv _ _ rfl
          subst hv
          exact ⟨_, rfl, rfl, hR⟩
      have en : (List.range (p.map fr).length).map (fun k => fr (p.getD k 0 / p.getD at_ 0)) = (normR p (p.getD at_ 0)).map fr := by
        rw [List.length_map, range_map (fun q => fr (q / p.getD at_ 0)) 0 p]
        unfold normR
        rw [List.map_map]
        rfl
      rw [en]
      generalize hfirst : normR p (p.getD at_ 0) = first at hfln hfb step
      have c1 : cutD (rest.map frsL) none (some (i : Int)) = (rest.take i).map frsL := by rw [cut_to _ _ (by rw [List.length_map]; omega), List.map_take]
      have c2 : cutD (rest.map frsL) (some ((i : Int) + 1)) none = (rest.drop (i + 1)).map frsL := by
        rw [show (i : Int) + 1 = ((i + 1 : Nat) : Int) by omega, cut_from _ _ (by rw [List.length_map]; omega), List.map_drop]
      have others : ∀ r ∈ rest.take i ++ rest.drop (i + 1), r ∈ rest := fun r hr => (List.mem_append.mp hr).elim (fun z => List.mem_of_mem_take z) fun z => List.mem_of_mem_drop z
      have olen : (rest.take i ++ rest.drop (i + 1)).length ≤ 24 := by rw [List.length_append, List.length_take, List.length_drop]; omega
      have oadd : (rest.take i).map frsL ++ (rest.drop (i + 1)).map frsL = (rest.take i ++ rest.drop (i + 1)).map frsL := (List.map_append ..).symm
      have osz : ((rest.take i).map frsL).length + ((rest.drop (i + 1)).map frsL).length ≤ sizeLine := by
        rw [List.length_map, List.length_map]
        rw [List.length_append] at olen
        exact small_le (by omega)
      refine ⟨trivial, _, rfl, .int (i : Nat), atI_zero rfl, _, rfl, _, rfl, _, rfl, .int (i : Nat), atI_zero rfl, _, rfl, _, rfl, ?_⟩
      show (cutD (rest.map frsL) none (some (i : Int))).length + (cutD (rest.map frsL) (some ((i : Int) + 1)) none).length ≤ sizeLine ∧ _
      rw [c1, c2]
      refine ⟨osz, trivial, ?_⟩
      rw [oadd]
      generalize rest.take i ++ rest.drop (i + 1) = oth at others olen step ⊢
      try simp only [dNext, dSeq]
      refine lc_less (n := n) (b := bb at_) (at_ := at_) (src := 4) (rs := oth) (first := first) (.im (.list (rows.map frsL))) (.im (.int (n : Nat))) (.own true l3 hs) (.im (.list (.int (i : Nat) :: tl))) (.im (.list (found.map frsL))) (.im (.list (oth.map frsL))) hn (by omega) hat (by omega) (fun r hr => ⟨ok.len r (others r hr), ok.bits r (others r hr)⟩) hfln hfb (fun P h => h) ?_
      refine ⟨trivial, ?_⟩
      try simp only [dNext, dSeq]
      refine lc_less (n := n) (b := bb at_) (at_ := at_) (src := 2) (rs := found) (first := first) (.im (.list (rows.map frsL))) (.im (.int (n : Nat))) (.own true l3 hs) (.im (.list (.int (i : Nat) :: tl))) (.im (.list (found.map frsL))) (.im (.list ((oth.map fun r => lessR (r.getD at_ 0) r first).map frsL))) hn (by omega) hat (by omega) hfd hfln hfb (fun P h => h) ?_
      refine ⟨_, rfl, trivial, _, rfl, by show 1 ≤ sizeLine; decide, ?_, trivial, trivial, _, rfl, ?_, ?_⟩
      · rw [List.length_map, List.length_map]
        exact small_le (by show found.length + 1 ≤ 1000; omega)
      · exact small_lt (by omega)
      · have ef : ((found.map fun r => lessR (r.getD at_ 0) r first).map frsL) ++ [frsL first] = ((found.map fun r => lessR (r.getD at_ 0) r first) ++ [first]).map frsL := by rw [List.map_append]; rfl
        refine ⟨(found.map fun r => lessR (r.getD at_ 0) r first) ++ [first], oth.map fun r => lessR (r.getD at_ 0) r first, hs ++ [.int (at_ : Nat)], .im (.int (at_ : Nat)), .im (.list (.int (i : Nat) :: tl)), .im (frsL first), ?_, step.1, by rw [List.length_map]; omega, ?_, by rw [List.length_append]; show hs.length + 1 ≤ at_ + 1; omega, fun r hr => ?_, by rw [List.length_append, List.length_map]; show found.length + 1 ≤ at_ + 1; omega⟩
        · rw [← ef]
          rfl
        · rw [List.length_append]
          exact step.2
        · rcases List.mem_append.mp hr with z | z
          · obtain ⟨q, hq, rfl⟩ := List.mem_map.mp z
            obtain ⟨ql, qb⟩ := hfd q hq
            refine ⟨?_, (less_row qb hfb (memR_getD (by omega)) (ql.trans hfln.symm)).1⟩
            rw [less_len _ (ql.trans hfln.symm), ql]
          · have : r = first := by simpa using z
            rw [this]
            exact ⟨hfln, hfb.mono mb⟩
  · rintro δ' ⟨found, rest, hs, s6, s7, s9, rfl, ok, hrl, el, hhl, hfd, hfl⟩
    rw [intsD_len] at el hhl
    exact ⟨trivial, trivial, trivial, _, rfl, by show 3 ≤ sizeLine; decide, trivial, _, rfl, out _ _ hs hhl el.last.2⟩
end Dl

end
section
set_option Elab.async false
set_option linter.all false
set_option maxRecDepth 100000
set_option maxHeartbeats 4000000
set_option autoImplicit false
/-! Walks over data: ranks. -/
namespace Dl
open PySem
theorem wp_rank_of : WpD 2 2 d_rank_of pre_rank_of post_rank_of := by
  rintro as ⟨rows, n, hn, hfew, hrows, rfl⟩
  refine ⟨⟨rfl, by decide, by simp [Sl.pure]⟩, ?_⟩
  have out : ∀ k : Nat, (k = n ↔ KerT n rows) → post_rank_of [.im (.list (rows.map frsL)), .im (.int (n : Nat))] (.int (k : Nat)) := fun k hk rows' n' e hl => by
    obtain ⟨e1, e2⟩ := cons_inj e
    obtain ⟨e3, _⟩ := cons_inj e2
    have e4 := im_inj e3
    injection e4 with e4
    have e5 : n = n' := by omega
    rw [← map_inj (fun a b e => frsL_inj e) (lst_inj (im_inj e1)), ← e5]
    exact ⟨k, rfl, hk⟩
  generalize post_rank_of [.im (.list (rows.map frsL)), .im (.int (n : Nat))] = post at out ⊢
  show d_rank_of _ [.im (.list (rows.map frsL)), .im (.int (n : Nat))]
  refine ⟨trivial, trivial, ⟨rows, n, hn, hfew, hrows, rfl⟩, fun r hr => ?_⟩
  obtain ⟨f, hs, q, rfl, h1, h2⟩ := hr rows n rfl fun r hr => (hrows r hr).1
  exact ⟨_, rfl, .list hs, rfl, trivial, _, rfl, out _ h2⟩
theorem dotR_toR : ∀ a b : List Int, dotR (toR a) (toR b) = ((dotI a b : Int) : Rat)
  | [], _ => rfl
  | _ :: _, [] => rfl
  | x :: a, y :: b => by
    have ih := dotR_toR a b
    have e : dotI (x :: a) (y :: b) = x * y + dotI a b := by
      unfold dotI
      rw [List.zipWith_cons_cons, List.sum_cons]
    rw [e, Rat.intCast_add, Rat.intCast_mul, ← ih]
    exact dot_cons (x : Rat) (y : Rat) (toR a) (toR b)
theorem toR_step (t : List (List Int)) (x : List Int) : toR (stepI t x) = t.map fun r => dotR (toR r) (toR x) := by
  unfold stepI toR
  rw [List.map_map]
  refine List.map_congr_left fun r _ => ?_
  show ((dotI r x : Int) : Rat) = _
  rw [← dotR_toR]
  rfl
def foundI (t : List (List Int)) (n : Nat) (sp : List Nat) (d : Nat) : List (List Int) := (List.range d).flatMap fun d' => sp.map fun s => iterI t d' (unitI n s)
theorem found_succ (t : List (List Int)) (n : Nat) (sp : List Nat) (d : Nat) : foundI t n sp (d + 1) = foundI t n sp d ++ sp.map fun s => iterI t d (unitI n s) := by
  unfold foundI
  rw [List.range_succ, List.flatMap_append]
  simp
theorem found_len (t : List (List Int)) (n : Nat) (sp : List Nat) : ∀ d, (foundI t n sp d).length = d * sp.length
  | 0 => by simp [foundI]
  | d + 1 => by rw [found_succ, List.length_append, found_len t n sp d, List.length_map, Nat.succ_mul]
theorem found_mem (t : List (List Int)) (n : Nat) (sp : List Nat) (x : List Int) : x ∈ foundI t n sp n ↔ x ∈ reachI t n sp := by
  unfold foundI reachI
  simp only [List.mem_flatMap, List.mem_map, List.mem_range]
  exact ⟨fun ⟨d, hd, s, hs, e⟩ => ⟨s, hs, d, hd, e⟩, fun ⟨s, hs, d, hd, e⟩ => ⟨d, hd, s, hs, e⟩⟩
def hereD (t : List (List Int)) (n : Nat) (sp : List Nat) (d : Nat) : List D := sp.map fun s => frsL (toR (iterI t d (unitI n s)))
def hereF (n : Nat) (d : D) : D := match d with | .int s => frsL (toR (unitI n s.toNat)) | _ => .none
theorem frM_one {b : Nat} {z : Int} (h : Bz b z) : FrM 1 b (z : Rat) := ⟨z, by show (z : Rat) = (z : Rat) / ((1 : Nat) : Rat); rw [show ((1 : Nat) : Rat) = 1 from rfl]; grind, h⟩
theorem wp_pushed_rows : WpD 13 3 d_pushed_rows pre_pushed_rows post_pushed_rows := by
  rintro as ⟨c, rs, t, sp, hc, hr, hs, hT, hsl, hsp, rfl⟩
  refine ⟨⟨rfl, by decide, by simp [Sl.pure, wkS]⟩, ?_⟩
  have out : post_pushed_rows [wkS c rs, .im (tabD t), .im (spotsD sp)] (.list ((foundI t c.length sp c.length).map fun x => frsL (toR x))) := fun c' rs' t' sp' _ _ _ e => by
    obtain ⟨e1, e2⟩ := cons_inj e
    obtain ⟨e3, e4⟩ := cons_inj e2
    obtain ⟨e5, _⟩ := cons_inj e4
    obtain ⟨rfl, rfl⟩ := wkS_inj e1
    rw [← tabD_inj (im_inj e3), ← spotsD_inj (im_inj e5)]
    exact ⟨_, rfl, found_len t c.length sp c.length, found_mem t c.length sp⟩
  generalize post_pushed_rows [wkS c rs, .im (tabD t), .im (spotsD sp)] = post at out ⊢
  have h5 := hc.five
  have hcl : (c.map PyData.str).length = c.length := List.length_map _
  generalize hn : c.length = n at *
  show d_pushed_rows _ [wkS c rs, .im (tabD t), .im (spotsD sp), .e, .e, .e, .e, .e, .e, .e, .e, .e, .e]
  have hlt : (t.map rowD).length = n := by rw [List.length_map, hs.1]
  refine ⟨trivial, ?_⟩
  try simp only [dNext, dSeq]
  refine lc_map (t.map rowD) [wkS c rs, .im (tabD t), .im (spotsD sp), .im (.int ((c.map PyData.str).length : Nat)), .e, .e, .e, .e, .e, .e, .e, .e, .e] (fun d => match d with | .tuple r => .list (r.map fun x => .tuple [x, .int 1]) | _ => .none) (fun P h => h) (by rw [hlt]; exact small_le (by omega)) (fun d hd R hR => ?_) ?_
  · obtain ⟨r, hrm, rfl⟩ := List.mem_map.mp hd
    refine lc_map (r.map PyData.int) [wkS c rs, .im (tabD t), .im (spotsD sp), .im (.int ((c.map PyData.str).length : Nat)), .e, .e, .im (rowD r), .e, .e, .e, .e, .e, .e] (fun x => .tuple [x, .int 1]) (fun P h => h) (by rw [List.length_map, hs.2 r hrm]; exact small_le (by omega)) (fun y hy R2 hR2 => ?_) ?_
    · obtain ⟨z, hz, rfl⟩ := List.mem_map.mp hy
      exact ⟨trivial, trivial, _, rfl, by show 2 ≤ sizeLine; decide, _, rfl, rfl, hR2⟩
    · exact ⟨_, rfl, rfl, hR⟩
  have et : (t.map rowD).map (fun d => match d with | .tuple r => PyData.list (r.map fun x => .tuple [x, .int 1]) | _ => .none) = t.map fun r => frsL (toR r) := by
    rw [List.map_map]
    refine List.map_congr_left fun r _ => ?_
    show PyData.list ((r.map PyData.int).map fun x => .tuple [x, .int 1]) = .list ((toR r).map fr)
    unfold toR
    rw [List.map_map, List.map_map]
    rfl
  rw [et]
  clear et
  refine ⟨trivial, ?_⟩
  show dSeq _ _ _ [wkS c rs, .im (tabD t), .im (spotsD sp), .im (.int ((c.map PyData.str).length : Nat)), .im (.list (t.map fun r => frsL (toR r))), .e, .e, .e, .e, .e, .e, .e, .e]
  rw [hcl]
  simp only [dNext, dSeq]
  refine lc_map ((List.map (fun i : Nat => PyData.int (i : Int)) sp)) [wkS c rs, .im (tabD t), .im (spotsD sp), .im (.int (n : Nat)), .im (.list (t.map fun r => frsL (toR r))), .e, .e, .e, .e, .e, .e, .e, .e] (hereF n) (fun P h => h) (by rw [List.length_map]; exact small_le (by omega)) (fun d hd R hR => ?_) ?_
  · obtain ⟨s, hsm, rfl⟩ := List.mem_map.mp hd
    refine lc_idx (intsD n) [wkS c rs, .im (tabD t), .im (spotsD sp), .im (.int (n : Nat)), .im (.list (t.map fun r => frsL (toR r))), .e, .e, .e, .e, .im (.int (s : Nat)), .e, .e, .e] (fun k => .tuple [.int (if k = s then 1 else 0), .int 1]) (fun P h => ⟨_, rfl, by omega, by omega, h⟩) (by rw [intsD_len]; exact small_le (by omega)) (fun k y hy R hR => ?_) ?_
    · have hk : k < n := by
        have := (List.getElem?_eq_some_iff.mp hy).1
        rw [intsD_len] at this
        exact this
      rw [intsD_get hk] at hy
      cases hy
      by_cases q : k = s
      · rw [if_pos q] at hR
        exact ⟨_, rfl, ift (decide_eq_true (by omega)) ⟨_, rfl, rfl, hR⟩⟩
      · rw [if_neg q] at hR
        exact ⟨_, rfl, iff0 (decide_eq_false (by omega)) ⟨_, rfl, rfl, hR⟩⟩
    · have eu : (List.range (intsD n).length).map (fun k => PyData.tuple [.int (if k = s then 1 else 0), .int 1]) = (toR (unitI n s)).map fr := by
        rw [intsD_len]
        unfold unitI toR
        rw [List.map_map, List.map_map]
        refine List.map_congr_left fun k _ => ?_
        show _ = fr (((if k = s then (1 : Int) else 0) : Int) : Rat)
        split <;> rfl
      rw [eu]
      exact ⟨_, rfl, rfl, hR⟩
  have eh : (sp.map fun i : Nat => PyData.int (i : Int)).map (hereF n) = hereD t n sp 0 := by
    rw [List.map_map]
    rfl
  rw [eh]
  clear eh
  refine ⟨trivial, ?_⟩
  show dSeq _ _ _ [wkS c rs, .im (tabD t), .im (spotsD sp), .im (.int (n : Nat)), .im (.list (t.map fun r => frsL (toR r))), .e, .e, .im (.list (hereD t n sp 0)), .e, .e, .e, .e, .e]
  simp only [dNext, dSeq]
  refine ⟨[], rfl, Nat.zero_le _, trivial, ?_⟩
  show dSeq _ _ _ [wkS c rs, .im (tabD t), .im (spotsD sp), .im (.int (n : Nat)), .im (.list (t.map fun r => frsL (toR r))), .e, .e, .im (.list (hereD t n sp 0)), .e, .e, .im (.list []), .e, .e]
  simp only [dNext, dSeq]
  refine for_of (intsD n) [wkS c rs, .im (tabD t), .im (spotsD sp), .im (.int (n : Nat)), .im (.list (t.map fun r => frsL (toR r))), .e, .e, .im (.list (hereD t n sp 0)), .e, .e, .im (.list []), .e, .e] (fun P h => ⟨_, rfl, by omega, by omega, h⟩) (fun d δ' => ∃ s11, δ' = [wkS c rs, .im (tabD t), .im (spotsD sp), .im (.int (n : Nat)), .im (.list (t.map fun r => frsL (toR r))), .e, .e, .im (.list (hereD t n sp d)), .e, .e, .im (.list ((foundI t n sp d).map fun x => frsL (toR x))), s11, .e]) ⟨_, rfl⟩ ?_ ?_
  · rintro d y δ' hy ⟨s11, rfl⟩
    have hdn : d < n := by
      have := (List.getElem?_eq_some_iff.mp hy).1
      rw [intsD_len] at this
      exact this
    have hle : ((foundI t n sp d).map fun x => frsL (toR x)).length + (hereD t n sp d).length ≤ 30 := by
      unfold hereD
      rw [List.length_map, List.length_map, found_len]
      have : d * sp.length ≤ 4 * 5 := Nat.mul_le_mul (by omega) hsl
      omega
    refine ⟨small_le (by omega), trivial, ?_⟩
    have ef : ((foundI t n sp d).map fun x => frsL (toR x)) ++ hereD t n sp d = (foundI t n sp (d + 1)).map fun x => frsL (toR x) := by
      rw [found_succ, List.map_append, List.map_map]
      rfl
    rw [ef]
    show dAsg (dFr (dLc (iSeq (dVar 7)) (gN 12) dYes (dFr (dLc (iSeq (dVar 4)) (gN 6) dYes (dCall pre_product_sum post_product_sum (dCons (dVar 6) (dCons (dVar 12) dNil))) [6])) [12])) (gN 7) _ [wkS c rs, .im (tabD t), .im (spotsD sp), .im (.int (n : Nat)), .im (.list (t.map fun r => frsL (toR r))), .e, .e, .im (.list (hereD t n sp d)), .e, .e, .im (.list ((foundI t n sp (d + 1)).map fun x => frsL (toR x))), .im y, .e]
    have ehl : (hereD t n sp d).length = sp.length := List.length_map _
    refine lc_idx (hereD t n sp d) [wkS c rs, .im (tabD t), .im (spotsD sp), .im (.int (n : Nat)), .im (.list (t.map fun r => frsL (toR r))), .e, .e, .im (.list (hereD t n sp d)), .e, .e, .im (.list ((foundI t n sp (d + 1)).map fun x => frsL (toR x))), .im y, .e] (fun k => frsL (toR (iterI t (d + 1) (unitI n (sp.getD k 0))))) (fun P h => h) (by rw [ehl]; exact small_le (by omega)) (fun k w hw R hR => ?_) ?_
    · obtain ⟨s, hsk, rfl⟩ := map_out hw
      have hg : sp.getD k 0 = s := by rw [List.getD_eq_getElem?_getD, hsk]; rfl
      rw [hg, iter_succ, toR_step] at hR
      have xl := iter_len hs s d
      have xb := iter_bz h5 hs hT s d
      generalize iterI t d (unitI n s) = x at xl xb hR ⊢
      refine lc_idx (t.map fun r => frsL (toR r)) [wkS c rs, .im (tabD t), .im (spotsD sp), .im (.int (n : Nat)), .im (.list (t.map fun r => frsL (toR r))), .e, .e, .im (.list (hereD t n sp d)), .e, .e, .im (.list ((foundI t n sp (d + 1)).map fun x => frsL (toR x))), .im y, .im (frsL (toR x))] (fun k => fr (dotR (toR (t.getD k [])) (toR x))) (fun P h => h) (by rw [List.length_map, hs.1]; exact small_le (by omega)) (fun k w hw R hR => ?_) ?_
      · obtain ⟨r, hrk, rfl⟩ := map_out hw
        have hg : t.getD k [] = r := by rw [List.getD_eq_getElem?_getD, hrk]; rfl
        rw [hg] at hR
        have hrm := List.mem_of_getElem? hrk
        refine ⟨trivial, trivial, ⟨frsL (toR r), frsL (toR x), r, toR x, 1, Or.inr rfl, Or.inr rfl, ?_, ?_, by decide, by decide, ?_, ?_, rfl⟩, fun q hq => ?_⟩
        · unfold toR
          rw [List.length_map, xl, hs.2 r hrm]
        · rw [hs.2 r hrm]
          exact h5
        · exact fun z hz => (hT r hrm z hz).mono (by decide)
        · intro q hq
          obtain ⟨z, hz, rfl⟩ := List.mem_map.mp hq
          exact frM_one ((xb z hz).mono (by omega))
        · rw [hq _ _ _ _ (Or.inr rfl) (Or.inr rfl) rfl]
          exact ⟨_, rfl, rfl, hR⟩
      · have er : (List.range (t.map fun r => frsL (toR r)).length).map (fun k => fr (dotR (toR (t.getD k [])) (toR x))) = (t.map fun r => dotR (toR r) (toR x)).map fr := by
          rw [List.length_map, List.map_map]
          exact range_map (fun r => fr (dotR (toR r) (toR x))) [] t
        rw [er]
        exact ⟨_, rfl, rfl, hR⟩
    · have eh : (List.range (hereD t n sp d).length).map (fun k => frsL (toR (iterI t (d + 1) (unitI n (sp.getD k 0))))) = hereD t n sp (d + 1) := by
        rw [ehl]
        exact range_map (fun s => frsL (toR (iterI t (d + 1) (unitI n s)))) 0 sp
      rw [eh]
      exact ⟨trivial, _, rfl⟩
  · rintro δ' ⟨s11, rfl⟩
    rw [intsD_len]
    exact ⟨trivial, _, rfl, out⟩
end Dl

end
section
set_option Elab.async false
set_option linter.all false
set_option maxRecDepth 100000
set_option maxHeartbeats 4000000
set_option autoImplicit false
/-! Walks over data: ranks. -/
namespace Dl
open PySem
theorem reach_out {t : List (List Int)} {n : Nat} {sp : List Nat} {x : List Int} (h : x ∈ reachI t n sp) : ∃ s d, d < n ∧ x = iterI t d (unitI n s) := by
  unfold reachI at h
  obtain ⟨s, _, hx⟩ := List.mem_flatMap.mp h
  obtain ⟨d, hd, rfl⟩ := List.mem_map.mp hx
  exact ⟨s, d, List.mem_range.mp hd, rfl⟩
theorem kerT_mem {n : Nat} {a b : List (List Int)} (h : ∀ x, x ∈ a ↔ x ∈ b) : KerT n (a.map toR) ↔ KerT n (b.map toR) := by
  have one : ∀ {a b : List (List Int)}, (∀ x, x ∈ a ↔ x ∈ b) → KerT n (a.map toR) → KerT n (b.map toR) := fun {a b} h k x hx hr => k x hx fun r hra => by
    obtain ⟨y, hy, rfl⟩ := List.mem_map.mp hra
    exact hr _ (List.mem_map.mpr ⟨y, (h y).mp hy, rfl⟩)
  exact ⟨one h, one fun x => (h x).symm⟩
theorem wp_rank_by : WpD 3 3 d_rank_by pre_rank_by post_rank_by := by
  rintro as ⟨c, rs, t, sp, hc, hr, hs, hT, hsl, hsp, rfl⟩
  refine ⟨⟨rfl, by decide, by simp [Sl.pure, wkS]⟩, ?_⟩
  have out : ∀ k : Nat, (k = c.length ↔ Full t c.length sp) → post_rank_by [wkS c rs, .im (tabD t), .im (spotsD sp)] (.int (k : Nat)) := fun k hk c' rs' t' sp' _ _ _ e => by
    obtain ⟨e1, e2⟩ := cons_inj e
    obtain ⟨e3, e4⟩ := cons_inj e2
    obtain ⟨e5, _⟩ := cons_inj e4
    obtain ⟨rfl, rfl⟩ := wkS_inj e1
    rw [← tabD_inj (im_inj e3), ← spotsD_inj (im_inj e5)]
    exact ⟨k, rfl, hk⟩
  generalize post_rank_by [wkS c rs, .im (tabD t), .im (spotsD sp)] = post at out ⊢
  have h5 := hc.five
  have hcl : (c.map PyData.str).length = c.length := List.length_map _
  show d_rank_by _ [wkS c rs, .im (tabD t), .im (spotsD sp)]
  refine ⟨trivial, trivial, trivial, ⟨c, rs, t, sp, hc, hr, hs, hT, hsl, hsp, rfl⟩, fun r hq => ?_⟩
  obtain ⟨rows, rfl, hl, hm⟩ := hq c rs t sp hc hs hT rfl
  refine ⟨trivial, trivial, ?_, fun r hq => ?_⟩
  · refine ⟨rows.map toR, c.length, h5, ?_, ?_, ?_⟩
    · rw [List.length_map, hl]
      exact Nat.mul_le_mul h5 hsl
    · intro r hr
      obtain ⟨x, hx, rfl⟩ := List.mem_map.mp hr
      obtain ⟨s, d, hd, rfl⟩ := reach_out ((hm x).mp hx)
      have xl := iter_len hs s d
      have xb := iter_bz h5 hs hT s d
      refine ⟨by unfold toR; rw [List.length_map, xl], 1, by decide, by decide, fun q hq => ?_⟩
      obtain ⟨z, hz, rfl⟩ := List.mem_map.mp hq
      exact frM_one ((xb z hz).mono (by omega))
    · rw [List.map_map, hcl]
      rfl
  · obtain ⟨k, rfl, hk⟩ := hq (rows.map toR) c.length (by rw [List.map_map, hcl]; rfl) (fun r hr => by
      obtain ⟨x, hx, rfl⟩ := List.mem_map.mp hr
      obtain ⟨s, d, hd, rfl⟩ := reach_out ((hm x).mp hx)
      unfold toR
      rw [List.length_map, iter_len hs s d])
    exact ⟨trivial, _, rfl, out k (hk.trans (kerT_mem hm))⟩
end Dl

end
section
set_option Elab.async false
set_option linter.all false
set_option maxRecDepth 100000
set_option maxHeartbeats 4000000
set_option autoImplicit false
/-! Walks over data: what is shown. -/
namespace Dl
open PySem
theorem wp_bar_shown : WpD 3 3 d_bar_shown pre_bar_shown post_bar_shown := by
  rintro as ⟨c, rs, hs, t, line, ratio, ok, rfl⟩
  refine ⟨⟨rfl, by decide, by simp [Sl.pure, wkS]⟩, ?_⟩
  have hok := ok
  obtain ⟨hc, hr, hh, hsq, hl, hT, hlb, hrb⟩ := hok
  have out : ∀ b : Bool, (b = true ↔ (Strong c rs t ∧ BarOk t (spots c hs) line ratio)) → post_bar_shown [wkS c rs, .im (spotsD (spots c hs)), .im (Cl.bar c rs hs t line ratio).paper] (.bool b) := fun b hb c' rs' hs' t' line' ratio' _ e => by
    obtain ⟨e1, e2⟩ := cons_inj e
    obtain ⟨e3, e4⟩ := cons_inj e2
    obtain ⟨e5, _⟩ := cons_inj e4
    obtain ⟨rfl, rfl⟩ := wkS_inj e1
    obtain ⟨e6, e7⟩ := cons_inj (tup_inj (im_inj e5))
    obtain ⟨e8, e9⟩ := cons_inj (tup_inj (cons_inj e7).1)
    have e10 := (cons_inj e9).1
    injection e10 with e10
    show isB _ (Strong c rs t' ∧ BarOk t' (spots c hs') line' ratio')
    rw [← tabD_inj e6, ← rowD_inj e8, ← e10, ← spotsD_inj (im_inj e3)]
    exact ⟨b, rfl, hb⟩
  generalize post_bar_shown [wkS c rs, .im (spotsD (spots c hs)), .im (Cl.bar c rs hs t line ratio).paper] = post at out ⊢
  show d_bar_shown _ [wkS c rs, .im (spotsD (spots c hs)), .im (.tuple [tabD t, .tuple [rowD line, .int ratio]])]
  refine ⟨_, rfl, ?_⟩
  refine iff0 rfl ?_
  refine ⟨_, rfl, _, rfl, ?_⟩
  refine iff0 rfl ?_
  refine ⟨trivial, _, rfl, trivial, ⟨c, rs, t, hc, hr, hsq, rfl⟩, fun r hq => ?_⟩
  rcases hq c rs t hc hr hsq rfl with ⟨hS, rfl⟩ | ⟨hS, i, rfl⟩
  · refine ⟨_, rfl, [], rfl, Nat.zero_le _, rfl, rfl, _, rfl, iff0 rfl ?_⟩
    refine ⟨_, rfl, trivial, trivial, _, rfl, trivial, ⟨c.length, t, spots c hs, line, ratio, hc.five, hsq, hl, hT, hlb, hrb, spots_lt hh.sub, ?_, rfl⟩, fun r hq => ?_⟩
    · rw [spots_len]
      exact hh.few hc
    · obtain ⟨b, rfl, hb⟩ := hq c.length t (spots c hs) line ratio hsq hl (spots_lt hh.sub) rfl
      exact ⟨trivial, _, rfl, out b (hb.trans ⟨fun h => ⟨hS, h⟩, fun h => h.2⟩)⟩
  · refine ⟨_, rfl, [], rfl, Nat.zero_le _, rfl, rfl, _, rfl, ift rfl ?_⟩
    exact ⟨trivial, _, rfl, out false ⟨fun h => (Bool.false_ne_true h).elim, fun h => absurd h.1 hS⟩⟩
end Dl

end
section
set_option Elab.async false
set_option linter.all false
set_option maxRecDepth 100000
set_option maxHeartbeats 4000000
set_option autoImplicit false
/-! Walks over data: what is shown. -/
namespace Dl
open PySem
def spotF (c : List Str) (d : D) : D := match d with | .str x => .int ((c.idxOf x : Nat) : Int) | _ => .none
theorem wp_lot_shown : WpD 6 3 d_lot_shown pre_lot_shown post_lot_shown := by
  rintro as ⟨cl, ok, hlot, rfl⟩
  refine ⟨⟨rfl, by decide, by cases cl <;> simp [Sl.pure, wkS]⟩, ?_⟩
  have out : ∀ b : Bool, (b = true ↔ cl.ans) → post_lot_shown [wkS cl.c cl.rs, .im cl.said, .im cl.paper] (.bool b) := fun b hb cl' _ hl' e => by
    obtain ⟨e1, e2⟩ := cons_inj e
    obtain ⟨e3, e4⟩ := cons_inj e2
    obtain ⟨e5, _⟩ := cons_inj e4
    obtain ⟨ec, er⟩ := wkS_inj e1
    have e6' := im_inj e3
    refine ⟨b, rfl, hb.trans ?_⟩
    cases cl with
    | way c rs hs t first last ps => exact hlot.elim
    | bar c rs hs t line ratio =>
      cases cl' with
      | way c' rs' hs' t' first' last' ps' => exact hl'.elim
      | bar c' rs' hs' t' line' ratio' =>
        have ec' : c = c' := ec
        have er' : rs = rs' := er
        subst ec' er'
        have e6 := tup_inj e6'
        have e7 := crewD_inj (cons_inj (cons_inj (cons_inj e6).2).2).1
        obtain ⟨e8, e9⟩ := cons_inj (tup_inj (im_inj e5))
        obtain ⟨e10, e11⟩ := cons_inj (tup_inj (cons_inj e9).1)
        have e12 := (cons_inj e11).1
        injection e12 with e12
        rw [e7, tabD_inj e8, rowD_inj e10, e12]
      | any c' rs' hs' t' =>
        have e6 := tup_inj e6'
        have h := (cons_inj e6).1
        injection h with h
        exact absurd h (by decide +kernel)
    | any c rs hs t =>
      cases cl' with
      | way c' rs' hs' t' first' last' ps' => exact hl'.elim
      | bar c' rs' hs' t' line' ratio' =>
        have e6 := tup_inj e6'
        have h := (cons_inj e6).1
        injection h with h
        exact absurd h (by decide +kernel)
      | any c' rs' hs' t' =>
        have ec' : c = c' := ec
        have er' : rs = rs' := er
        subst ec' er'
        have e6 := tup_inj e6'
        have e7 := crewD_inj (cons_inj (cons_inj (cons_inj e6).2).2).1
        rw [e7, tabD_inj (im_inj e5)]
  generalize post_lot_shown [wkS cl.c cl.rs, .im cl.said, .im cl.paper] = post at out ⊢
  have hcr : CrewOk cl.c ∧ RoadsOk cl.c cl.rs := by
    cases cl with
    | bar c rs hs t line ratio => exact ⟨ok.1, ok.2.1⟩
    | any c rs hs t => exact ⟨ok.1, ok.2.1⟩
    | way c rs hs t first last ps => exact ⟨ok.1, ok.2.1⟩
  cases cl with
  | way c rs hs t first last ps => exact hlot.elim
  | bar c rs hs t line ratio =>
    have hh : HeadsOk c hs := ok.2.2.1
    have hc : CrewOk c := hcr.1
    show d_lot_shown _ [wkS c rs, .im (.tuple [.str "not always", .str (pageOf c rs), crewD hs]), .im (Cl.bar c rs hs t line ratio).paper, .e, .e, .e]
    refine ⟨trivial, _, rfl, trivial, ⟨c, hs, hc, hh, rfl⟩, fun r hq => ?_⟩
    subst hq
    refine ⟨_, rfl, [], rfl, Nat.zero_le _, rfl, rfl, _, rfl, iff0 rfl ?_⟩
    simp only [dNext, dSeq]
    refine lc_map (hs.map PyData.str) [wkS c rs, .im (.tuple [.str "not always", .str (pageOf c rs), crewD hs]), .im (Cl.bar c rs hs t line ratio).paper, .e, .e, .e] (spotF c) (fun P h => ⟨_, rfl, h⟩) (by rw [List.length_map]; exact small_le (Nat.le_trans (hh.few hc) (by decide))) (fun d hd R hR => ?_) ?_
    · obtain ⟨x, hx, rfl⟩ := List.mem_map.mp hd
      obtain ⟨h1, h2⟩ := idx_at (hh.sub x hx)
      exact ⟨c, rfl, x, rfl, c.idxOf x, h1, h2, _, rfl, rfl, hR⟩
    have es : (hs.map PyData.str).map (spotF c) = (spots c hs).map fun i : Nat => PyData.int (i : Int) := by
      rw [List.map_map, ← spotsD_eq]
      rfl
    rw [es]
    refine ⟨trivial, ?_⟩
    refine ⟨_, rfl, _, rfl, _, rfl, iff0 (by decide +kernel) ?_⟩
    refine ⟨_, rfl, _, rfl, _, rfl, iff0 (by decide +kernel) ?_⟩
    refine ⟨_, rfl, _, rfl, _, rfl, ift (by decide +kernel) ?_⟩
    refine ⟨trivial, trivial, trivial, ⟨c, rs, hs, t, line, ratio, ok, rfl⟩, fun r hq => ?_⟩
    obtain ⟨b, rfl, hb⟩ := hq c rs hs t line ratio ok rfl
    exact ⟨trivial, _, rfl, out b hb⟩
  | any c rs hs t =>
    have hh : HeadsOk c hs := ok.2.2.1
    have hc : CrewOk c := hcr.1
    show d_lot_shown _ [wkS c rs, .im (.tuple [.str "sometimes", .str (pageOf c rs), crewD hs]), .im (tabD t), .e, .e, .e]
    refine ⟨trivial, _, rfl, trivial, ⟨c, hs, hc, hh, rfl⟩, fun r hq => ?_⟩
    subst hq
    refine ⟨_, rfl, [], rfl, Nat.zero_le _, rfl, rfl, _, rfl, iff0 rfl ?_⟩
    simp only [dNext, dSeq]
    refine lc_map (hs.map PyData.str) [wkS c rs, .im (.tuple [.str "sometimes", .str (pageOf c rs), crewD hs]), .im (tabD t), .e, .e, .e] (spotF c) (fun P h => ⟨_, rfl, h⟩) (by rw [List.length_map]; exact small_le (Nat.le_trans (hh.few hc) (by decide))) (fun d hd R hR => ?_) ?_
    · obtain ⟨x, hx, rfl⟩ := List.mem_map.mp hd
      obtain ⟨h1, h2⟩ := idx_at (hh.sub x hx)
      exact ⟨c, rfl, x, rfl, c.idxOf x, h1, h2, _, rfl, rfl, hR⟩
    have es : (hs.map PyData.str).map (spotF c) = (spots c hs).map fun i : Nat => PyData.int (i : Int) := by
      rw [List.map_map, ← spotsD_eq]
      rfl
    rw [es]
    refine ⟨trivial, ?_⟩
    refine ⟨_, rfl, _, rfl, _, rfl, iff0 (by decide +kernel) ?_⟩
    refine ⟨_, rfl, _, rfl, _, rfl, iff0 (by decide +kernel) ?_⟩
    refine ⟨_, rfl, _, rfl, _, rfl, iff0 (by decide +kernel) ?_⟩
    refine ⟨_, rfl, _, rfl, _, rfl, ?_⟩
    refine iff0 (by decide +kernel) ?_
    refine ⟨trivial, trivial, ⟨c, rs, t, hc, hcr.2, ok.2.2.2.1, rfl⟩, fun r hq => ?_⟩
    rcases hq c rs t hc hcr.2 ok.2.2.2.1 rfl with ⟨hS, rfl⟩ | ⟨hS, i, rfl⟩
    · refine ⟨_, rfl, [], rfl, Nat.zero_le _, rfl, rfl, _, rfl, iff0 rfl ?_⟩
      refine ⟨trivial, trivial, trivial, ⟨c, rs, t, spots c hs, hc, hcr.2, ok.2.2.2.1, ok.2.2.2.2, by rw [spots_len]; exact hh.few hc, spots_lt hh.sub, rfl⟩, fun r hq => ?_⟩
      obtain ⟨k, rfl, hk⟩ := hq c rs t (spots c hs) hc ok.2.2.2.1 ok.2.2.2.2 rfl
      have hcl : (c.map PyData.str).length = c.length := List.length_map _
      refine ⟨_, rfl, trivial, _, rfl, out (decide ((k : Int) = ((c.map PyData.str).length : Nat))) ?_⟩
      rw [hcl, decide_eq_true_iff]
      exact ⟨fun h => ⟨hS, hk.mp (by omega)⟩, fun h => by rw [hk.mpr h.2]⟩
    · refine ⟨_, rfl, [], rfl, Nat.zero_le _, rfl, rfl, _, rfl, ift rfl ?_⟩
      exact ⟨trivial, _, rfl, out false ⟨fun h => (Bool.false_ne_true h).elim, fun h => absurd h.1 hS⟩⟩
end Dl

end
section
set_option Elab.async false
set_option linter.all false
set_option maxRecDepth 100000
set_option maxHeartbeats 4000000
set_option autoImplicit false
/-! Walks over data: what is shown. -/
namespace Dl
open PySem
theorem spots_nodup {c hs : List Str} (h : HeadsOk c hs) : (spots c hs).Nodup := by
  refine List.pairwise_map.mpr (List.Pairwise.imp_of_mem (fun {a b} ha hb hab e => hab ?_) h.nd)
  have h1 := (idx_at (h.sub a ha)).1
  rw [e, (idx_at (h.sub b hb)).1] at h1
  exact (Option.some.inj h1).symm
theorem wp_way_shown : WpD 10 3 d_way_shown pre_way_shown post_way_shown := by
  rintro as ⟨cl, ok, hlot, rfl⟩
  cases cl with
  | bar c rs hs t line ratio => exact absurd trivial hlot
  | any c rs hs t => exact absurd trivial hlot
  | way c rs hs t first last ps =>
  refine ⟨⟨rfl, by decide, by simp [Sl.pure, wkS, Cl.c, Cl.rs]⟩, ?_⟩
  have hok := ok
  obtain ⟨hc, hr, hh, hsq, hf, hl, hps, hpl, hfb, hlb, hpb, hT, hT3⟩ := hok
  have out : ∀ b : Bool, (b = true ↔ (Strong c rs t ∧ runR t (spots c hs) first ps = last)) → post_way_shown [wkS (Cl.way c rs hs t first last ps).c (Cl.way c rs hs t first last ps).rs, .im (Cl.way c rs hs t first last ps).said, .im (Cl.way c rs hs t first last ps).paper] (.bool b) := fun b hb cl' _ hl' e => by
    obtain ⟨e1, e2⟩ := cons_inj e
    obtain ⟨e3, e4⟩ := cons_inj e2
    obtain ⟨e5, _⟩ := cons_inj e4
    obtain ⟨ec, er⟩ := wkS_inj e1
    have e6' := im_inj e3
    refine ⟨b, rfl, hb.trans ?_⟩
    cases cl' with
    | bar c' rs' hs' t' line' ratio' => exact absurd trivial hl'
    | any c' rs' hs' t' => exact absurd trivial hl'
    | way c' rs' hs' t' first' last' ps' =>
      have ec' : c = c' := ec
      have er' : rs = rs' := er
      subst ec' er'
      have e6 := (cons_inj (cons_inj (tup_inj e6')).2).2
      obtain ⟨f1, f2⟩ := cons_inj e6
      obtain ⟨f3, f4⟩ := cons_inj f2
      obtain ⟨f5, f6⟩ := cons_inj f4
      have f7 := (cons_inj f6).1
      have f8 : ps = ps' := map_inj (fun a b e => frsD_inj e) (tup_inj (im_inj e5))
      rw [tabD_inj f1, crewD_inj f3, frsD_inj f5, frsD_inj f7, f8]
      exact Iff.rfl
  generalize post_way_shown [wkS (Cl.way c rs hs t first last ps).c (Cl.way c rs hs t first last ps).rs, .im (Cl.way c rs hs t first last ps).said, .im (Cl.way c rs hs t first last ps).paper] = post at out ⊢
  show d_way_shown _ [wkS c rs, .im (.tuple [.str "leads", .str (pageOf c rs), tabD t, crewD hs, frsD first, frsD last]), .im (.tuple (ps.map frsD)), .e, .e, .e, .e, .e, .e, .e]
  have ecut : cutD [.str "leads", .str (pageOf c rs), tabD t, crewD hs, frsD first, frsD last] (some 2) none = [tabD t, crewD hs, frsD first, frsD last] := rfl
  refine ⟨_, rfl, 2, rfl, trivial, ?_⟩
  show (cutD [.str "leads", .str (pageOf c rs), tabD t, crewD hs, frsD first, frsD last] (some 2) none).length = 4 ∧ gsCons (gN 3) (gsCons (gN 4) (gsCons (gN 5) (gsCons (gN 6) gsNil))) (cutD [.str "leads", .str (pageOf c rs), tabD t, crewD hs, frsD first, frsD last] (some 2) none) _ _
  rw [ecut]
  refine ⟨rfl, rfl, ?_⟩
  show dSeq _ _ _ [wkS c rs, .im (.tuple [.str "leads", .str (pageOf c rs), tabD t, crewD hs, frsD first, frsD last]), .im (.tuple (ps.map frsD)), .im (tabD t), .im (crewD hs), .im (frsD first), .im (frsD last), .e, .e, .e]
  refine ⟨trivial, trivial, ⟨c, rs, t, hc, hr, hsq, rfl⟩, fun r hq => ?_⟩
  rcases hq c rs t hc hr hsq rfl with ⟨hS, rfl⟩ | ⟨hS, i, rfl⟩
  · refine ⟨_, rfl, [], rfl, Nat.zero_le _, rfl, rfl, _, rfl, iff0 rfl ?_⟩
    refine ⟨trivial, trivial, ⟨c, hs, hc, hh, rfl⟩, fun r hq => ?_⟩
    subst hq
    refine ⟨_, rfl, [], rfl, Nat.zero_le _, rfl, rfl, _, rfl, ?_⟩
    refine iff0 rfl ?_
    have hcl : (c.map PyData.str).length = c.length := List.length_map _
    have h5 := hc.five
    refine ⟨trivial, trivial, ⟨first, by omega, fun q hq => frM_bd (M := Mday) (c := 64) (by decide) (by decide) (hfb q hq) (by decide) (by decide), by show [_, Sl.im (.int ((c.map PyData.str).length : Nat))] = _; rw [hcl, hf]⟩, fun r hq => ?_⟩
    subst hq
    refine ⟨_, rfl, [], rfl, Nat.zero_le _, rfl, rfl, _, rfl, ?_⟩
    refine iff0 rfl ?_
    refine ⟨trivial, trivial, ⟨last, by omega, fun q hq => frM_bd (M := Mday) (c := 64) (by decide) (by decide) (hlb q hq) (by decide) (by decide), by show [_, Sl.im (.int ((c.map PyData.str).length : Nat))] = _; rw [hcl, hl]⟩, fun r hq => ?_⟩
    subst hq
    refine ⟨_, rfl, [], rfl, Nat.zero_le _, rfl, rfl, _, rfl, ?_⟩
    refine iff0 rfl ?_
    refine ⟨_, rfl, ?_⟩
    refine iff0 rfl ?_
    simp only [dNext, dSeq]
    refine lc_map (ps.map frsD) [wkS c rs, .im (.tuple [.str "leads", .str (pageOf c rs), tabD t, crewD hs, frsD first, frsD last]), .im (.tuple (ps.map frsD)), .im (tabD t), .im (crewD hs), .im (frsD first), .im (frsD last), .e, .e, .e] (fun _ => .bool true) (fun P h => h) (by rw [List.length_map]; exact small_le (by omega)) (fun d hd R hR => ?_) ?_
    · obtain ⟨p, hp, rfl⟩ := List.mem_map.mp hd
      have hhl : (hs.map PyData.str).length = hs.length := List.length_map _
      have hf5 := hh.few hc
      refine ⟨trivial, trivial, ⟨p, by rw [hpl p hp]; exact hf5, fun q hq => frM_bd (M := Mday) (c := 64) (by decide) (by decide) (hpb p hp q hq) (by decide) (by decide), by show [_, Sl.im (.int ((hs.map PyData.str).length : Nat))] = _; rw [hhl, hpl p hp]⟩, fun r hq => ?_⟩
      subst hq
      exact ⟨_, rfl, [], rfl, Nat.zero_le _, rfl, rfl, _, rfl, rfl, hR⟩
    refine ⟨ps.map fun _ => true, by rw [List.map_map, List.map_map]; rfl, ?_⟩
    have eall : ((ps.map fun _ => true).all id) = true := by simp
    rw [eall]
    refine ⟨_, rfl, ?_⟩
    refine iff0 rfl ?_
    show dSeq _ _ _ [wkS c rs, .im (.tuple [.str "leads", .str (pageOf c rs), tabD t, crewD hs, frsD first, frsD last]), .im (.tuple (ps.map frsD)), .im (tabD t), .im (crewD hs), .im (frsD first), .im (frsD last), .e, .e, .e]
    simp only [dNext, dSeq]
    refine lc_map (hs.map PyData.str) [wkS c rs, .im (.tuple [.str "leads", .str (pageOf c rs), tabD t, crewD hs, frsD first, frsD last]), .im (.tuple (ps.map frsD)), .im (tabD t), .im (crewD hs), .im (frsD first), .im (frsD last), .e, .e, .e] (spotF c) (fun P h => h) (by rw [List.length_map]; exact small_le (Nat.le_trans (hh.few hc) (by decide))) (fun d hd R hR => ?_) ?_
    · obtain ⟨x, hx, rfl⟩ := List.mem_map.mp hd
      obtain ⟨h1, h2⟩ := idx_at (hh.sub x hx)
      exact ⟨c, rfl, x, rfl, c.idxOf x, h1, h2, _, rfl, rfl, hR⟩
    have es : (hs.map PyData.str).map (spotF c) = (spots c hs).map fun i : Nat => PyData.int (i : Int) := by
      rw [List.map_map, ← spotsD_eq]
      rfl
    rw [es]
    refine ⟨trivial, ?_⟩
    have hrun : runPre c.length t (spots c hs) first ps := ⟨h5, hsq, hT3, spots_nodup hh, by rw [spots_len]; exact hh.few hc, spots_lt hh.sub, hf, hfb, hps, fun p hp => ⟨by rw [spots_len, hpl p hp], hpb p hp⟩⟩
    refine ⟨trivial, trivial, trivial, trivial, ⟨c.length, t, spots c hs, first, ps, hrun, rfl⟩, fun r hq => ?_⟩
    have hq' := hq c.length t (spots c hs) first ps hrun rfl
    subst hq'
    exact ⟨_, rfl, (sh_frs _).shaped, (sh_frs _).shaped, trivial, _, rfl, out _ (by rw [eqv_frs]; exact ⟨fun h => ⟨hS, h⟩, fun h => h.2⟩)⟩
  · refine ⟨_, rfl, [], rfl, Nat.zero_le _, rfl, rfl, _, rfl, ift rfl ?_⟩
    refine ift rfl ?_
    exact ⟨trivial, _, rfl, out false ⟨fun h => (Bool.false_ne_true h).elim, fun h => absurd h.1 hS⟩⟩
end Dl

end
section
set_option Elab.async false
set_option linter.all false
set_option maxRecDepth 100000
set_option maxHeartbeats 4000000
set_option autoImplicit false
/-! Walks over data: what the checker accepts. -/
namespace Dl
open PySem
theorem page_inj {c c' : List Str} {rs rs' : List (Str × Str)} (hc : CrewOk c) (hr : RoadsOk c rs) (hc' : CrewOk c') (hr' : RoadsOk c' rs') (h : pageOf c rs = pageOf c' rs') : c = c' ∧ rs = rs' := by
  have e := (split_page hc hr).symm.trans ((congrArg (fun z => Txt.split z "\n") h).trans (split_page hc' hr'))
  obtain ⟨e1, e2⟩ := cons_inj e
  refine ⟨(split_blank hc).symm.trans ((congrArg (fun z => Txt.split z " ") e1).trans (split_blank hc')), ?_⟩
  have two : ∀ {c : List Str} {rs : List (Str × Str)}, CrewOk c → RoadsOk c rs → (rs.map roadS).map (fun s => Txt.split s " > ") = rs.map fun r => [r.1, r.2] := fun {c rs} hc hr => by
    rw [List.map_map]
    exact List.map_congr_left fun r h => split_road r.1 (hr.nm hc r h).1 r.2 (hr.nm hc r h).2
  have e3 := (two hc hr).symm.trans ((congrArg (fun l => l.map fun s => Txt.split s " > ") e2).trans (two hc' hr'))
  refine map_inj (fun x y e => ?_) e3
  obtain ⟨f1, f2⟩ := cons_inj e
  exact Prod.ext f1 (cons_inj f2).1
theorem Cl.crew {cl : Cl} (h : cl.ok) : CrewOk cl.c ∧ RoadsOk cl.c cl.rs := by
  cases cl with
  | bar c rs hs t line ratio => exact ⟨h.1, h.2.1⟩
  | any c rs hs t => exact ⟨h.1, h.2.1⟩
  | way c rs hs t first last ps => exact ⟨h.1, h.2.1⟩
theorem cl_inj {cl cl' : Cl} (h : cl.ok) (h' : cl'.ok) (e1 : cl.said = cl'.said) (e2 : cl.paper = cl'.paper) : cl = cl' := by
  have hc := Cl.crew h
  have hc' := Cl.crew h'
  cases cl with
  | bar c rs hs t line ratio =>
    cases cl' with
    | bar c' rs' hs' t' line' ratio' =>
      obtain ⟨f1, f2⟩ := cons_inj (cons_inj (tup_inj e1)).2
      injection f1 with f1
      obtain ⟨rfl, rfl⟩ := page_inj hc.1 hc.2 hc'.1 hc'.2 f1
      obtain ⟨g1, g2⟩ := cons_inj (tup_inj e2)
      obtain ⟨g3, g4⟩ := cons_inj (tup_inj (cons_inj g2).1)
      have g5 := (cons_inj g4).1
      injection g5 with g5
      rw [crewD_inj (cons_inj f2).1, tabD_inj g1, rowD_inj g3, g5]
      rfl
    | any c' rs' hs' t' =>
      have f := (cons_inj (tup_inj e1)).1
      injection f with f
      exact absurd f (by decide +kernel)
    | way c' rs' hs' t' first' last' ps' =>
      have f := (cons_inj (tup_inj e1)).1
      injection f with f
      exact absurd f (by decide +kernel)
  | any c rs hs t =>
    cases cl' with
    | bar c' rs' hs' t' line' ratio' =>
      have f := (cons_inj (tup_inj e1)).1
      injection f with f
      exact absurd f (by decide +kernel)
    | any c' rs' hs' t' =>
      obtain ⟨f1, f2⟩ := cons_inj (cons_inj (tup_inj e1)).2
      injection f1 with f1
      obtain ⟨rfl, rfl⟩ := page_inj hc.1 hc.2 hc'.1 hc'.2 f1
      have e3 : t = t' := tabD_inj e2
      rw [crewD_inj (cons_inj f2).1, e3]
      rfl
    | way c' rs' hs' t' first' last' ps' =>
      have f := (cons_inj (tup_inj e1)).1
      injection f with f
      exact absurd f (by decide +kernel)
  | way c rs hs t first last ps =>
    cases cl' with
    | bar c' rs' hs' t' line' ratio' =>
      have f := (cons_inj (tup_inj e1)).1
      injection f with f
      exact absurd f (by decide +kernel)
    | any c' rs' hs' t' =>
      have f := (cons_inj (tup_inj e1)).1
      injection f with f
      exact absurd f (by decide +kernel)
    | way c' rs' hs' t' first' last' ps' =>
      obtain ⟨f1, f2⟩ := cons_inj (cons_inj (tup_inj e1)).2
      injection f1 with f1
      obtain ⟨rfl, rfl⟩ := page_inj hc.1 hc.2 hc'.1 hc'.2 f1
      obtain ⟨g1, g2⟩ := cons_inj f2
      obtain ⟨g3, g4⟩ := cons_inj g2
      obtain ⟨g5, g6⟩ := cons_inj g4
      have g7 := (cons_inj g6).1
      have g8 : ps = ps' := map_inj (fun a b e => frsD_inj e) (tup_inj e2)
      rw [tabD_inj g1, crewD_inj g3, frsD_inj g5, frsD_inj g7, g8]
      rfl
theorem strsOf_crew (c : List Str) : strsOf (crewD c) = c := by
  show (c.map PyData.str).map strOf = c
  rw [List.map_map]
  exact List.map_id'' (fun _ => rfl) c
theorem pairsOf_roads (rs : List (Str × Str)) : pairsOf (roadsD rs) = rs := by
  show (rs.map roadD).map pairOf = rs
  rw [List.map_map]
  exact List.map_id'' (fun _ => rfl) rs
theorem mkPushed_eq (c : List Str) (rs : List (Str × Str)) : mkPushed (crewD c) (roadsD rs) = pushD c rs := by
  unfold mkPushed
  rw [strsOf_crew, pairsOf_roads]
theorem wp_accepts : WpD 4 2 d_accepts pre_accepts post_accepts := by
  rintro as ⟨cl, ok, rfl⟩
  refine ⟨⟨rfl, by decide, by simp [Sl.pure]⟩, ?_⟩
  have out : ∀ r : D, isB r cl.ans → post_accepts [.im cl.said, .im cl.paper] r := fun r hr cl' ok' e => by
    obtain ⟨e1, e2⟩ := cons_inj e
    obtain ⟨e3, _⟩ := cons_inj e2
    rw [← cl_inj ok ok' (im_inj e1) (im_inj e3)]
    exact hr
  generalize post_accepts [.im cl.said, .im cl.paper] = post at out ⊢
  show d_accepts _ [.im cl.said, .im cl.paper, .e, .e]
  obtain ⟨hc, hr⟩ := Cl.crew ok
  obtain ⟨tag, rest, hs, hl⟩ : ∃ (tag : Str) (rest : List D), cl.said = .tuple (.str tag :: .str (pageOf cl.c cl.rs) :: rest) ∧ ((cl.lot ∧ rest.length = 1) ∨ (¬ cl.lot ∧ rest.length = 4 ∧ tag = "leads")) := by
    cases cl with
    | bar c rs hs t line ratio => exact ⟨"not always", [crewD hs], rfl, .inl ⟨trivial, rfl⟩⟩
    | any c rs hs t => exact ⟨"sometimes", [crewD hs], rfl, .inl ⟨trivial, rfl⟩⟩
    | way c rs hs t first last ps => exact ⟨"leads", [tabD t, crewD hs, frsD first, frsD last], rfl, .inr ⟨id, rfl, rfl⟩⟩
  have preL : cl.lot → pre_lot_shown [wkS cl.c cl.rs, .im cl.said, .im cl.paper] := fun h => ⟨cl, ok, h, rfl⟩
  have preW : ¬ cl.lot → pre_way_shown [wkS cl.c cl.rs, .im cl.said, .im cl.paper] := fun h => ⟨cl, ok, h, rfl⟩
  have posL : cl.lot → ∀ r, post_lot_shown [wkS cl.c cl.rs, .im cl.said, .im cl.paper] r → isB r cl.ans := fun h r hr => hr cl ok h rfl
  have posW : ¬ cl.lot → ∀ r, post_way_shown [wkS cl.c cl.rs, .im cl.said, .im cl.paper] r → isB r cl.ans := fun h r hr => hr cl ok h rfl
  have hm := mkPushed_eq cl.c cl.rs
  generalize cl.said = said at *
  subst hs
  have hlen : ((PyData.str tag :: PyData.str (pageOf cl.c cl.rs) :: rest).length : Int) = (rest.length : Int) + 2 := by
    rw [List.length_cons, List.length_cons]; omega
  refine ⟨_, rfl, ?_⟩
  refine iff0 rfl ?_
  refine ⟨_, rfl, trivial, trivial, [.int 3, .int 6], rfl, by show 2 ≤ sizeLine; decide, (sh_int 0 _).shaped, (sh_lst (k := 0) (ds := [.int 3, .int 6]) fun d hd => ?_).shaped, _, rfl, ?_⟩
  · simp at hd
    rcases hd with rfl | rfl <;> exact sh_int 0 _
  rw [hlen]
  refine iff0 ?_ ?_
  · simp only [List.any_cons, List.any_nil, eqv_int]
    rcases hl with ⟨_, h⟩ | ⟨_, h, _⟩ <;> rw [h] <;> rfl
  refine ⟨.str (pageOf cl.c cl.rs), atI_nat (i := 1) rfl, trivial, ⟨cl.c, cl.rs, hc, hr, rfl⟩, fun r hq => ?_⟩
  have hq := hq cl.c cl.rs hc hr rfl
  subst hq
  refine ⟨trivial, _, rfl, iff0 rfl ?_⟩
  refine ⟨crewD cl.c, atI_nat (i := 0) rfl, trivial, roadsD cl.rs, atI_nat (i := 1) rfl, trivial, ⟨cl.c, cl.rs, hc, hr, rfl, rfl⟩, trivial, ?_⟩
  rw [hm]
  refine ⟨_, rfl, _, rfl, ?_⟩
  rw [hlen]
  rcases hl with ⟨h1, h2⟩ | ⟨h1, h2, h3⟩
  · refine iff0 (by rw [h2]; rfl) ?_
    refine ⟨trivial, trivial, trivial, preL h1, fun r hq => ?_⟩
    exact ⟨trivial, _, rfl, out r (posL h1 r hq)⟩
  · refine ift (by rw [h2]; rfl) ?_
    subst h3
    refine ⟨.str "leads", atI_nat (i := 0) rfl, _, rfl, _, rfl, ?_⟩
    refine ift (by decide +kernel) ?_
    refine ⟨trivial, trivial, trivial, preW h1, fun r hq => ?_⟩
    exact ⟨trivial, _, rfl, out r (posW h1 r hq)⟩
end Dl

end
section
set_option Elab.async false
set_option linter.all false
set_option maxRecDepth 100000
set_option maxHeartbeats 4000000
set_option autoImplicit false
/-! Walks over data: which part pushes which, as the class's maker tells. -/
namespace Dl
open PySem
def d_pushed : DTE := (dUn oTuple (dFr (dLc (iSeq (dVar 1)) (gN 6) dYes (dUn oTuple (dFr (dLc (iEnum (dVar 1)) (gTu (gsCons (gN 4) (gsCons (gN 5) gsNil)) 2) (dTst (dBin oIn (dTup (dCons (dVar 6) (dCons (dVar 5) dNil))) (dVar 2))) (dVar 4) [4, 5]))) [6])))
theorem fm_filter (p : Nat → Bool) : ∀ (xs : List D) (i : Nat), fmI (idxF p) i xs = ((List.range' i xs.length).filter p).map fun k : Nat => PyData.int (k : Int)
  | [], _ => rfl
  | x :: xs, i => by
    have ih := fm_filter p xs (i + 1)
    rw [List.length_cons, List.range'_succ, List.filter_cons]
    unfold fmI idxF
    by_cases q : p i = true
    · rw [if_pos q, if_pos q, List.map_cons, ← ih]
      rfl
    · rw [if_neg q, if_neg q, ← ih]
      rfl
def pushF (c : List Str) (rs : List (Str × Str)) (d : D) : D := .tuple ((pushIdx c rs (strOf d)).map fun i : Nat => .int (i : Int))
theorem wp_pushed {c : List Str} {rs : List (Str × Str)} (hc : CrewOk c) (hr : RoadsOk c rs) (s0 s3 : Sl) (P : DP) (h : ∀ δ, P (.im (pushD c rs)) δ) : d_pushed [s0, .im (crewD c), .im (roadsD rs), s3, .e, .e, .e] P := by
  have hcl : (c.map PyData.str).length = c.length := List.length_map _
  have h5 := hc.five
  have fin : ∀ δ, (fun z => P (.im z) δ) (PyData.tuple ((c.map PyData.str).map (pushF c rs))) := fun δ => by
    have e : (c.map PyData.str).map (pushF c rs) = c.map fun one => .tuple ((pushIdx c rs one).map fun i : Nat => .int (i : Int)) := by
      rw [List.map_map]
      rfl
    rw [e]
    exact h δ
  unfold d_pushed
  refine lc_map (c.map PyData.str) [s0, .im (crewD c), .im (roadsD rs), s3, .e, .e, .e] (pushF c rs) (fun P h => h) (by rw [hcl]; exact small_le (by omega)) (fun d hd R hR => ?_) (fin _)
  obtain ⟨x, hx, rfl⟩ := List.mem_map.mp hd
  refine lc_fm (enumD 0 (c.map PyData.str)) [s0, .im (crewD c), .im (roadsD rs), s3, .e, .e, .im (.str x)] (idxF fun i => decide ((x, c.getD i "") ∈ rs)) (fun P h => h) (by rw [enumD_len, hcl]; exact small_le (by omega)) (fun i y hy R2 N hR2 hN => ?_) ?_
  · obtain ⟨d, hd, rfl⟩ := enum_out hy
    obtain ⟨w, hw, rfl⟩ := map_out hd
    rw [Nat.zero_add]
    have ew : c.getD i "" = w := getD_of hw
    have nx := hc.sub x hx
    have nw := hc.sub w (List.mem_of_getElem? hw)
    refine ⟨rfl, rfl, trivial, trivial, _, rfl, by show 2 ≤ sizeLine; decide, _, rfl, sh_pair nx nw, (sh_roadsL (hr.nm hc)).shaped, _, rfl, ?_⟩
    have e1 : ((rs.map roadD).any fun z => PyData.eqv z (.tuple [.str x, .str w])) = decide ((x, w) ∈ rs) := in_roads (x, w) rs
    rw [e1]
    have hR2 : ∀ d, (if decide ((x, c.getD i "") ∈ rs) = true then some (PyData.int (i : Nat)) else none) = some d → R2 d := hR2
    have hN : (if decide ((x, c.getD i "") ∈ rs) = true then some (PyData.int (i : Nat)) else none) = none → N := hN
    rw [ew] at hR2 hN
    by_cases q : (x, w) ∈ rs
    · exact ift (decide_eq_true q) ⟨_, rfl, rfl, hR2 _ (if_pos (decide_eq_true q))⟩
    · exact iff0 (decide_eq_false q) ⟨rfl, hN (if_neg (by rw [decide_eq_false q]; exact Bool.false_ne_true))⟩
  · rw [fm_filter, enumD_len, hcl, ← List.range_eq_range']
    exact ⟨_, rfl, rfl, hR⟩
end Dl

end
section
set_option Elab.async false
set_option linter.all false
set_option maxRecDepth 100000
set_option maxHeartbeats 4000000
set_option autoImplicit false
/-! Walks over data: what is asked; tables that bar, their sums. -/
namespace Dl
open PySem
theorem wp_l_asked : WpD 3 2 d_l_asked pre_l_asked post_l_asked := by
  rintro as ⟨cl, ok, rfl⟩
  refine ⟨⟨rfl, by decide, by simp [Sl.pure]⟩, ?_⟩
  have out : ∀ b : Bool, (b = true ↔ cl.ans) → post_l_asked [.im cl.said, .im cl.paper] (.bool b) := fun b hb cl' ok' e => by
    obtain ⟨e1, e2⟩ := cons_inj e
    obtain ⟨e3, _⟩ := cons_inj e2
    rw [← cl_inj ok ok' (im_inj e1) (im_inj e3)]
    exact ⟨b, rfl, hb⟩
  generalize post_l_asked [.im cl.said, .im cl.paper] = post at out ⊢
  show d_l_asked _ [.im cl.said, .im cl.paper, .e]
  refine ⟨trivial, trivial, ⟨cl, ok, rfl⟩, fun r hq => ?_⟩
  obtain ⟨b, rfl, hb⟩ := hq cl ok rfl
  refine ⟨trivial, trivial, trivial, ⟨cl, ok, rfl⟩, fun r hq2 => ?_⟩
  obtain ⟨b2, rfl, hb2⟩ := hq2 cl ok rfl
  have e : b2 = b := by
    cases b <;> cases b2 <;> first | rfl | (exfalso; have := hb.trans hb2.symm; simp at this)
  subst e
  refine ⟨trivial, [.bool b2, .bool b2], rfl, by show 2 ≤ sizeLine; decide, trivial, ?_⟩
  cases b2 with
  | true =>
    refine ⟨_, rfl, trivial, trivial, [.str "[True, True]", .str "[False, False]"], rfl, by show 2 ≤ sizeLine; decide, ?_⟩
    refine ⟨by decide +kernel, by decide +kernel, _, rfl, ift (by decide +kernel) ?_⟩
    exact ⟨.bool true, rfl, trivial, _, rfl, out true hb⟩
  | false =>
    refine ⟨_, rfl, trivial, trivial, [.str "[True, True]", .str "[False, False]"], rfl, by show 2 ≤ sizeLine; decide, ?_⟩
    refine ⟨by decide +kernel, by decide +kernel, _, rfl, ift (by decide +kernel) ?_⟩
    exact ⟨.bool false, rfl, trivial, _, rfl, out false hb⟩
/-! ### tables by places -/
theorem getD_set_self {α : Type} {xs : List α} {i : Nat} {v d : α} (h : i < xs.length) : (xs.set i v).getD i d = v := by
  rw [List.getD_eq_getElem?_getD, List.getElem?_set_self h]
  rfl
theorem getD_set_other {α : Type} {xs : List α} {i j : Nat} {v d : α} (h : i ≠ j) : (xs.set i v).getD j d = xs.getD j d := by
  rw [List.getD_eq_getElem?_getD, List.getElem?_set_ne h, List.getD_eq_getElem?_getD]
def putI (t : List (List Int)) (j i : Nat) (z : Int) : List (List Int) := t.set j ((t.getD j []).set i z)
theorem put_sq {n : Nat} {t : List (List Int)} {j i : Nat} {z : Int} (h : Sq n t) : Sq n (putI t j i z) := by
  refine ⟨by unfold putI; rw [List.length_set]; exact h.1, fun r hr => ?_⟩
  unfold putI at hr
  by_cases hj : j < t.length
  · rcases List.mem_or_eq_of_mem_set hr with q | q
    · exact h.2 r q
    · rw [q, List.length_set]
      exact h.2 _ (List.mem_of_getElem? (of_lt [] hj))
  · rw [List.set_eq_of_length_le (by omega)] at hr
    exact h.2 r hr
theorem put_ent {n : Nat} {t : List (List Int)} {j i : Nat} {z : Int} (h : Sq n t) (hj : j < n) (hi : i < n) (a b : Nat) : ent (putI t j i z) a b = if a = j ∧ b = i then z else ent t a b := by
  unfold ent putI
  have hl : j < t.length := by rw [h.1]; exact hj
  have hr : (t.getD j []).length = n := h.2 _ (List.mem_of_getElem? (of_lt [] hl))
  by_cases qa : a = j
  · subst qa
    rw [getD_set_self hl]
    by_cases qb : b = i
    · subst qb
      rw [getD_set_self (by rw [hr]; exact hi), if_pos ⟨rfl, rfl⟩]
    · rw [getD_set_other (fun e => qb e.symm), if_neg (fun e => qb e.2)]
  · rw [getD_set_other (fun e => qa e.symm), if_neg (fun e => qa e.1)]
/-- the rows as they stand, each one a list of its own -/
def RowsR (rows : List (Addr × List D)) (t : List (List Int)) : Prop := rows.map (·.2) = t.map fun r => r.map PyData.int
theorem RowsR.get {rows : List (Addr × List D)} {t : List (List Int)} (h : RowsR rows t) {j : Nat} (hj : j < t.length) : ∃ a, rows[j]? = some (a, (t.getD j []).map PyData.int) := by
  have e : (rows.map (·.2))[j]? = some ((t.getD j []).map PyData.int) := by
    rw [show rows.map (·.2) = t.map fun r => r.map PyData.int from h, List.getElem?_map, of_lt ([] : List Int) hj]
    rfl
  obtain ⟨⟨a, d⟩, e1, e2⟩ := map_out e
  exact ⟨a, by rw [e1, e2]⟩
theorem RowsR.len {rows : List (Addr × List D)} {t : List (List Int)} (h : RowsR rows t) : rows.length = t.length := by
  have e := congrArg List.length h
  rw [List.length_map, List.length_map] at e
  exact e
theorem RowsR.put {rows : List (Addr × List D)} {t : List (List Int)} (h : RowsR rows t) {j i : Nat} {a : Addr} {z : Int} : RowsR (rows.set j (a, ((t.getD j []).map PyData.int).set i (.int z))) (putI t j i z) := by
  unfold RowsR putI
  rw [List.map_set, List.map_set, show rows.map (·.2) = t.map fun r => r.map PyData.int from h, List.map_set]
theorem RowsR.lists {rows : List (Addr × List D)} {t : List (List Int)} (h : RowsR rows t) : (rows.map fun r => PyData.list r.2) = t.map rowL := by
  have e := congrArg (List.map PyData.list) h
  rw [List.map_map, List.map_map] at e
  exact e
theorem RowsR.of {rows : List (Addr × List D)} {t : List (List Int)} (h : (rows.map fun r => PyData.list r.2) = t.map rowL) : RowsR rows t := by
  refine map_inj (f := PyData.list) (fun a b e => lst_inj e) ?_
  rw [List.map_map, List.map_map]
  exact h
/-! ### a column's sum -/
def colS (n : Nat) (line : List Int) (t : List (List Int)) (i : Nat) : Int := ((List.range n).map fun k => line.getD k 0 * ent t k i).sum
theorem sum_app (xs ys : List Int) : (xs ++ ys).sum = xs.sum + ys.sum := List.sum_append
theorem sum_part (f : Nat → Int) (p : Nat → Bool) (i : Nat) (hp : p i = false) : ∀ L : List Nat, L.Nodup → (∀ k ∈ L, k ≠ i → p k = false → f k = 0) → (L.map f).sum = ((L.filter p).map f).sum + (if i ∈ L then f i else 0)
  | [], _, _ => by simp
  | k :: L, nd, h => by
    have nd2 := List.nodup_cons.mp nd
    have ih := sum_part f p i hp L nd2.2 fun m hm => h m (List.mem_cons_of_mem _ hm)
    rw [List.map_cons, List.sum_cons, ih, List.filter_cons]
    by_cases e : k = i
    · subst e
      rw [hp, if_neg Bool.false_ne_true, if_neg nd2.1, if_pos List.mem_cons_self]
      omega
    · have hm : (i ∈ k :: L) ↔ i ∈ L := ⟨fun z => (List.mem_cons.mp z).resolve_left (fun q => e q.symm), fun z => List.mem_cons_of_mem _ z⟩
      by_cases q : p k = true
      · rw [if_pos q, List.map_cons, List.sum_cons]
        by_cases z : i ∈ L
        · rw [if_pos z, if_pos (hm.mpr z)]; omega
        · rw [if_neg z, if_neg (fun y => z (hm.mp y))]; omega
      · rw [if_neg q, h k List.mem_cons_self e (by simpa using q)]
        by_cases z : i ∈ L
        · rw [if_pos z, if_pos (hm.mpr z)]; omega
        · rw [if_neg z, if_neg (fun y => z (hm.mp y))]; omega
theorem sum_congr {f g : Nat → Int} : ∀ {L : List Nat}, (∀ k ∈ L, f k = g k) → (L.map f).sum = (L.map g).sum
  | [], _ => rfl
  | k :: L, h => by
    rw [List.map_cons, List.map_cons, List.sum_cons, List.sum_cons, h k List.mem_cons_self, sum_congr fun m hm => h m (List.mem_cons_of_mem _ hm)]
def innP (line : List Int) (t : List (List Int)) (i : Nat) (k : Nat) : Bool := decide (line.getD k 0 ≠ 0) && (decide (k ≠ i) && decide (ent t k i ≠ 0))
def innerI (n : Nat) (line : List Int) (t : List (List Int)) (i : Nat) : List Nat := (List.range n).filter (innP line t i)
theorem inn_self (line : List Int) (t : List (List Int)) (i : Nat) : innP line t i i = false := by
  unfold innP
  simp
theorem mem_inner {n : Nat} {line : List Int} {t : List (List Int)} {i k : Nat} : k ∈ innerI n line t i ↔ k < n ∧ line.getD k 0 ≠ 0 ∧ k ≠ i ∧ ent t k i ≠ 0 := by
  unfold innerI innP
  rw [List.mem_filter, List.mem_range]
  simp
theorem inner_nd (n : Nat) (line : List Int) (t : List (List Int)) (i : Nat) : (innerI n line t i).Nodup := List.nodup_range.sublist List.filter_sublist
theorem col_part {n : Nat} {line : List Int} {t t' : List (List Int)} {i : Nat} (hi : i < n) (h : ∀ k, k ≠ i → ent t k i = 0 → ent t' k i = 0) : colS n line t' i = ((innerI n line t i).map fun k => line.getD k 0 * ent t' k i).sum + line.getD i 0 * ent t' i i := by
  unfold colS innerI
  rw [sum_part (fun k => line.getD k 0 * ent t' k i) (innP line t i) i (inn_self line t i) _ List.nodup_range fun k _ hk hp => ?_, if_pos (List.mem_range.mpr hi)]
  unfold innP at hp
  by_cases q1 : line.getD k 0 = 0
  · show line.getD k 0 * _ = 0
    rw [q1, Int.zero_mul]
  · have q2 : ent t k i = 0 := Classical.byContradiction fun q2 => by
      rw [decide_eq_true (show line.getD k 0 ≠ 0 from q1), decide_eq_true (show k ≠ i from hk), decide_eq_true (show ent t k i ≠ 0 from q2)] at hp
      cases hp
    show _ * ent t' k i = 0
    rw [h k hk q2, Int.mul_zero]
/-- units -/
def Unit1 (line : List Int) : Prop := ∀ k, line.getD k 0 = 0 ∨ line.getD k 0 = 1 ∨ line.getD k 0 = -1
theorem unit_sq {line : List Int} (h : Unit1 line) {k : Nat} (hk : line.getD k 0 ≠ 0) : line.getD k 0 * line.getD k 0 = 1 := by
  rcases h k with e | e | e
  · exact (hk e).elim
  · rw [e]; rfl
  · rw [e]; rfl
theorem unit_abs {line : List Int} (h : Unit1 line) {k : Nat} (hk : line.getD k 0 ≠ 0) (z : Int) : (line.getD k 0 * z).natAbs = z.natAbs := by
  rcases h k with e | e | e
  · exact (hk e).elim
  · rw [e, Int.one_mul]
  · rw [e, Int.neg_mul, Int.one_mul, Int.natAbs_neg]
def absI (z : Int) : Int := if z < 0 then -z else z
theorem absI_nat (z : Int) : absI z = (z.natAbs : Int) := by
  unfold absI
  split <;> omega
/-- the sum over a part whose elements are the line's times something -/
def absS (t : List (List Int)) (i : Nat) (L : List Nat) : Int := (L.map fun k => absI (ent t k i)).sum
theorem absS_snoc (t : List (List Int)) (i : Nat) (L : List Nat) (k : Nat) : absS t i (L ++ [k]) = absS t i L + absI (ent t k i) := by
  unfold absS
  rw [List.map_append, sum_app]
  simp
theorem absS_le {t : List (List Int)} {i : Nat} {b : Int} : ∀ {L : List Nat}, (∀ k ∈ L, absI (ent t k i) ≤ b) → absS t i L ≤ L.length * b
  | [], _ => by unfold absS; simp
  | k :: L, h => by
    have ih := absS_le (L := L) fun m hm => h m (List.mem_cons_of_mem _ hm)
    have h1 := h k List.mem_cons_self
    unfold absS at ih ⊢
    rw [List.map_cons, List.sum_cons, List.length_cons]
    have e : ((L.length + 1 : Nat) : Int) * b = L.length * b + b := by
      rw [Int.natCast_add, Int.add_mul]
      simp
    rw [e]
    omega
theorem absS_nonneg (t : List (List Int)) (i : Nat) : ∀ L : List Nat, 0 ≤ absS t i L
  | [] => by unfold absS; simp
  | k :: L => by
    have ih := absS_nonneg t i L
    have h1 := absI_nat (ent t k i)
    unfold absS at ih ⊢
    rw [List.map_cons, List.sum_cons]
    omega
theorem absS_pos {t : List (List Int)} {i : Nat} {L : List Nat} (hL : L ≠ []) (h : ∀ k ∈ L, ent t k i ≠ 0) : 0 < absS t i L := by
  cases L with
  | nil => exact (hL rfl).elim
  | cons k L =>
    have h1 := h k List.mem_cons_self
    have h2 := absI_nat (ent t k i)
    have h3 := absS_nonneg t i L
    unfold absS at h3 ⊢
    rw [List.map_cons, List.sum_cons]
    omega
end Dl

end
section
set_option Elab.async false
set_option linter.all false
set_option maxRecDepth 100000
set_option maxHeartbeats 4000000
set_option autoImplicit false
/-! Tables that bar: the columns, one behind another. -/
namespace Dl
open PySem
structure BarT (c : List Str) (rs : List (Str × Str)) (line : List Int) (fold : Int) (i : Nat) (t : List (List Int)) : Prop where
  sq : Sq c.length t
  pat : ∀ a b, a < c.length → b < c.length → a ≠ b → (ent t a b ≠ 0 ↔ (c.getD b "", c.getD a "") ∈ rs)
  big : ∀ a b, a < c.length → b < c.length → absI (ent t a b) ≤ 1000
  low : ∀ a b, a < c.length → b < c.length → i ≤ b → absI (ent t a b) ≤ 5
  eig : ∀ b, b < i → colS c.length line t b = fold * line.getD b 0
structure LineOk (c sure : List Str) (line : List Int) : Prop where
  len : line.length = c.length
  zero : ∀ k, k < c.length → (line.getD k 0 = 0 ↔ c.getD k "" ∈ sure)
  unit : Unit1 line
theorem all_one {z : Str} : ∀ {l : List Str}, l.Nodup → (∀ y ∈ l, y = z) → z ∈ l → l.length = 1
  | [], _, _, h => nomatch h
  | [_], _, _, _ => rfl
  | a :: b :: l, nd, h, _ => by
    have e1 := h a List.mem_cons_self
    have e2 := h b (List.mem_cons_of_mem _ List.mem_cons_self)
    have := (List.nodup_cons.mp nd).1
    exact (this (by rw [e1, e2]; exact List.mem_cons_self)).elim
theorem pushS_nd {rs : List (Str × Str)} (nd : rs.Nodup) (x : Str) : (pushS rs x).Nodup := by
  unfold pushS
  refine List.pairwise_map.mpr (List.Pairwise.imp_of_mem (fun {a b} ha hb hab e => hab ?_) (nd.sublist List.filter_sublist))
  have e1 := of_decide_eq_true (List.mem_filter.mp ha).2
  have e2 := of_decide_eq_true (List.mem_filter.mp hb).2
  exact Prod.ext (e1.trans e2.symm) e
theorem fresh_nd {rs : List (Str × Str)} (nd : rs.Nodup) (x : Str) (sure : List Str) : (freshS rs x sure).Nodup := (pushS_nd nd x).sublist List.filter_sublist
section
variable {c : List Str} {rs : List (Str × Str)} {hs sure : List Str} {line : List Int} {fold : Int} {i : Nat} {t t' : List (List Int)}
theorem inner_two (hr : RoadsOk c rs) (hS : SureOk c rs hs sure) (hL : LineOk c sure line) (B : BarT c rs line fold i t) (hi : i < c.length) (hin : c.getD i "" ∈ sure) : (innerI c.length line t i).length ≠ 1 := fun h1 => by
  obtain ⟨a, ha⟩ := List.length_eq_one_iff.mp h1
  have hma : a ∈ innerI c.length line t i := by rw [ha]; exact List.mem_cons_self
  obtain ⟨a1, a2, a3, a4⟩ := mem_inner.mp hma
  refine hS.closed _ hin (all_one (z := c.getD a "") (fresh_nd hr.nd _ _) (fun y hy => ?_) (mem_fresh.mpr ⟨(B.pat a i a1 hi a3).mp a4, fun z => a2 ((hL.zero a a1).mpr z)⟩))
  obtain ⟨y1, y2⟩ := mem_fresh.mp hy
  obtain ⟨b, hb⟩ := List.mem_iff_getElem?.mp (hr.two _ y1)
  have hb' : c[b]? = some y := hb
  have hbl : b < c.length := (List.getElem?_eq_some_iff.mp hb').1
  have eb : c.getD b "" = y := getD_of hb'
  have hbi : b ≠ i := fun e => y2 (by rw [← eb, e]; exact hin)
  have hmb : b ∈ innerI c.length line t i := mem_inner.mpr ⟨hbl, fun z => y2 (by rw [← eb]; exact (hL.zero b hbl).mp z), hbi, (B.pat b i hbl hi hbi).mpr (by rw [eb]; exact y1)⟩
  rw [ha] at hmb
  have e : b = a := by simpa using hmb
  rw [← eb, e]
theorem snoc_of {α : Type} {l : List α} (h0 : l ≠ []) (h1 : l.length ≠ 1) : ∃ m b, l = m ++ [b] ∧ m ≠ [] := by
  rcases List.eq_nil_or_concat l with e | ⟨m, b, e⟩
  · exact (h0 e).elim
  · refine ⟨m, b, by rw [e]; simp, fun z => h1 ?_⟩
    rw [e, z]
    rfl
theorem bar_none (hL : LineOk c sure line) (B : BarT c rs line fold i t) (hi : i < c.length) (hin : c.getD i "" ∈ sure) (h0 : innerI c.length line t i = []) : BarT c rs line fold (i + 1) t := by
  refine ⟨B.sq, B.pat, B.big, fun a b ha hb h => B.low a b ha hb (by omega), fun b hb => ?_⟩
  by_cases q : b = i
  · subst q
    rw [col_part hi (t := t) fun k _ z => z, h0, (hL.zero b hi).mpr hin]
    simp
  · exact B.eig b (by omega)
theorem inner_len (hL : LineOk c sure line) (hc : CrewOk c) : (innerI c.length line t i).length ≤ 5 := by
  unfold innerI
  have := List.length_filter_le (innP line t i) (List.range c.length)
  rw [List.length_range] at this
  have := hc.five
  omega
theorem colS_other (h : ∀ k, ent t' k i = ent t k i) : colS c.length line t' i = colS c.length line t i := by
  unfold colS
  exact sum_congr fun k _ => by rw [h k]
theorem bar_known (hc : CrewOk c) (hL : LineOk c sure line) (B : BarT c rs line fold i t) (hi : i < c.length) (hin : c.getD i "" ∈ sure) {m : List Nat} {b : Nat} (hm : innerI c.length line t i = m ++ [b]) (hm0 : m ≠ []) (hq : Sq c.length t')
    (he : ∀ x y, ent t' x y = if x = b ∧ y = i then 0 - line.getD b 0 * absS t i m else if y = i ∧ x ∈ m then line.getD x 0 * absI (ent t x i) else ent t x y) : BarT c rs line fold (i + 1) t' := by
  have hml : (m ++ [b]).length ≤ 5 := by rw [← hm]; exact inner_len hL hc
  rw [List.length_append, List.length_cons, List.length_nil] at hml
  have hmem : ∀ x, x ∈ m ++ [b] → x < c.length ∧ line.getD x 0 ≠ 0 ∧ x ≠ i ∧ ent t x i ≠ 0 := fun x hx => mem_inner.mp (by rw [hm]; exact hx)
  have hbm := hmem b (by simp)
  have hmm : ∀ x, x ∈ m → x < c.length ∧ line.getD x 0 ≠ 0 ∧ x ≠ i ∧ ent t x i ≠ 0 := fun x hx => hmem x (List.mem_append_left _ hx)
  have hnd : (m ++ [b]).Nodup := by rw [← hm]; exact inner_nd _ _ _ _
  have hbn : b ∉ m := fun z => (List.nodup_append.mp hnd).2.2 b z b (by simp) rfl
  have hpos : 0 < absS t i m := absS_pos hm0 fun k hk => (hmm k hk).2.2.2
  have hle : absS t i m ≤ m.length * 5 := absS_le fun k hk => B.low k i (hmm k hk).1 hi (Nat.le_refl _)
  have hle2 : absS t i m ≤ 20 := by omega
  have eb : ent t' b i = 0 - line.getD b 0 * absS t i m := by rw [he, if_pos ⟨rfl, rfl⟩]
  have em : ∀ x ∈ m, ent t' x i = line.getD x 0 * absI (ent t x i) := fun x hx => by
    rw [he, if_neg (fun z => hbn (by rw [← z.1]; exact hx)), if_pos ⟨rfl, hx⟩]
  have eo : ∀ x y, y ≠ i → ent t' x y = ent t x y := fun x y h => by
    rw [he, if_neg (fun z => h z.2), if_neg (fun z => h z.1)]
  have en : ∀ x, x ∉ m ++ [b] → ent t' x i = ent t x i := fun x h => by
    rw [he, if_neg (fun z => h (by rw [z.1]; simp)), if_neg (fun z => h (List.mem_append_left _ z.2))]
  have aB : absI (ent t' b i) = absS t i m := by
    rw [absI_nat, eb, Int.zero_sub, Int.natAbs_neg, unit_abs hL.unit hbm.2.1]
    omega
  have aM : ∀ x ∈ m, absI (ent t' x i) = absI (ent t x i) := fun x hx => by
    rw [absI_nat, em x hx, unit_abs hL.unit (hmm x hx).2.1]
    have := absI_nat (ent t x i)
    omega
  have nz : ∀ z : Int, absI z ≠ 0 ↔ z ≠ 0 := fun z => by
    have := absI_nat z
    omega
  have ai : ∀ x, x < c.length → absI (ent t' x i) ≤ 1000 ∧ (ent t' x i ≠ 0 ↔ ent t x i ≠ 0) := fun x hx => by
    by_cases q : x ∈ m ++ [b]
    · rcases List.mem_append.mp q with z | z
      · have h1 := aM x z
        have h2 := B.big x i hx hi
        exact ⟨by omega, fun z => (nz _).mp (by rw [← h1]; exact (nz _).mpr z), fun z => (nz _).mp (by rw [h1]; exact (nz _).mpr z)⟩
      · have e : x = b := by simpa using z
        subst e
        exact ⟨by omega, fun _ => hbm.2.2.2, fun _ => (nz _).mp (by omega)⟩
    · rw [en x q]
      exact ⟨B.big x i hx hi, Iff.rfl⟩
  refine ⟨hq, fun x y hx hy hxy => ?_, fun x y hx hy => ?_, fun x y hx hy h => ?_, fun y hy => ?_⟩
  · by_cases q : y = i
    · subst q
      exact (ai x hx).2.trans (B.pat x y hx hy hxy)
    · rw [eo x y q]; exact B.pat x y hx hy hxy
  · by_cases q : y = i
    · subst q
      exact (ai x hx).1
    · rw [eo x y q]; exact B.big x y hx hy
  · rw [eo x y (by omega)]; exact B.low x y hx hy (by omega)
  · by_cases q : y = i
    · subst q
      rw [col_part hi (t := t) (t' := t') fun k hk z => ?_, hm, (hL.zero y hi).mpr hin, List.map_append, sum_app, Int.zero_mul]
      · have e1 : (m.map fun k => line.getD k 0 * ent t' k y).sum = absS t y m := by
          unfold absS
          refine sum_congr fun k hk => ?_
          show line.getD k 0 * ent t' k y = absI (ent t k y)
          rw [em k hk, ← Int.mul_assoc, unit_sq hL.unit (hmm k hk).2.1, Int.one_mul]
        rw [e1]
        show absS t y m + (line.getD b 0 * ent t' b y + 0) + 0 = fold * 0
        rw [eb, Int.zero_sub, Int.mul_neg, ← Int.mul_assoc, unit_sq hL.unit hbm.2.1]
        omega
      · rw [en k fun hk2 => (hmem k hk2).2.2.2 z]
        exact z
    · rw [colS_other (t := t) fun k => eo k y q]
      exact B.eig y (by omega)
theorem bar_fresh (hc : CrewOk c) (hL : LineOk c sure line) (B : BarT c rs line fold i t) (hi : i < c.length) (hin : c.getD i "" ∉ sure) (hf : -2 ≤ fold ∧ fold ≤ 2) (hq : Sq c.length t')
    (he : ∀ x y, ent t' x y = if x = i ∧ y = i then fold - line.getD i 0 * ((innerI c.length line t i).map fun k => line.getD k 0 * ent t k i).sum else ent t x y) : BarT c rs line fold (i + 1) t' := by
  have hli : line.getD i 0 ≠ 0 := fun z => hin ((hL.zero i hi).mp z)
  have hmm : ∀ x, x ∈ innerI c.length line t i → x < c.length ∧ line.getD x 0 ≠ 0 ∧ x ≠ i ∧ ent t x i ≠ 0 := fun x hx => mem_inner.mp hx
  have hml := inner_len (t := t) (i := i) hL hc
  generalize hI : innerI c.length line t i = I at he hmm hml
  have bnd : ∀ L : List Nat, (∀ x ∈ L, x ∈ I) → ((L.map fun k => line.getD k 0 * ent t k i).sum).natAbs ≤ L.length * 5 := by
    intro L
    induction L with
    | nil => intro _; simp
    | cons k L ih =>
      intro h
      have h1 := ih fun x hx => h x (List.mem_cons_of_mem _ hx)
      have h2 := hmm k (h k List.mem_cons_self)
      have h3 := B.low k i h2.1 hi (Nat.le_refl _)
      have h4 := absI_nat (ent t k i)
      have h5 := unit_abs hL.unit h2.2.1 (ent t k i)
      rw [List.map_cons, List.sum_cons, List.length_cons]
      have := Int.natAbs_add_le (line.getD k 0 * ent t k i) ((L.map fun k => line.getD k 0 * ent t k i).sum)
      omega
  have b1 := bnd I fun _ h => h
  have eo : ∀ x y, ¬ (x = i ∧ y = i) → ent t' x y = ent t x y := fun x y h => by rw [he, if_neg h]
  have ei := he i i
  rw [if_pos ⟨rfl, rfl⟩] at ei
  have ab : absI (ent t' i i) ≤ 1000 := by
    rw [absI_nat, ei]
    have h5 := unit_abs hL.unit hli ((I.map fun k => line.getD k 0 * ent t k i).sum)
    generalize line.getD i 0 * ((I.map fun k => line.getD k 0 * ent t k i).sum) = z at h5
    omega
  refine ⟨hq, fun x y hx hy hxy => ?_, fun x y hx hy => ?_, fun x y hx hy h => ?_, fun y hy => ?_⟩
  · rw [eo x y fun z => hxy (z.1.trans z.2.symm)]; exact B.pat x y hx hy hxy
  · by_cases q : x = i ∧ y = i
    · obtain ⟨rfl, rfl⟩ := q
      exact ab
    · rw [eo x y q]; exact B.big x y hx hy
  · rw [eo x y fun z => by omega]; exact B.low x y hx hy (by omega)
  · by_cases q : y = i
    · subst q
      rw [col_part hi (t := t) (t' := t') fun k hk z => (eo k y fun w => hk w.1).trans z, hI, ei]
      have e1 : (I.map fun k => line.getD k 0 * ent t' k y).sum = (I.map fun k => line.getD k 0 * ent t k y).sum := sum_congr fun k hk => by rw [eo k y fun w => (hmm k hk).2.2.1 w.1]
      rw [e1]
      generalize (I.map fun k => line.getD k 0 * ent t k y).sum = S
      rw [Int.mul_sub, ← Int.mul_assoc, unit_sq hL.unit hli, Int.mul_comm fold]
      omega
    · rw [colS_other (t := t) fun k => eo k y fun z => q z.2]
      exact B.eig y (by omega)
end
end Dl

end
section
set_option Elab.async false
set_option linter.all false
set_option maxRecDepth 100000
set_option maxHeartbeats 4000000
set_option autoImplicit false
/-! Walks over data: strengths that bar, column by column. -/
namespace Dl
open PySem
abbrev barS (l l5 : Addr) (c : List Str) (rs : List (Str × Str)) (hs sure : List Str) (k : List D) (rows : List (Addr × List D)) (line : List Int) (fold : Int) (s9 s10 s11 s12 : Sl) : DE :=
  [.own false l k, .im (crewD c), .im (roadsD rs), .im (crewD hs), .im (crewL sure), .own2 l5 rows, .im (rowL line), .e, .im (.int fold), s9, s10, s11, s12, .e]
abbrev natD (k : Nat) : D := .int (k : Nat)
def d_barI : DTS := (dAsg (dFr (dLc (iRange (dLen (dVar 1))) (gN 11) (dAndT (dTst (dBin oNe (dIxV 6 (dVar 11)) (dC (.int 0)))) (dAndT (dTst (dBinV oNe 11 (dVar 9))) (dTst (dBin oNe (dIx2 5 (dVar 11) (dVar 9)) (dC (.int 0)))))) (dVar 11) [11])) (gN 10))
def d_barA : DTS := (dSeq (dAsg (dC (.int 0)) (gN 12))
  (dSeq (dFor (iSeq (dSl (dVar 10) dNoP (dP (dUn oNeg (dC (.int 1)))))) (gN 11) (dSeq (dAsg (dBin oMul (dIxV 6 (dVar 11)) (dUn oAbs (dIx2 5 (dVar 11) (dVar 9)))) (gSet2 5 (dVar 11) (dVar 9)))
  (dAsg (dBinV oAdd 12 (dUn oAbs (dIx2 5 (dVar 11) (dVar 9)))) (gN 12))))
  (dAsg (dBin oSub (dC (.int 0)) (dBin oMul (dIxV 6 (dIxV 10 (dUn oNeg (dC (.int 1))))) (dVar 12))) (gSet2 5 (dIxV 10 (dUn oNeg (dC (.int 1)))) (dVar 9)))))
def d_barB : DTS := (dSeq (dAsg (dUn oSum (dFr (dLc (iSeq (dVar 10)) (gN 11) dYes (dBin oMul (dIxV 6 (dVar 11)) (dIx2 5 (dVar 11) (dVar 9))) [11]))) (gN 12))
  (dAsg (dBinV oSub 8 (dBin oMul (dIxV 6 (dVar 9)) (dVar 12))) (gSet2 5 (dVar 9) (dVar 9))))
def d_barBody : DTS := (dSeq d_barI
  (dSeq (dIf (dAndT (dTst (dBin oIn (dIxV 1 (dVar 9)) (dVar 4))) (dTst (dBinV oNe 10 (dFr (fLst dNil))))) d_barA dNext)
  (dIf (dTst (dBin oNotIn (dIxV 1 (dVar 9)) (dVar 4))) d_barB dNext)))
theorem cut_last {α : Type} (xs : List α) (x : α) : cutD (xs ++ [x]) none (some (-1)) = xs := by
  unfold cutD
  have e : HT.sIx (xs ++ [x]).length (xs ++ [x]).length (some (-1)) = xs.length := by
    show (if (-1 : Int) < 0 then ((-1 : Int) + ((xs ++ [x]).length : Int)).toNat else min (-1 : Int).toNat (xs ++ [x]).length) = _
    rw [if_pos (by decide), List.length_append, List.length_cons, List.length_nil]
    omega
  rw [HT.sIx_none, e, List.drop_zero, Nat.sub_zero, List.take_left']
  rfl
section
variable {c : List Str} {rs : List (Str × Str)} {hs sure : List Str} {line : List Int} {fold : Int} {i : Nat} {t t' : List (List Int)} {l l5 : Addr} {k : List D} {rows : List (Addr × List D)} {n : DEnds}
theorem line_at (hL : LineOk c sure line) {j : Nat} (hj : j < c.length) : L2.atI (line.map PyData.int) (j : Int) = some (.int (line.getD j 0)) := by
  refine atI_nat ?_
  rw [List.getElem?_map, of_lt (0 : Int) (show j < line.length by rw [hL.len]; exact hj)]
  rfl
theorem cell_at {m : Nat} (hq : Sq m t) {a b : Nat} (ha : a < m) (hb : b < m) : L2.atI ((t.getD a []).map PyData.int) (b : Int) = some (.int (ent t a b)) := by
  refine atI_nat ?_
  have hl : a < t.length := by rw [hq.1]; exact ha
  rw [List.getElem?_map, of_lt (0 : Int) (show b < (t.getD a []).length by rw [hq.2 _ (List.mem_of_getElem? (of_lt [] hl))]; exact hb)]
  rfl
theorem cell_ix {m : Nat} (hq : Sq m t) {a b : Nat} (ha : a < m) (hb : b < m) : L2.ixN ((t.getD a []).map PyData.int).length (b : Int) = some b := by
  refine ixN_nat ?_
  have hl : a < t.length := by rw [hq.1]; exact ha
  rw [List.length_map, hq.2 _ (List.mem_of_getElem? (of_lt [] hl))]
  exact hb
theorem bz_abs {b m : Nat} {z : Int} (h : absI z ≤ (m : Int)) (hm : m < 2 ^ b) : Bz b z := by
  have := absI_nat z
  exact bz_small (n := m) b (by omega) hm
theorem bz_absI {b m : Nat} {z : Int} (h : absI z ≤ (m : Int)) (hm : m < 2 ^ b) : Bz b (absI z) := by
  have := absI_nat z
  exact bz_small (n := m) b (by omega) hm
theorem bz_unit (hL : LineOk c sure line) (j : Nat) : Bz 1 (line.getD j 0) := by
  rcases hL.unit j with e | e | e <;> rw [e] <;> decide
theorem walk_barI (hL : LineOk c sure line) (hR : RowsR rows t) (hq : Sq c.length t) (hc : CrewOk c) (hi : i < c.length) (s10 s11 s12 : Sl)
    (hn : n.nx (barS l l5 c rs hs sure k rows line fold (.im (natD i)) (.im (.list ((innerI c.length line t i).map natD))) .e s12)) : d_barI n (barS l l5 c rs hs sure k rows line fold (.im (natD i)) s10 s11 s12) := by
  have hcl : (c.map PyData.str).length = c.length := List.length_map _
  have h5 := hc.five
  unfold d_barI
  refine lc_filt natD (List.range c.length) (innP line t i) (barS l l5 c rs hs sure k rows line fold (.im (natD i)) s10 s11 s12) (fun P h => ⟨_, rfl, by rw [hcl]; omega, by rw [hcl]; omega, by rw [hcl]; exact h⟩) (by rw [List.length_range]; exact small_le (by omega)) (fun j hj R N hR1 hN1 => ?_) ⟨trivial, hn⟩
  have hj : j < c.length := List.mem_range.mp hj
  unfold innP at hR1 hN1
  obtain ⟨a, ha⟩ := hR.get (show j < t.length by rw [hq.1]; exact hj)
  have ha' := atI_nat ha
  refine ⟨.int (line.getD j 0), line_at hL hj, _, rfl, _, rfl, ?_⟩
  by_cases q1 : line.getD j 0 = 0
  · refine iff0 (by rw [decide_eq_true q1]; rfl) ?_
    refine iff0 rfl ⟨rfl, hN1 ?_⟩
    rw [decide_eq_false (fun z => z q1)]
    rfl
  · refine ift (by rw [decide_eq_false q1]; rfl) ?_
    rw [decide_eq_true (show line.getD j 0 ≠ 0 from q1)] at hR1 hN1
    refine ⟨_, rfl, ?_⟩
    by_cases q2 : j = i
    · refine iff0 (by rw [decide_eq_true (by rw [q2])]; rfl) ?_
      refine iff0 rfl ⟨rfl, hN1 ?_⟩
      rw [decide_eq_false (fun z => z q2)]
      rfl
    · refine ift (by rw [decide_eq_false (by omega)]; rfl) ?_
      rw [decide_eq_true (show j ≠ i from q2)] at hR1 hN1
      refine ⟨_, rfl, l5, rows, _, rfl, ha', _, rfl, rows, _, _, rfl, ha', rfl, cell_at hq hj hi, _, rfl, _, rfl, ?_⟩
      by_cases q3 : ent t j i = 0
      · refine iff0 (by rw [decide_eq_true q3]; rfl) ⟨rfl, hN1 ?_⟩
        rw [decide_eq_false (fun z => z q3)]
        rfl
      · refine ift (by rw [decide_eq_false q3]; rfl) ⟨_, rfl, rfl, hR1 ?_⟩
        rw [decide_eq_true (show ent t j i ≠ 0 from q3)]
        rfl
theorem walk_barA (hc : CrewOk c) (hL : LineOk c sure line) (hR : RowsR rows t) (B : BarT c rs line fold i t) (hi : i < c.length) (hin : c.getD i "" ∈ sure) {m : List Nat} {b : Nat} (hm : innerI c.length line t i = m ++ [b]) (hm0 : m ≠ []) (s11 s12 : Sl)
    (hn : ∀ rows2 t2 s11 s12, RowsR rows2 t2 → BarT c rs line fold (i + 1) t2 → n.nx (barS l l5 c rs hs sure k rows2 line fold (.im (natD i)) (.im (.list ((innerI c.length line t i).map natD))) s11 s12)) :
    d_barA n (barS l l5 c rs hs sure k rows line fold (.im (natD i)) (.im (.list ((innerI c.length line t i).map natD))) s11 s12) := by
  have hnd : (m ++ [b]).Nodup := by rw [← hm]; exact inner_nd _ _ _ _
  have hmem : ∀ x, x ∈ m ++ [b] → x < c.length ∧ line.getD x 0 ≠ 0 ∧ x ≠ i ∧ ent t x i ≠ 0 := fun x hx => mem_inner.mp (by rw [hm]; exact hx)
  have hb := hmem b (by simp)
  have hml : (m ++ [b]).length ≤ 5 := by rw [← hm]; exact inner_len hL hc
  rw [List.length_append, List.length_cons, List.length_nil] at hml
  have small : ∀ L : List Nat, (∀ x ∈ L, x ∈ m) → L.length ≤ 5 → absI (absS t i L) ≤ ((25 : Nat) : Int) := fun L h h5 => by
    have h1 := absS_le (t := t) (i := i) (b := 5) (L := L) fun x hx => B.low x i (hmem x (List.mem_append_left _ (h x hx))).1 hi (Nat.le_refl _)
    have h2 := absS_nonneg t i L
    have h3 := absI_nat (absS t i L)
    omega
  rw [hm] at hn ⊢
  have ecut : cutD ((m ++ [b]).map natD) none (some (-1)) = m.map natD := by
    rw [List.map_append]
    exact cut_last _ _
  unfold d_barA
  refine ⟨trivial, ?_⟩
  simp only [dSeq]
  refine for_of (m.map natD) (barS l l5 c rs hs sure k rows line fold (.im (natD i)) (.im (.list ((m ++ [b]).map natD))) s11 (.im (.int 0))) (fun P h => ⟨_, rfl, _, rfl, ?_⟩) (fun j δ' => ∃ rows2 t2 s11, δ' = barS l l5 c rs hs sure k rows2 line fold (.im (natD i)) (.im (.list ((m ++ [b]).map natD))) s11 (.im (.int (absS t i (m.take j)))) ∧ RowsR rows2 t2 ∧ Sq c.length t2 ∧ ∀ x y, ent t2 x y = if y = i ∧ x ∈ m.take j then line.getD x 0 * absI (ent t x i) else ent t x y) ⟨rows, t, _, rfl, hR, B.sq, fun x y => ?_⟩ ?_ ?_
  · show P (cutD ((m ++ [b]).map natD) none (some (-1))) _
    rw [ecut]
    exact h
  · rw [if_neg (fun z => by simp at z)]
  · rintro j x δ' hx ⟨rows2, t2, s11, rfl, hR2, hq2, he2⟩
    obtain ⟨a, ha, rfl⟩ := map_out hx
    have ham := List.mem_of_getElem? ha
    have haa := hmem a (List.mem_append_left _ ham)
    have hat : a ∉ m.take j := not_in_take (List.nodup_append.mp hnd).1 ha
    have ea : ent t2 a i = ent t a i := by rw [he2, if_neg (fun z => hat z.2)]
    obtain ⟨ad, had⟩ := hR2.get (show a < t2.length by rw [hq2.1]; exact haa.1)
    have had' := atI_nat had
    have hlow := B.low a i haa.1 hi (Nat.le_refl _)
    have hbm : L2.CMulX (line.getD a 0) (absI (ent t2 a i)) := mulB (bz_unit hL a) (bz_absI (b := 10) (m := 5) (by rw [ea]; exact hlow) (by decide))
    refine ⟨.int (line.getD a 0), line_at hL haa.1, _, rfl, _, rfl, l5, rows2, _, rfl, had', _, rfl, rows2, _, _, rfl, had', rfl, cell_at hq2 haa.1 hi, hbm, trivial, ?_⟩
    refine ⟨_, rfl, l5, rows2, _, rfl, had', _, rfl, rows2, a, _, i, _, rfl, rfl, ixN_nat (by rw [hR2.len, hq2.1]; exact haa.1), had, rfl, cell_ix hq2 haa.1 hi, ?_⟩
    have hR3 : RowsR (rows2.set a (ad, ((t2.getD a []).map PyData.int).set i (.int (line.getD a 0 * absI (ent t2 a i))))) (putI t2 a i (line.getD a 0 * absI (ent t2 a i))) := hR2.put
    have hq3 : Sq c.length (putI t2 a i (line.getD a 0 * absI (ent t2 a i))) := put_sq hq2
    have he3 := put_ent (z := line.getD a 0 * absI (ent t2 a i)) hq2 haa.1 hi
    have ez : line.getD a 0 * absI (ent t2 a i) = line.getD a 0 * absI (ent t a i) := by rw [ea]
    simp only []
    show dAsg _ _ _ (barS l l5 c rs hs sure k (rows2.set a (ad, ((t2.getD a []).map PyData.int).set i (.int (line.getD a 0 * absI (ent t2 a i))))) line fold (.im (natD i)) (.im (.list ((m ++ [b]).map natD))) (.im (natD a)) (.im (.int (absS t i (m.take j)))))
    generalize hz : line.getD a 0 * absI (ent t2 a i) = z at hR3 hq3 he3 ez ⊢
    generalize hr3 : rows2.set a (ad, ((t2.getD a []).map PyData.int).set i (.int z)) = rows3 at hR3 ⊢
    generalize ht3 : putI t2 a i z = t3 at hR3 hq3 he3
    obtain ⟨ad3, had3⟩ := hR3.get (show a < t3.length by rw [hq3.1]; exact haa.1)
    have had3' := atI_nat had3
    have ea3 : absI (ent t3 a i) = absI (ent t a i) := by
      rw [he3, if_pos ⟨rfl, rfl⟩, ez, absI_nat, unit_abs hL.unit haa.2.1]
      have := absI_nat (ent t a i)
      omega
    refine ⟨_, rfl, l5, rows3, _, rfl, had3', _, rfl, rows3, _, _, rfl, had3', rfl, cell_at hq3 haa.1 hi, trivial, rows3, t3, .im (natD a), ?_, hR3, hq3, fun x y => ?_⟩
    · have e1 : absS t i (m.take (j + 1)) = absS t i (m.take j) + absI (ent t3 a i) := by
        rw [take_succ_get ha, absS_snoc, ea3]
      rw [e1]
      rfl
    · rw [he3, take_succ_get ha]
      by_cases qy : y = i
      · subst qy
        by_cases qx : x = a
        · subst qx
          rw [if_pos ⟨rfl, rfl⟩, if_pos ⟨rfl, by simp⟩, ez]
        · rw [if_neg (fun z => qx z.1), he2]
          by_cases qm : x ∈ m.take j
          · rw [if_pos ⟨rfl, qm⟩, if_pos ⟨rfl, List.mem_append_left _ qm⟩]
          · rw [if_neg (fun z => qm z.2), if_neg (fun z => (List.mem_append.mp z.2).elim qm fun w => qx (by simpa using w))]
      · rw [if_neg (fun z => qy z.2), he2, if_neg (fun z => qy z.1), if_neg (fun z => qy z.1)]
  · rintro δ' ⟨rows2, t2, s11, rfl, hR2, hq2, he2⟩
    have hm5 : (m.map natD).length = m.length := List.length_map _
    rw [hm5, List.take_of_length_le (Nat.le_refl _)] at he2 ⊢
    obtain ⟨ad, had⟩ := hR2.get (show b < t2.length by rw [hq2.1]; exact hb.1)
    have had' := atI_nat had
    have elast : L2.atI ((m ++ [b]).map natD) (-1) = some (natD b) := by
      rw [List.map_append]
      exact L2.atI_last _ _
    have hbm : L2.CMulX (line.getD b 0) (absS t i m) := mulB (bz_unit hL b) (bz_abs (b := 10) (m := 25) (small m (fun _ h => h) (by omega)) (by decide))
    refine ⟨_, rfl, natD b, elast, .int (line.getD b 0), line_at hL hb.1, _, rfl, hbm, trivial, ?_⟩
    refine ⟨natD b, elast, _, rfl, l5, rows2, _, rfl, had', _, rfl, rows2, b, _, i, _, rfl, rfl, ixN_nat (by rw [hR2.len, hq2.1]; exact hb.1), had, rfl, cell_ix hq2 hb.1 hi, ?_⟩
    refine hn _ (putI t2 b i (0 - line.getD b 0 * absS t i m)) _ _ hR2.put (bar_known hc hL B hi hin hm hm0 (put_sq hq2) fun x y => ?_)
    rw [put_ent hq2 hb.1 hi, he2]
theorem tot_le (hc : CrewOk c) (hL : LineOk c sure line) (B : BarT c rs line fold i t) (hi : i < c.length) : (((innerI c.length line t i).map fun k => line.getD k 0 * ent t k i).sum).natAbs ≤ 25 := by
  have hml := inner_len (t := t) (i := i) hL hc
  have bnd : ∀ L : List Nat, (∀ x ∈ L, x ∈ innerI c.length line t i) → ((L.map fun k => line.getD k 0 * ent t k i).sum).natAbs ≤ L.length * 5 := by
    intro L
    induction L with
    | nil => intro _; simp
    | cons k L ih =>
      intro h
      have h1 := ih fun x hx => h x (List.mem_cons_of_mem _ hx)
      have h2 := mem_inner.mp (h k List.mem_cons_self)
      have h3 := B.low k i h2.1 hi (Nat.le_refl _)
      have h4 := absI_nat (ent t k i)
      have h5 := unit_abs hL.unit h2.2.1 (ent t k i)
      rw [List.map_cons, List.sum_cons, List.length_cons]
      have := Int.natAbs_add_le (line.getD k 0 * ent t k i) ((L.map fun k => line.getD k 0 * ent t k i).sum)
      omega
  have := bnd _ fun _ h => h
  omega
theorem walk_barB (hc : CrewOk c) (hL : LineOk c sure line) (hR : RowsR rows t) (B : BarT c rs line fold i t) (hi : i < c.length) (hin : c.getD i "" ∉ sure) (hf : -2 ≤ fold ∧ fold ≤ 2) (s11 s12 : Sl)
    (hn : ∀ rows2 t2 s11 s12, RowsR rows2 t2 → BarT c rs line fold (i + 1) t2 → n.nx (barS l l5 c rs hs sure k rows2 line fold (.im (natD i)) (.im (.list ((innerI c.length line t i).map natD))) s11 s12)) :
    d_barB n (barS l l5 c rs hs sure k rows line fold (.im (natD i)) (.im (.list ((innerI c.length line t i).map natD))) s11 s12) := by
  have hml := inner_len (t := t) (i := i) hL hc
  have htot := tot_le hc hL B hi
  have hfin := fun t' hq he => bar_fresh (t' := t') hc hL B hi hin hf hq he
  have hmm : ∀ x, x ∈ innerI c.length line t i → x < c.length ∧ line.getD x 0 ≠ 0 ∧ x ≠ i ∧ ent t x i ≠ 0 := fun x hx => mem_inner.mp hx
  generalize innerI c.length line t i = I at hn hmm hml htot hfin ⊢
  unfold d_barB
  simp only [dSeq]
  refine lc_map (I.map natD) (barS l l5 c rs hs sure k rows line fold (.im (natD i)) (.im (.list (I.map natD))) s11 s12) (fun d => match d with | .int z => .int (line.getD z.toNat 0 * ent t z.toNat i) | _ => .none) (fun P h => h) (by rw [List.length_map]; exact small_le (by omega)) (fun d hd R hR1 => ?_) ?_
  · obtain ⟨a, ha, rfl⟩ := List.mem_map.mp hd
    have haa := hmm a ha
    obtain ⟨ad, had⟩ := hR.get (show a < t.length by rw [B.sq.1]; exact haa.1)
    have had' := atI_nat had
    have hbm : L2.CMulX (line.getD a 0) (ent t a i) := mulB (bz_unit hL a) (bz_abs (b := 10) (m := 5) (B.low a i haa.1 hi (Nat.le_refl _)) (by decide))
    refine ⟨.int (line.getD a 0), line_at hL haa.1, _, rfl, _, rfl, l5, rows, _, rfl, had', _, rfl, rows, _, _, rfl, had', rfl, cell_at B.sq haa.1 hi, hbm, _, rfl, rfl, hR1⟩
  · refine ⟨I.map fun a => line.getD a 0 * ent t a i, by rw [List.map_map, List.map_map]; rfl, trivial, ?_⟩
    generalize (I.map fun a => line.getD a 0 * ent t a i).sum = S at htot hfin ⊢
    have hbm : L2.CMulX (line.getD i 0) S := mulB (bz_unit hL i) (bz_small (n := 25) 10 htot (by decide))
    obtain ⟨ad, had⟩ := hR.get (show i < t.length by rw [B.sq.1]; exact hi)
    have had' := atI_nat had
    refine ⟨.int (line.getD i 0), line_at hL hi, _, rfl, hbm, trivial, ?_⟩
    refine ⟨_, rfl, l5, rows, _, rfl, had', _, rfl, rows, i, _, i, _, rfl, rfl, ixN_nat (by rw [hR.len, B.sq.1]; exact hi), had, rfl, cell_ix B.sq hi hi, ?_⟩
    exact hn _ (putI t i i (fold - line.getD i 0 * S)) _ _ hR.put (hfin _ (put_sq B.sq) fun x y => put_ent B.sq hi hi x y)
theorem walk_barBody (hc : CrewOk c) (hr : RoadsOk c rs) (hS : SureOk c rs hs sure) (hL : LineOk c sure line) (hR : RowsR rows t) (B : BarT c rs line fold i t) (hi : i < c.length) (hf : -2 ≤ fold ∧ fold ≤ 2) (s10 s11 s12 : Sl)
    (hn : ∀ rows2 t2 s10 s11 s12, RowsR rows2 t2 → BarT c rs line fold (i + 1) t2 → n.nx (barS l l5 c rs hs sure k rows2 line fold (.im (natD i)) s10 s11 s12)) :
    d_barBody n (barS l l5 c rs hs sure k rows line fold (.im (natD i)) s10 s11 s12) := by
  unfold d_barBody
  simp only [dSeq]
  have hx : c[i]? = some (c.getD i "") := of_lt _ hi
  have hxc := hc.sub _ (List.mem_of_getElem? hx)
  have hat : L2.atI (c.map PyData.str) (i : Int) = some (.str (c.getD i "")) := by
    refine atI_nat ?_
    rw [List.getElem?_map, hx]
    rfl
  have hsh := (sh_crewL fun w hw => hc.sub w (hS.sub w hw)).shaped
  refine walk_barI hL hR B.sq hc hi s10 s11 s12 ?_
  refine ⟨_, hat, _, rfl, (sh_name hxc).shaped, hsh, _, rfl, ?_⟩
  rw [in_strs]
  by_cases q : c.getD i "" ∈ sure
  · refine ift (decide_eq_true q) ?_
    refine ⟨[], rfl, Nat.zero_le _, (sh_ints _).shaped, sh_nilL.shaped, _, rfl, ?_⟩
    rw [eqv_nil]
    have second : ∀ rows2 t2 s11 s12, RowsR rows2 t2 → BarT c rs line fold (i + 1) t2 → (dIf (dTst (dBin oNotIn (dIxV 1 (dVar 9)) (dVar 4))) d_barB dNext) n (barS l l5 c rs hs sure k rows2 line fold (.im (natD i)) (.im (.list ((innerI c.length line t i).map natD))) s11 s12) := fun rows2 t2 s11 s12 hR2 B2 => by
      refine ⟨_, hat, _, rfl, (sh_name hxc).shaped, hsh, _, rfl, ?_⟩
      rw [in_strs]
      refine iff0 (by rw [decide_eq_true q]; rfl) ?_
      exact hn rows2 t2 _ s11 s12 hR2 B2
    by_cases q2 : innerI c.length line t i = []
    · refine iff0 (by rw [q2]; rfl) ?_
      exact second rows t _ _ hR (bar_none hL B hi q q2)
    · refine ift (by rw [decide_eq_false (fun z => q2 (map_nil.mp z))]; rfl) ?_
      obtain ⟨m, b, hm, hm0⟩ := snoc_of q2 (inner_two hr hS hL B hi q)
      exact walk_barA hc hL hR B hi q hm hm0 _ _ second
  · refine iff0 (decide_eq_false q) ?_
    refine iff0 rfl ?_
    refine ⟨_, hat, _, rfl, (sh_name hxc).shaped, hsh, _, rfl, ?_⟩
    rw [in_strs]
    refine ift (by rw [decide_eq_false q]; rfl) ?_
    exact walk_barB hc hL hR B hi q hf _ _ fun rows2 t2 s11 s12 h1 h2 => hn rows2 t2 _ s11 s12 h1 h2
end
end Dl

end
section
set_option Elab.async false
set_option linter.all false
set_option maxRecDepth 100000
set_option maxHeartbeats 4000000
set_option autoImplicit false
/-! Walks over data: strengths and a bar of them. -/
namespace Dl
open PySem
def lineP (c sure : List Str) (k : Nat) (x : Int) : Prop := (x = 0 ↔ c.getD k "" ∈ sure) ∧ (x = 0 ∨ x = 1 ∨ x = -1)
theorem lineOk_of {c sure : List Str} {line : List Int} (h : CellsR c.length (lineP c sure) line) : LineOk c sure line := by
  refine ⟨h.1, fun k hk => (h.2 k hk).1, fun k => ?_⟩
  by_cases q : k < c.length
  · exact (h.2 k q).2
  · left
    rw [List.getD_eq_getElem?_getD, List.getElem?_eq_none (by rw [h.1]; omega)]
    rfl
theorem bar_out {c : List Str} {rs : List (Str × Str)} {hs : List Str} {line : List Int} {fold : Int} {t : List (List Int)} (hL : LineOk c (gameS c rs hs) line) (B : BarT c rs line fold c.length t) (hf : -2 ≤ fold ∧ fold ≤ 2) : BarOut c rs hs t line fold := by
  refine ⟨B.sq, fun a ha => ⟨fun x hx => ?_, fun b hb => ?_⟩, hL.len, hL.zero, fun x hx => ?_, hf, fun j hj => ?_⟩
  · rw [B.sq.1] at ha
    obtain ⟨b, hb⟩ := List.mem_iff_getElem?.mp hx
    have hr : (t.getD a []).length = c.length := B.sq.2 _ (List.mem_of_getElem? (of_lt [] (by rw [B.sq.1]; exact ha)))
    have hbl : b < c.length := by rw [← hr]; exact (List.getElem?_eq_some_iff.mp hb).1
    have h1 := B.big a b ha hbl
    have h2 := absI_nat (ent t a b)
    have e : ent t a b = x := getD_of hb
    rw [e] at h1 h2
    omega
  · rw [B.sq.1] at ha
    by_cases q : b = a
    · exact .inl q
    · exact .inr (B.pat a b ha hb fun e => q e.symm)
  · obtain ⟨b, hb⟩ := List.mem_iff_getElem?.mp hx
    have e : line.getD b 0 = x := getD_of hb
    have := hL.unit b
    rw [e] at this
    omega
  · rw [dot_col (by rw [hL.len, B.sq.1]), hL.len]
    exact B.eig j hj
theorem frz_own2 {i : Nat} {t : DTS} {n : DEnds} {δ : DE} {l : Addr} {rows : List (Addr × List D)} (h : δ[i]? = some (.own2 l rows)) (k : t n (δ.set i (.im (.list (rows.map fun r => .list r.2))))) : dFrz i t n δ := by
  unfold dFrz look
  rw [h]
  exact k
theorem wp_l_barring : WpK 14 4 d_l_barring pre_l_barring post_l_barring := by
  rintro k as ⟨hk, c, rs, hs, hc, hr, hh, rfl⟩
  refine ⟨⟨rfl, by decide, by simp [Sl.pure]⟩, fun l => ?_⟩
  have out : ∀ (t : List (List Int)) (line : List Int) (fold : Int) (k' : List D), Used 1000 k k' → BarOut c rs hs t line fold → post_l_barring k [.im (crewD c), .im (roadsD rs), .im (crewD hs)] (.tuple [tabD t, .tuple [rowD line, .int fold]]) k' := fun t line fold k' hU ht => ⟨hU, fun c' rs' hs' _ _ _ e => by
    obtain ⟨e1, e2⟩ := cons_inj e
    obtain ⟨e3, e4⟩ := cons_inj e2
    obtain ⟨e5, _⟩ := cons_inj e4
    rw [← crewD_inj (im_inj e1), ← roadsD_inj (im_inj e3), ← crewD_inj (im_inj e5)]
    exact ⟨t, line, fold, rfl, ht⟩⟩
  generalize post_l_barring k [.im (crewD c), .im (roadsD rs), .im (crewD hs)] = post at out ⊢
  show d_l_barring _ [.own false l k, .im (crewD c), .im (roadsD rs), .im (crewD hs), .e, .e, .e, .e, .e, .e, .e, .e, .e, .e]
  have hcl : (c.map PyData.str).length = c.length := List.length_map _
  have h5 := hc.five
  have hS := game_ok hc hr hh
  refine ⟨trivial, trivial, trivial, ⟨c, rs, hs, hc, hr, hh, rfl⟩, fun r hq => ?_⟩
  have hq := hq c rs hs rfl
  subst hq
  refine ⟨trivial, trivial, trivial, trivial, ⟨hk.mono (by decide), c, rs, 5, hc, hr, by decide, by decide, rfl⟩, fun r k1 hp => ?_⟩
  obtain ⟨hU, hp⟩ := hp
  obtain ⟨t, rfl, hsq, hfar, htie⟩ := hp c rs 5 hc hr rfl
  refine ⟨by rw [List.length_map, hsq.1]; exact small_le (by omega), by show 6 < 14; decide, t.map fun r => r.map PyData.int, by rw [List.map_map]; rfl, fun l5 rows hrows => ⟨_, _, rfl, ?_⟩⟩
  have hR : RowsR rows t := RowsR.of (hrows.trans (by rw [List.map_map]; rfl))
  generalize hsure : gameS c rs hs = sure at hS
  simp only [dNext, dSeq]
  show dAsg _ _ _ [.own false l k1, .im (crewD c), .im (roadsD rs), .im (crewD hs), .im (crewL sure), .own2 l5 rows, .e, .e, .e, .e, .e, .e, .e, .e]
  have hsh := (sh_crewL fun w hw => hc.sub w (hS.sub w hw)).shaped
  refine ⟨by rw [hcl]; exact small_le (by omega), fun i acc δ' => ∃ k' line, δ' = [.own false l k', .im (crewD c), .im (roadsD rs), .im (crewD hs), .im (crewL sure), .own2 l5 rows, .e, .e, .e, .e, .e, .e, .e, .e] ∧ Used (100 + i) k k' ∧ acc = line.map PyData.int ∧ CellsR i (lineP c sure) line, ⟨k1, [], rfl, hU, rfl, rfl, fun j h => absurd h (Nat.not_lt_zero j)⟩, ?_, ?_⟩
  · rintro i x acc δ' hx ⟨k', line, rfl, hU2, rfl, hL⟩
    obtain ⟨y, hy, rfl⟩ := map_out hx
    have hi : i < c.length := (List.getElem?_eq_some_iff.mp hy).1
    have ey : c.getD i "" = y := getD_of hy
    have hyc := hc.sub y (List.mem_of_getElem? hy)
    refine ⟨(sh_name hyc).shaped, hsh, _, rfl, ?_⟩
    rw [in_strs]
    by_cases q : y ∈ sure
    · refine ift (decide_eq_true q) ?_
      refine ⟨_, rfl, k', line ++ [0], rfl, hU2.mono (by omega), by rw [List.map_append]; rfl, hL.snoc ⟨⟨fun _ => by rw [ey]; exact q, fun _ => rfl⟩, .inl rfl⟩⟩
    · refine iff0 (decide_eq_false q) ?_
      refine ⟨_, rfl, _, rfl, trivial, ⟨hU2.ok hk (by show 700000 + (100 + i) ≤ 1000000; omega), 2, by decide, by decide, rfl⟩, fun v k3 hp3 => ?_⟩
      obtain ⟨hU3, v, rfl, h0, hv⟩ := hp3
      have hv := hv _ rfl
      have bv : Bz 2 v := by unfold Bz; omega
      refine ⟨mulB (show Bz 3 2 by decide) bv, _, rfl, k3, line ++ [1 - 2 * v], rfl, (hU2.trans hU3).mono (by omega), by rw [List.map_append]; rfl, hL.snoc ⟨⟨fun z => by omega, fun z => (q (by rw [← ey]; exact z)).elim⟩, by omega⟩⟩
  · rintro acc δ' ⟨k2, line, rfl, hU2, rfl, hL⟩
    rw [hcl] at hU2 hL
    have hL := lineOk_of hL
    refine ⟨trivial, ?_⟩
    refine ⟨trivial, ⟨hU2.ok hk (by show 700000 + (100 + c.length) ≤ 1000000; omega), 5, by decide, by decide, rfl⟩, fun v k3 hp3 => ?_⟩
    obtain ⟨hU3, v, rfl, h0, hv⟩ := hp3
    have hv := hv _ rfl
    refine ⟨_, rfl, trivial, ?_⟩
    have hf : -2 ≤ v - 2 ∧ v - 2 ≤ 2 := by omega
    generalize v - 2 = fold at hf
    have hU4 : Used 1000 k k3 := (hU2.trans hU3).mono (by omega)
    simp only [gN]
    unfold dSeq
    show dFor _ _ d_barBody _ (barS l l5 c rs hs sure k3 rows line fold .e .e .e .e)
    refine for_of (intsD c.length) (barS l l5 c rs hs sure k3 rows line fold .e .e .e .e) (fun P h => ⟨_, rfl, by rw [hcl]; omega, by rw [hcl]; omega, by rw [hcl]; exact h⟩) (fun i δ' => ∃ rows2 t2 s9 s10 s11 s12, δ' = barS l l5 c rs hs sure k3 rows2 line fold s9 s10 s11 s12 ∧ RowsR rows2 t2 ∧ BarT c rs line fold i t2) ⟨rows, t, _, _, _, _, rfl, hR, hsq, fun a b ha hb hab => htie a b ha hb hab, fun a b ha hb => ?_, fun a b ha hb _ => ?_, fun b hb => absurd hb (Nat.not_lt_zero b)⟩ ?_ ?_
    · have hm : t.getD a [] ∈ t := List.mem_of_getElem? (of_lt [] (by rw [hsq.1]; exact ha))
      have h1 := hfar _ hm (ent t a b) (mem_getD (by rw [hsq.2 _ hm]; exact hb))
      have := absI_nat (ent t a b)
      omega
    · have hm : t.getD a [] ∈ t := List.mem_of_getElem? (of_lt [] (by rw [hsq.1]; exact ha))
      have h1 := hfar _ hm (ent t a b) (mem_getD (by rw [hsq.2 _ hm]; exact hb))
      have := absI_nat (ent t a b)
      omega
    · rintro i x δ' hx ⟨rows2, t2, s9, s10, s11, s12, rfl, hR2, B2⟩
      have hi : i < c.length := by
        have := (List.getElem?_eq_some_iff.mp hx).1
        rw [intsD_len] at this
        exact this
      rw [intsD_get hi] at hx
      cases hx
      exact walk_barBody hc hr hS hL hR2 B2 hi hf _ _ _ fun rows3 t3 s10 s11 s12 hR3 B3 => ⟨rows3, t3, _, s10, s11, s12, rfl, hR3, B3⟩
    · rintro δ' ⟨rows2, t2, s9, s10, s11, s12, rfl, hR2, B2⟩
      rw [intsD_len] at B2
      simp only []
      refine frz_own2 (l := l5) (rows := rows2) rfl ?_
      show dRet _ _ [.own false l k3, .im (crewD c), .im (roadsD rs), .im (crewD hs), .im (crewL sure), .im (.list (rows2.map fun r => .list r.2)), .im (rowL line), .e, .im (.int fold), s9, s10, s11, s12, .e]
      rw [hR2.lists]
      have e2 : (t2.map rowL).map (fun d => PyData.tuple (seqOf d)) = t2.map rowD := by
        rw [List.map_map]
        rfl
      refine lc_map (t2.map rowL) [.own false l k3, .im (crewD c), .im (roadsD rs), .im (crewD hs), .im (crewL sure), .im (.list (t2.map rowL)), .im (rowL line), .e, .im (.int fold), s9, s10, s11, s12, .e] (fun d => .tuple (seqOf d)) (fun P h => h) (by rw [List.length_map, B2.sq.1]; exact small_le (by omega)) (fun d hd R hR1 => ?_) ?_
      · obtain ⟨r, hr, rfl⟩ := List.mem_map.mp hd
        exact ⟨_, rfl, rfl, hR1⟩
      · rw [e2]
        refine ⟨trivial, trivial, trivial, _, rfl, by show 2 ≤ sizeLine; decide, trivial, _, rfl, by show 2 ≤ sizeLine; decide, trivial, _, k3, rfl, rfl, ?_⟩
        exact out t2 line fold k3 hU4 (bar_out (by rw [hsure]; exact hL) B2 hf)
end Dl

end
section
set_option Elab.async false
set_option linter.all false
set_option maxRecDepth 100000
set_option maxHeartbeats 4000000
set_option autoImplicit false
/-! Walks over data: strengths at the bounds. -/
namespace Dl
open PySem
theorem frM_zero (M b : Nat) : FrM M b 0 := FrM.zero M b
theorem edge_facts {c : List Str} {rs : List (Str × Str)} {m : Int} {t : List (List Int)} (hc : CrewOk c) (h1 : 1000000 ≤ m) (h2 : m ≤ 1000001) (hsq : Sq c.length t)
    (hcell : ∀ i j, i < c.length → j < c.length → (if i = j ∨ (c.getD j "", c.getD i "") ∈ rs then ent t i j = m ∨ ent t i j = -m else ent t i j = 0)) : (Strong c rs t ↔ m = 1000000) ∧ TabB 21 t := by
  have any : ∀ i j, i < c.length → j < c.length → ent t i j = m ∨ ent t i j = -m ∨ ent t i j = 0 := fun i j hi hj => by
    have h := hcell i j hi hj
    split at h
    · exact h.elim .inl fun z => .inr (.inl z)
    · exact .inr (.inr h)
  have mem : ∀ i, i < c.length → ∀ x ∈ t.getD i [], ∃ j, j < c.length ∧ ent t i j = x := fun i hi x hx => by
    obtain ⟨j, hj⟩ := List.mem_iff_getElem?.mp hx
    have hr : (t.getD i []).length = c.length := hsq.2 _ (List.mem_of_getElem? (of_lt [] (by rw [hsq.1]; exact hi)))
    exact ⟨j, by rw [← hr]; exact (List.getElem?_eq_some_iff.mp hj).1, getD_of hj⟩
  refine ⟨⟨fun hS => ?_, fun e i hi => ?_⟩, fun r hr x hx => ?_⟩
  · have h0 : 0 < c.length := by have := hc.two; omega
    have hr : (t.getD 0 []).length = c.length := hsq.2 _ (List.mem_of_getElem? (of_lt [] (by rw [hsq.1]; exact h0)))
    have h := hcell 0 0 h0 h0
    rw [if_pos (.inl rfl)] at h
    have hw := (hS 0 (by rw [hsq.1]; exact h0)).within (ent t 0 0) (mem_getD (by rw [hr]; exact h0))
    omega
  · rw [hsq.1] at hi
    refine ⟨fun x hx => ?_, fun j hj => ?_⟩
    · obtain ⟨j, hj, e2⟩ := mem i hi x hx
      have := any i j hi hj
      omega
    · by_cases q : j = i
      · exact .inl q
      · right
        have h := hcell i j hi hj
        have e3 : (t.getD i []).getD j 0 = ent t i j := rfl
        rw [e3]
        by_cases q2 : (c.getD j "", c.getD i "") ∈ rs
        · rw [if_pos (.inr q2)] at h
          exact ⟨fun _ => q2, fun _ => by omega⟩
        · rw [if_neg (fun z => z.elim (fun e => q e.symm) q2)] at h
          exact ⟨fun z => (z h).elim, fun z => (q2 z).elim⟩
  · obtain ⟨i, hi⟩ := List.mem_iff_getElem?.mp hr
    have hil : i < c.length := by rw [← hsq.1]; exact (List.getElem?_eq_some_iff.mp hi).1
    have er : t.getD i [] = r := getD_of hi
    obtain ⟨j, hj, e2⟩ := mem i hil x (by rw [er]; exact hx)
    have := any i j hil hj
    exact bz_small (n := 1000001) 21 (by omega) (by decide)
theorem tabB_mono {a b : Nat} {t : List (List Int)} (h : TabB a t) (hab : a ≤ b) : TabB b t := fun r hr x hx => (h r hr x hx).mono hab
theorem still_eq (n : Nat) : PyData.tuple (List.replicate n [PyData.tuple [.int 0, .int 1]]).flatten = frsD (List.replicate n 0) := by
  unfold frsD
  rw [List.map_replicate]
  have e : ∀ n : Nat, (List.replicate n [PyData.tuple [.int 0, .int 1]]).flatten = List.replicate n (fr 0) := by
    intro n
    induction n with
    | zero => rfl
    | succ n ih =>
      rw [List.replicate_succ, List.flatten_cons, ih, List.replicate_succ]
      rfl
  rw [e]
theorem beq_of {a b : Bool} {p q : Prop} (ha : a = true ↔ p) (hb : b = true ↔ q) (h : p ↔ q) : a = b := by
  cases a <;> cases b
  · rfl
  · exact absurd (ha.mpr (h.mpr (hb.mp rfl))) Bool.false_ne_true
  · exact absurd (hb.mpr (h.mp (ha.mp rfl))) Bool.false_ne_true
  · rfl
theorem wp_l_edge_right : WpK 10 5 d_l_edge_right pre_l_edge_right post_l_edge_right := by
  rintro k as ⟨hk, c, rs, hs, hc, hr, hh, rfl⟩
  refine ⟨⟨rfl, by decide, by simp [Sl.pure]⟩, fun l => ?_⟩
  have out : ∀ k' : List D, Used 10000 k k' → post_l_edge_right k [.im (crewD c), .im (roadsD rs), .im (crewD hs), .im (.str (pageOf c rs))] (.bool true) k' := fun k' hU => ⟨hU, rfl⟩
  generalize post_l_edge_right k [.im (crewD c), .im (roadsD rs), .im (crewD hs), .im (.str (pageOf c rs))] = post at out ⊢
  show d_l_edge_right _ [.own false l k, .im (crewD c), .im (roadsD rs), .im (crewD hs), .im (.str (pageOf c rs)), .e, .e, .e, .e, .e]
  have hcl : (c.map PyData.str).length = c.length := List.length_map _
  have h5 := hc.five
  have h2 := hc.two
  have pw : L2.CPow 10 6 := ⟨by decide, by decide, by decide⟩
  have pe : (10 : Int) ^ (6 : Int).toNat = 1000000 := by decide
  unfold d_l_edge_right
  simp only [dSeq]
  refine for_of [.int 1000000, .int 1000001] [.own false l k, .im (crewD c), .im (roadsD rs), .im (crewD hs), .im (.str (pageOf c rs)), .e, .e, .e, .e, .e] (fun P h => ⟨_, rfl, pw, trivial, _, rfl, pw, _, rfl, trivial, [.int 1000000, .int 1000001], rfl, by show 2 ≤ sizeLine; decide, h⟩) (fun i δ' => ∃ k' s5 s6 s7 s8 s9, δ' = [.own false l k', .im (crewD c), .im (roadsD rs), .im (crewD hs), .im (.str (pageOf c rs)), s5, s6, s7, s8, s9] ∧ Used (100 * i) k k') ⟨k, _, _, _, _, _, rfl, Used.refl k⟩ ?_ ?_
  · rintro i x δ' hx ⟨k', s5, s6, s7, s8, s9, rfl, hU⟩
    have hi : i < 2 := (List.getElem?_eq_some_iff.mp hx).1
    obtain ⟨m, rfl, hm1, hm2⟩ : ∃ m : Int, x = .int m ∧ 1000000 ≤ m ∧ m ≤ 1000001 := by
      have hm := List.mem_of_getElem? hx
      simp at hm
      rcases hm with rfl | rfl
      · exact ⟨_, rfl, by decide, by decide⟩
      · exact ⟨_, rfl, by decide, by decide⟩
    refine ⟨trivial, trivial, trivial, ⟨hU.ok hk (by show 600000 + 100 * i ≤ 800000; omega), c, rs, m, hc, hr, hm1, hm2, rfl⟩, fun r k2 hp => ?_⟩
    obtain ⟨hU2, hp⟩ := hp
    obtain ⟨t, rfl, hsq, hcell⟩ := hp c rs m hc hr rfl
    obtain ⟨hS, hT⟩ := edge_facts hc hm1 hm2 hsq hcell
    have fin : ∀ s5 s6 s7 s8 s9, ∃ k' t5 t6 t7 t8 t9, ([.own false l k2, .im (crewD c), .im (roadsD rs), .im (crewD hs), .im (.str (pageOf c rs)), s5, s6, s7, s8, s9] : DE) = [.own false l k', .im (crewD c), .im (roadsD rs), .im (crewD hs), .im (.str (pageOf c rs)), t5, t6, t7, t8, t9] ∧ Used (100 * (i + 1)) k k' := fun s5 s6 s7 s8 s9 => ⟨k2, s5, s6, s7, s8, s9, rfl, (hU.trans hU2).mono (by omega)⟩
    refine ⟨trivial, ?_⟩
    -- what is due
    have rest : ∀ due : Bool, (due = true ↔ m = 1000000 ∧ Full t c.length (spots c hs)) → (dSeq (dIf (dTst (dBin oNe (dCall pre_l_asked post_l_asked (dCons (dTup (dCons (dC (.str "sometimes")) (dCons (dVar 4) (dCons (dVar 3) dNil)))) (dCons (dVar 6) dNil))) (dVar 7))) (dRet (dC (.bool false))) dNext)
        (dSeq (dAsg (dBin oMul (dTup (dCons (dTup (dCons (dC (.int 0)) (dCons (dC (.int 1)) dNil))) dNil)) (dLen (dVar 1))) (gN 8))
        (dSeq (dAsg (dTup (dCons (dC (.str "leads")) (dCons (dVar 4) (dCons (dVar 6) (dCons (dVar 3) (dCons (dVar 8) (dCons (dVar 8) dNil))))))) (gN 9))
        (dIf (dTst (dBin oNe (dCall pre_l_asked post_l_asked (dCons (dVar 9) (dCons (dTup dNil) dNil))) (dBinV oEq 5 (dBin oPow (dC (.int 10)) (dC (.int 6)))))) (dRet (dC (.bool false))) dNext)))) { nx := fun δ' => ∃ k' s5 s6 s7 s8 s9, δ' = [.own false l k', .im (crewD c), .im (roadsD rs), .im (crewD hs), .im (.str (pageOf c rs)), s5, s6, s7, s8, s9] ∧ Used (100 * (i + 1)) k k', rt := fun s δ => ∃ r k', s = .im r ∧ δ[0]? = some (.own false l k') ∧ post r k' } [.own false l k2, .im (crewD c), .im (roadsD rs), .im (crewD hs), .im (.str (pageOf c rs)), .im (.int m), .im (tabD t), .im (.bool due), s8, s9] := by
      intro due hdue
      simp only [dSeq]
      have ok1 : (Cl.any c rs hs t).ok := ⟨hc, hr, hh, hsq, hT⟩
      refine ⟨trivial, trivial, trivial, _, rfl, by show 3 ≤ sizeLine; decide, trivial, trivial, ⟨Cl.any c rs hs t, ok1, rfl⟩, fun r hq => ?_⟩
      obtain ⟨b, rfl, hb⟩ := hq (Cl.any c rs hs t) ok1 rfl
      have e1 : b = due := beq_of hb hdue ⟨fun z => ⟨hS.mp z.1, z.2⟩, fun z => ⟨hS.mpr z.1, z.2⟩⟩
      refine ⟨_, rfl, _, rfl, ?_⟩
      refine iff0 (by rw [e1, decide_eq_true rfl]; rfl) ?_
      refine ⟨trivial, trivial, _, rfl, by show 2 ≤ sizeLine; decide, trivial, [.tuple [.int 0, .int 1]], rfl, by show 1 ≤ sizeLine; decide, _, rfl, ?_⟩
      refine ⟨(fun z => nomatch z), by rw [hcl]; omega, by rw [hcl]; omega, by decide, trivial, ?_⟩
      have e2 : PyData.tuple (List.replicate ((((c.map PyData.str).length : Nat) : Int)).toNat [PyData.tuple [.int 0, .int 1]]).flatten = frsD (List.replicate c.length 0) := by
        rw [hcl, Int.toNat_natCast]
        exact still_eq _
      rw [e2]
      have zb : ∀ b, StateB b (List.replicate c.length 0) := fun b q hq => by
        rw [List.eq_of_mem_replicate hq]
        exact FrM.zero _ _
      have ok2 : (Cl.way c rs hs t (List.replicate c.length 0) (List.replicate c.length 0) []).ok := ⟨hc, hr, hh, hsq, List.length_replicate, List.length_replicate, Nat.zero_le _, (fun p hp => nomatch hp), zb _, zb _, (fun p hp => nomatch hp), tabB_mono hT (by decide), .inl rfl⟩
      refine ⟨trivial, trivial, trivial, trivial, trivial, trivial, _, rfl, by show 6 ≤ sizeLine; decide, trivial, ?_⟩
      refine ⟨trivial, [], rfl, Nat.zero_le _, trivial, ⟨_, ok2, rfl⟩, fun r hq => ?_⟩
      obtain ⟨b2, rfl, hb2⟩ := hq _ ok2 rfl
      refine ⟨_, rfl, _, rfl, pw, _, rfl, ?_⟩
      have e3 : b2 = decide (m = (10 : Int) ^ (6 : Int).toNat) := by
        refine beq_of hb2 decide_eq_true_iff ?_
        rw [pe]
        exact ⟨fun z => hS.mp z.1, fun z => ⟨hS.mpr z, rfl⟩⟩
      refine iff0 (by rw [e3, decide_eq_true rfl]; rfl) ?_
      exact fin _ _ _ _ _
    refine ⟨_, rfl, pw, _, rfl, ?_⟩
    by_cases q : m = 1000000
    · refine ift (by rw [pe]; exact decide_eq_true q) ?_
      refine ⟨trivial, trivial, trivial, ⟨c, hs, t, hc, hh, hsq, hT, rfl⟩, fun r hq => ?_⟩
      obtain ⟨b, rfl, hb⟩ := hq c hs t hc hh hsq hT rfl
      exact ⟨trivial, rest b (hb.trans ⟨fun z => ⟨q, z⟩, fun z => z.2⟩)⟩
    · refine iff0 (by rw [pe]; exact decide_eq_false q) ?_
      exact ⟨trivial, rest false ⟨fun z => absurd z Bool.false_ne_true, fun z => (q z.1).elim⟩⟩
  · rintro δ' ⟨k', s5, s6, s7, s8, s9, rfl, hU⟩
    exact ⟨trivial, _, k', rfl, rfl, out k' (hU.mono (by show 100 * 2 ≤ 10000; decide))⟩
end Dl

end
section
set_option Elab.async false
set_option linter.all false
set_option maxRecDepth 100000
set_option maxHeartbeats 4000000
set_option autoImplicit false
/-! Bars with rows of many figures: when they are some. -/
namespace Dl
open PySem
theorem getD_mul (line : List Int) (W : Int) (j : Nat) : (line.map (· * W)).getD j 0 = line.getD j 0 * W := by
  rw [List.getD_eq_getElem?_getD, List.getD_eq_getElem?_getD, List.getElem?_map]
  cases line[j]? with
  | none => simp
  | some x => rfl
theorem dotI_mul (W : Int) : ∀ line col : List Int, dotI (line.map (· * W)) col = dotI line col * W
  | [], col => by simp [dotI]
  | x :: line, [] => by simp [dotI]
  | x :: line, y :: col => by
    have ih := dotI_mul W line col
    unfold dotI at ih ⊢
    rw [List.map_cons, List.zipWith_cons_cons, List.zipWith_cons_cons, List.sum_cons, List.sum_cons, ih, Int.add_mul]
    rw [Int.mul_assoc, Int.mul_comm W y, ← Int.mul_assoc]
theorem nz_get {line : List Int} (h : ∃ x ∈ line, x ≠ 0) : ∃ j, j < line.length ∧ line.getD j 0 ≠ 0 := by
  obtain ⟨x, hx, h0⟩ := h
  obtain ⟨j, hj⟩ := List.mem_iff_getElem?.mp hx
  exact ⟨j, (List.getElem?_eq_some_iff.mp hj).1, by rw [getD_of hj]; exact h0⟩
theorem get_nz {line : List Int} {j : Nat} (hj : j < line.length) (h : line.getD j 0 ≠ 0) : ∃ x ∈ line, x ≠ 0 := ⟨_, mem_getD hj, h⟩
theorem spot_name {c hs : List Str} (hh : HeadsOk c hs) {i : Nat} (hi : i ∈ spots c hs) : c.getD i "" ∈ hs ∧ i < c.length := by
  obtain ⟨x, hx, rfl⟩ := List.mem_map.mp hi
  have h1 := (idx_at (hh.sub x hx)).1
  rw [getD_of h1]
  exact ⟨hx, (List.getElem?_eq_some_iff.mp h1).1⟩
section
variable {c : List Str} {rs : List (Str × Str)} {hs : List Str} {t : List (List Int)} {line : List Int} {fold W R : Int}
theorem wide_some (hc : CrewOk c) (hr : RoadsOk c rs) (hh : HeadsOk c hs) (B : BarOut c rs hs t line fold) (hW : W ≠ 0) : (Strong c rs t ∧ BarOk t (spots c hs) (line.map (· * W)) fold) ↔ (gameS c rs hs).length < c.length := by
  have hS := game_ok hc hr hh
  have hl : (line.map (· * W)).length = c.length := by rw [List.length_map, B.len]
  constructor
  · rintro ⟨_, hB⟩
    obtain ⟨j, hj, h0⟩ := nz_get hB.some
    rw [hl] at hj
    rw [getD_mul] at h0
    have h1 : line.getD j 0 ≠ 0 := fun z => h0 (by rw [z, Int.zero_mul])
    have h2 : c.getD j "" ∉ gameS c rs hs := fun z => h1 ((B.zero j hj).mpr z)
    have h3 := nodup_le (l := c.getD j "" :: gameS c rs hs) (m := c) (List.nodup_cons.mpr ⟨h2, hS.nd⟩) fun z hz => (List.mem_cons.mp hz).elim (fun e => by rw [e]; exact List.mem_of_getElem? (of_lt _ hj)) (hS.sub z)
    rw [List.length_cons] at h3
    omega
  · intro hlt
    refine ⟨B.strong, ?_, fun i hi => ?_, fun j hj => ?_⟩
    · have : ∃ x ∈ c, x ∉ gameS c rs hs := Classical.byContradiction fun hn => by
        have := nodup_le hc.nd (m := gameS c rs hs) fun x hx => Classical.byContradiction fun z => hn ⟨x, hx, z⟩
        omega
      obtain ⟨x, hx, h0⟩ := this
      obtain ⟨j, hj⟩ := List.mem_iff_getElem?.mp hx
      have hjl := (List.getElem?_eq_some_iff.mp hj).1
      refine get_nz (j := j) (by rw [hl]; exact hjl) ?_
      rw [getD_mul]
      exact Int.mul_ne_zero (fun z => h0 (by rw [← (getD_of hj : c.getD j "" = x)]; exact (B.zero j hjl).mp z)) hW
    · obtain ⟨h1, h2⟩ := spot_name hh hi
      rw [getD_mul, (B.zero i h2).mpr (hS.sup _ h1), Int.zero_mul]
    · rw [hl] at hj
      rw [dotI_mul, getD_mul, B.eig j hj, Int.mul_assoc]
theorem wide_none (B : BarOut c rs hs t line fold) (hW : W ≠ 0) (hR : R ≠ 0) : ¬ BarOk t (spots c hs) (line.map (· * W)) (fold + R) := fun hB => by
  have hl : (line.map (· * W)).length = c.length := by rw [List.length_map, B.len]
  obtain ⟨j, hj, h0⟩ := nz_get hB.some
  have h1 := hB.eig j hj
  rw [hl] at hj
  rw [dotI_mul, getD_mul, B.eig j hj, Int.add_mul, Int.mul_assoc] at h1
  rw [getD_mul] at h0
  have h2 : R * (line.getD j 0 * W) = 0 := by omega
  exact Int.mul_ne_zero hR h0 h2
theorem unit_small (B : BarOut c rs hs t line fold) {b : Nat} (hW : Bz b W) : ∀ x ∈ line.map (· * W), Bz (b + 2) x := fun x hx => by
  obtain ⟨y, hy, rfl⟩ := List.mem_map.mp hx
  have := B.small y hy
  have h1 : Bz 2 y := by unfold Bz; omega
  exact (h1.mul hW).mono (by omega)
theorem strong_tabB (hsq : Sq c.length t) (h : Strong c rs t) : TabB 64 t := fun r hr x hx => by
  obtain ⟨i, hi⟩ := List.mem_iff_getElem?.mp hr
  have er : t.getD i [] = r := getD_of hi
  have := (h i (List.getElem?_eq_some_iff.mp hi).1).within x (by rw [er]; exact hx)
  exact bz_small (n := 1000000) 64 (by omega) (by decide)
end
/-- the last one's row -/
def ownI (c hs : List Str) (T : Int) : List Int := c.map fun x => (if (!decide (x ∈ hs)) = true then 1 else 0) * T
def loneI (c hs : List Str) (T : Int) : List Int := (List.range c.length).map fun k => (ownI c hs T).getD k 0 * (if decide ((k : Int) = (c.length : Int) - 1) = true then 1 else 0)
theorem lone_get (c hs : List Str) (T : Int) {k : Nat} (hk : k < c.length) : (loneI c hs T).getD k 0 = if k = c.length - 1 ∧ c.getD k "" ∉ hs then T else 0 := by
  have e0 : (ownI c hs T).getD k 0 = (if (!decide (c.getD k "" ∈ hs)) = true then 1 else 0) * T := by
    refine getD_of ?_
    unfold ownI
    rw [List.getElem?_map, of_lt ("" : Str) hk]
    rfl
  have e1 : (loneI c hs T).getD k 0 = (ownI c hs T).getD k 0 * (if decide ((k : Int) = (c.length : Int) - 1) = true then 1 else 0) := by
    refine getD_of ?_
    unfold loneI
    rw [List.getElem?_map, List.getElem?_range hk]
    rfl
  rw [e1, e0]
  by_cases q : k = c.length - 1
  · rw [if_pos (decide_eq_true (show (k : Int) = (c.length : Int) - 1 by omega)), Int.mul_one]
    by_cases q2 : c.getD k "" ∈ hs
    · rw [if_neg (by rw [decide_eq_true q2]; exact Bool.false_ne_true), if_neg (fun z => z.2 q2), Int.zero_mul]
    · rw [if_pos (by rw [decide_eq_false q2]; rfl), if_pos ⟨q, q2⟩, Int.one_mul]
  · have q3 : ¬ decide ((k : Int) = (c.length : Int) - 1) = true := by
      rw [decide_eq_false (show ¬ (k : Int) = (c.length : Int) - 1 by omega)]
      exact Bool.false_ne_true
    rw [if_neg q3, Int.mul_zero, if_neg (fun z => q z.1)]
theorem lone_len (c hs : List Str) (T : Int) : (loneI c hs T).length = c.length := by
  unfold loneI
  rw [List.length_map, List.length_range]
theorem lone_mem {c hs : List Str} {T : Int} {x : Int} (h : x ∈ loneI c hs T) : x = T ∨ x = 0 := by
  obtain ⟨k, hk⟩ := List.mem_iff_getElem?.mp h
  have hl := (List.getElem?_eq_some_iff.mp hk).1
  rw [lone_len] at hl
  have e := lone_get c hs T hl
  rw [getD_of hk] at e
  split at e
  · exact .inl e
  · exact .inr e
theorem own_mem {c hs : List Str} {T : Int} {x : Int} (h : x ∈ ownI c hs T) : x = T ∨ x = 0 := by
  obtain ⟨y, _, rfl⟩ := List.mem_map.mp h
  show (if (!decide (y ∈ hs)) = true then 1 else 0) * T = T ∨ _
  split
  · left; rw [Int.one_mul]
  · right; rw [Int.zero_mul]
theorem sum_single (f : Nat → Int) {n i : Nat} (hi : i < n) (h : ∀ k, k < n → k ≠ i → f k = 0) : ((List.range n).map f).sum = f i := by
  rw [sum_part f (fun _ => false) i rfl (List.range n) List.nodup_range (fun k hk hki _ => h k (List.mem_range.mp hk) hki), if_pos (List.mem_range.mpr hi)]
  have e : (List.range n).filter (fun _ => false) = [] := List.filter_eq_nil_iff.mpr fun _ _ => Bool.false_ne_true
  rw [e]
  simp
theorem lone_ans {c hs : List Str} {t : List (List Int)} {T : Int} (hc : CrewOk c) (hh : HeadsOk c hs) (hT : T ≠ 0) (hsq : Sq c.length t) (hS : Strong c [] t) (hz : ∀ i j, i < c.length → j < c.length → i ≠ j → ent t i j = 0) :
    (Strong c [] t ∧ BarOk t (spots c hs) (loneI c hs T) (ent t (c.length - 1) (c.length - 1))) ↔ c.getD (c.length - 1) "" ∉ hs := by
  have h0 : c.length - 1 < c.length := by have := hc.two; omega
  have hl := lone_len c hs T
  constructor
  · rintro ⟨_, hB⟩ hin
    obtain ⟨j, hj, hne⟩ := nz_get hB.some
    rw [hl] at hj
    rw [lone_get c hs T hj] at hne
    split at hne
    · rename_i q
      exact q.2 (by rw [q.1]; exact hin)
    · exact hne rfl
  · intro hout
    refine ⟨hS, get_nz (j := c.length - 1) (by rw [hl]; exact h0) ?_, fun i hi => ?_, fun j hj => ?_⟩
    · rw [lone_get c hs T h0, if_pos ⟨rfl, hout⟩]
      exact hT
    · obtain ⟨h1, h2⟩ := spot_name hh hi
      rw [lone_get c hs T h2, if_neg (fun z => z.2 h1)]
    · rw [hl] at hj
      rw [dot_col (by rw [hl, hsq.1]), hl, sum_single (fun k => (loneI c hs T).getD k 0 * ent t k j) h0 fun k hk hki => by
        show (loneI c hs T).getD k 0 * _ = 0
        rw [lone_get c hs T hk, if_neg (fun z => hki z.1), Int.zero_mul]]
      show (loneI c hs T).getD (c.length - 1) 0 * ent t (c.length - 1) j = _
      by_cases q : j = c.length - 1
      · rw [q, Int.mul_comm]
      · rw [hz _ _ h0 hj (fun e => q e.symm), lone_get c hs T hj, if_neg (fun z => q z.1), Int.mul_zero, Int.mul_zero]
theorem atI_neg {α : Type} {xs : List α} {x : α} (h : xs[xs.length - 1]? = some x) : L2.atI xs (-1) = some x := by
  have hl := (List.getElem?_eq_some_iff.mp h).1
  have e : L2.ixN xs.length (-1) = some (xs.length - 1) := by
    unfold L2.ixN
    rw [if_neg (by decide), if_pos (by omega)]
    congr 1
    omega
  unfold L2.atI
  rw [e]
  exact h
theorem roads_nil (c : List Str) : RoadsOk c [] := ⟨List.nodup_nil, (fun r h => nomatch h), (fun r h => nomatch h), fun r h => nomatch h⟩
theorem page_nil (c : List Str) : pageOf c [] = Txt.join " " c := rfl
end Dl

end
section
set_option Elab.async false
set_option linter.all false
set_option maxRecDepth 100000
set_option maxHeartbeats 4000000
set_option autoImplicit false
/-! Walks over data: whether bars with rows of many figures are taken. -/
namespace Dl
open PySem
def mulF (W : Int) : D → D
  | .int z => .int (z * W)
  | _ => .none
theorem mulF_map (W : Int) (line : List Int) : (line.map PyData.int).map (mulF W) = (line.map (· * W)).map PyData.int := by
  rw [List.map_map, List.map_map]
  rfl
def ownF (hs : List Str) (T : Int) : D → D
  | .str x => .int ((if (!decide (x ∈ hs)) = true then 1 else 0) * T)
  | _ => .none
theorem ownF_map (c hs : List Str) (T : Int) : (c.map PyData.str).map (ownF hs T) = (ownI c hs T).map PyData.int := by
  unfold ownI
  rw [List.map_map, List.map_map]
  rfl
theorem wp_l_bar_right : WpK 17 5 d_l_bar_right pre_l_bar_right post_l_bar_right := by
  rintro k as ⟨hk, c, rs, hs, hc, hr, hh, rfl⟩
  refine ⟨⟨rfl, by decide, by simp [Sl.pure]⟩, fun l => ?_⟩
  have out : ∀ k' : List D, Used 10000 k k' → post_l_bar_right k [.im (crewD c), .im (roadsD rs), .im (crewD hs), .im (.str (pageOf c rs))] (.bool true) k' := fun k' hU => ⟨hU, rfl⟩
  generalize post_l_bar_right k [.im (crewD c), .im (roadsD rs), .im (crewD hs), .im (.str (pageOf c rs))] = post at out ⊢
  show d_l_bar_right _ [.own false l k, .im (crewD c), .im (roadsD rs), .im (crewD hs), .im (.str (pageOf c rs)), .e, .e, .e, .e, .e, .e, .e, .e, .e, .e, .e, .e]
  have hcl : (c.map PyData.str).length = c.length := List.length_map _
  have h5 := hc.five
  have h2 := hc.two
  have pw30 : L2.CPow 10 30 := ⟨by decide, by decide, by decide⟩
  have pw25 : L2.CPow 10 25 := ⟨by decide, by decide, by decide⟩
  have pw6 : L2.CPow 10 6 := ⟨by decide, by decide, by decide⟩
  have hshH := (sh_crewL fun w hw => hc.sub w (hh.sub w hw)).shaped
  have few := hh.few hc
  refine ⟨trivial, trivial, trivial, ⟨hk.mono (by decide), c, rs, hs, hc, hr, hh, rfl⟩, fun r k1 hp => ?_⟩
  obtain ⟨hU, hp⟩ := hp
  obtain ⟨t, line, fold, rfl, B⟩ := hp c rs hs hc hr hh rfl
  refine ⟨trivial, rfl, rfl, ?_⟩
  show dSeq _ _ _ [.own false l k1, .im (crewD c), .im (roadsD rs), .im (crewD hs), .im (.str (pageOf c rs)), .im (tabD t), .im (.tuple [rowD line, .int fold]), .e, .e, .e, .e, .e, .e, .e, .e, .e, .e]
  refine ⟨trivial, trivial, trivial, ⟨c, rs, hs, hc, hr, hh, rfl⟩, fun r hq => ?_⟩
  have hq := hq c rs hs rfl
  subst hq
  have hgl : ((gameS c rs hs).map PyData.str).length = (gameS c rs hs).length := List.length_map _
  refine ⟨_, rfl, trivial, ?_⟩
  generalize hib : decide ((((gameS c rs hs).map PyData.str).length : Int) < ((c.map PyData.str).length : Int)) = ib
  have hib' : ib = true ↔ (gameS c rs hs).length < c.length := by
    rw [← hib, decide_eq_true_iff, hgl, hcl]
    omega
  -- the wide row
  have hll : (line.map PyData.int).length = line.length := List.length_map _
  generalize hW : (10 : Int) ^ (30 : Int).toNat = X30 at *
  have hX : X30 = 1000000000000000000000000000000 := by rw [← hW]; decide
  have bW : Bz 200 (X30 + 7) := by rw [hX]; decide
  have bX : Bz 200 X30 := by rw [hX]; decide
  have nW : X30 + 7 ≠ 0 := by omega
  have nX : X30 ≠ 0 := by omega
  have hok : ∀ R : Int, Bz 300 R → (Cl.bar c rs hs t (line.map (· * (X30 + 7))) R).ok := fun R hR => ⟨hc, hr, hh, B.sq, by rw [List.length_map, B.len], strong_tabB B.sq B.strong, fun x hx => (unit_small B bW x hx).mono (by decide), hR.mono (by decide)⟩
  have bF : Bz 3 fold := by have := B.folds; unfold Bz; omega
  have bF1 : Bz 300 fold := bF.mono (by decide)
  have bF2 : Bz 300 (fold + X30) := ((bF.mono (show 3 ≤ 200 by decide)).add bX).mono (by decide)
  simp only [dSeq]
  refine lc_map (line.map PyData.int) [.own false l k1, .im (crewD c), .im (roadsD rs), .im (crewD hs), .im (.str (pageOf c rs)), .im (tabD t), .im (.tuple [rowD line, .int fold]), .im (.bool ib), .e, .e, .e, .e, .e, .e, .e, .e, .e] (mulF (X30 + 7)) (fun P h => ⟨rowD line, atI_nat (i := 0) rfl, h⟩) (by rw [hll, B.len]; exact small_le (by omega)) (fun d hd R hR => ?_) ?_
  · obtain ⟨z, hz, rfl⟩ := List.mem_map.mp hd
    have := B.small z hz
    have bz : Bz 2 z := by unfold Bz; omega
    refine ⟨_, rfl, pw30, _, rfl, ?_⟩
    show L2.CMulX z ((10 : Int) ^ (30 : Int).toNat + 7) ∧ _
    rw [hW]
    exact ⟨mulB bz bW, _, rfl, rfl, hR⟩
  rw [mulF_map]
  refine ⟨trivial, ?_⟩
  show dSeq _ _ _ [.own false l k1, .im (crewD c), .im (roadsD rs), .im (crewD hs), .im (.str (pageOf c rs)), .im (tabD t), .im (.tuple [rowD line, .int fold]), .im (.bool ib), .im (rowD (line.map (· * (X30 + 7)))), .e, .e, .e, .e, .e, .e, .e, .e]
  refine ⟨trivial, trivial, trivial, _, rfl, by show 3 ≤ sizeLine; decide, trivial, trivial, trivial, .int fold, atI_nat (i := 1) rfl, trivial, _, rfl, by show 2 ≤ sizeLine; decide, trivial, _, rfl, by show 2 ≤ sizeLine; decide, trivial, ⟨_, hok fold bF1, rfl⟩, fun r hq => ?_⟩
  obtain ⟨b1, rfl, hb1⟩ := hq _ (hok fold bF1) rfl
  refine ⟨trivial, [.bool b1], rfl, by show 1 ≤ sizeLine; decide, fun l10 _ => ?_⟩
  show dSeq _ _ _ [.own false l k1, .im (crewD c), .im (roadsD rs), .im (crewD hs), .im (.str (pageOf c rs)), .im (tabD t), .im (.tuple [rowD line, .int fold]), .im (.bool ib), .im (rowD (line.map (· * (X30 + 7)))), .e, .own true l10 [.bool b1], .e, .e, .e, .e, .e, .e]
  refine ⟨trivial, trivial, trivial, trivial, _, rfl, by show 3 ≤ sizeLine; decide, trivial, trivial, trivial, .int fold, atI_nat (i := 1) rfl, _, rfl, _, rfl, pw30, ?_⟩
  show True ∧ _
  rw [hW]
  refine ⟨trivial, _, rfl, by show 2 ≤ sizeLine; decide, trivial, _, rfl, by show 2 ≤ sizeLine; decide, trivial, ⟨_, hok (fold + X30) bF2, rfl⟩, fun r hq => ?_⟩
  obtain ⟨b2, rfl, hb2⟩ := hq _ (hok (fold + X30) bF2) rfl
  refine ⟨_, rfl, by show 1 < sizeLine; decide, ?_⟩
  -- the last one alone
  generalize hT : (10 : Int) ^ (25 : Int).toNat = T25 at *
  have hT2 : T25 = 10000000000000000000000000 := by rw [← hT]; decide
  have bT : Bz 100 T25 := by rw [hT2]; decide
  have nT : T25 ≠ 0 := by omega
  simp only [dSeq]
  refine lc_map (c.map PyData.str) [.own false l k1, .im (crewD c), .im (roadsD rs), .im (crewD hs), .im (.str (pageOf c rs)), .im (tabD t), .im (.tuple [rowD line, .int fold]), .im (.bool ib), .im (rowD (line.map (· * (X30 + 7)))), .e, .own true l10 [.bool b1, .bool b2], .e, .e, .e, .e, .e, .e] (ownF hs T25) (fun P h => h) (by rw [hcl]; exact small_le (by omega)) (fun d hd R hR => ?_) ?_
  · obtain ⟨x, hx, rfl⟩ := List.mem_map.mp hd
    refine ⟨(sh_name (hc.sub x hx)).shaped, hshH, ?_⟩
    rw [in_strs]
    refine ⟨_, rfl, _, rfl, pw25, ?_⟩
    rw [hT]
    refine ⟨mulB (a := 2) ?_ bT, _, rfl, rfl, hR⟩
    split <;> decide
  rw [ownF_map]
  refine ⟨trivial, ?_⟩
  show dSeq _ _ _ [.own false l k1, .im (crewD c), .im (roadsD rs), .im (crewD hs), .im (.str (pageOf c rs)), .im (tabD t), .im (.tuple [rowD line, .int fold]), .im (.bool ib), .im (rowD (line.map (· * (X30 + 7)))), .e, .own true l10 [.bool b1, .bool b2], .im (rowD (ownI c hs T25)), .e, .e, .e, .e, .e]
  refine ⟨trivial, [], rfl, Nat.zero_le _, trivial, _, rfl, pw6, trivial, ⟨hU.ok hk (by decide), c, [], 1000000, hc, roads_nil c, by decide, by decide, rfl⟩, fun r k2 hp => ?_⟩
  obtain ⟨hU2, hp⟩ := hp
  obtain ⟨flat, rfl, hsqF, hcell⟩ := hp c [] 1000000 hc (roads_nil c) rfl
  obtain ⟨hSF, hTF⟩ := edge_facts hc (by decide) (by decide) hsqF hcell
  have hSF := hSF.mpr rfl
  refine ⟨trivial, ?_⟩
  show dSeq _ _ _ [.own false l k2, .im (crewD c), .im (roadsD rs), .im (crewD hs), .im (.str (pageOf c rs)), .im (tabD t), .im (.tuple [rowD line, .int fold]), .im (.bool ib), .im (rowD (line.map (· * (X30 + 7)))), .e, .own true l10 [.bool b1, .bool b2], .im (rowD (ownI c hs T25)), .e, .im (tabD flat), .e, .e, .e]
  refine ⟨c, .inl rfl, ?_, trivial, ?_⟩
  · have s1 := sum_le (f := fun x : Str => x.length) (b := 8) (l := c) fun x hx => name_len (hc.sub x hx)
    have e1 : (" " : Str).length = 1 := rfl
    rw [e1]
    have : c.length * 8 ≤ 5 * 8 := Nat.mul_le_mul_right _ h5
    omega
  show dSeq _ _ _ [.own false l k2, .im (crewD c), .im (roadsD rs), .im (crewD hs), .im (.str (pageOf c rs)), .im (tabD t), .im (.tuple [rowD line, .int fold]), .im (.bool ib), .im (rowD (line.map (· * (X30 + 7)))), .e, .own true l10 [.bool b1, .bool b2], .im (rowD (ownI c hs T25)), .e, .im (tabD flat), .im (.str (pageOf c [])), .e, .e]
  simp only [dSeq]
  have hol : (ownI c hs T25).length = c.length := by unfold ownI; rw [List.length_map]
  refine lc_idx (intsD c.length) [.own false l k2, .im (crewD c), .im (roadsD rs), .im (crewD hs), .im (.str (pageOf c rs)), .im (tabD t), .im (.tuple [rowD line, .int fold]), .im (.bool ib), .im (rowD (line.map (· * (X30 + 7)))), .e, .own true l10 [.bool b1, .bool b2], .im (rowD (ownI c hs T25)), .e, .im (tabD flat), .im (.str (pageOf c [])), .e, .e] (fun j => .int ((ownI c hs T25).getD j 0 * (if decide ((j : Int) = (c.length : Int) - 1) = true then 1 else 0))) (fun P h => ⟨_, rfl, by rw [hcl]; omega, by rw [hcl]; omega, by rw [hcl]; exact h⟩) (by rw [intsD_len]; exact small_le (by omega)) (fun j x hx R hR => ?_) ?_
  · have hj : j < c.length := by
      have := (List.getElem?_eq_some_iff.mp hx).1
      rw [intsD_len] at this
      exact this
    rw [intsD_get hj] at hx
    cases hx
    have hjo := of_lt (0 : Int) (show j < (ownI c hs T25).length by rw [hol]; exact hj)
    have bo : Bz 100 ((ownI c hs T25).getD j 0) := by
      rcases own_mem (mem_getD (show j < (ownI c hs T25).length by rw [hol]; exact hj)) with e | e
      · rw [e]; exact bT
      · rw [e]; decide
    refine ⟨.int ((ownI c hs T25).getD j 0), atI_nat (by rw [List.getElem?_map, hjo]; rfl), _, rfl, ?_⟩
    refine ⟨_, rfl, ?_⟩
    rw [hcl]
    refine ⟨mulB (b := 2) bo ?_, _, rfl, rfl, hR⟩
    split <;> decide
  have e2 : ((List.range (intsD c.length).length).map fun j => PyData.int ((ownI c hs T25).getD j 0 * (if decide ((j : Int) = (c.length : Int) - 1) = true then 1 else 0))) = (loneI c hs T25).map PyData.int := by
    unfold loneI
    rw [intsD_len, List.map_map]
    rfl
  rw [e2]
  refine ⟨trivial, ?_⟩
  show dSeq _ _ _ [.own false l k2, .im (crewD c), .im (roadsD rs), .im (crewD hs), .im (.str (pageOf c rs)), .im (tabD t), .im (.tuple [rowD line, .int fold]), .im (.bool ib), .im (rowD (line.map (· * (X30 + 7)))), .e, .own true l10 [.bool b1, .bool b2], .im (rowD (ownI c hs T25)), .e, .im (tabD flat), .im (.str (pageOf c [])), .im (rowD (loneI c hs T25)), .e]
  have h0 : c.length - 1 < c.length := by omega
  have hrl := of_lt ([] : List Int) (show c.length - 1 < flat.length by rw [hsqF.1]; exact h0)
  have hrlm := List.mem_of_getElem? hrl
  have hrll := hsqF.2 _ hrlm
  have a1 : L2.atI (flat.map rowD) (-1) = some (rowD (flat.getD (c.length - 1) [])) := atI_neg (by
    rw [List.length_map, List.getElem?_map, hsqF.1, hrl]
    rfl)
  have a2 : L2.atI ((flat.getD (c.length - 1) []).map PyData.int) (-1) = some (.int (ent flat (c.length - 1) (c.length - 1))) := atI_neg (by
    rw [List.length_map, List.getElem?_map, hrll, of_lt (0 : Int) (show c.length - 1 < (flat.getD (c.length - 1) []).length by rw [hrll]; exact h0)]
    rfl)
  have a3 : L2.atI (c.map PyData.str) (-1) = some (.str (c.getD (c.length - 1) "")) := atI_neg (by
    rw [List.length_map, List.getElem?_map, of_lt ("" : Str) h0]
    rfl)
  have bR : Bz 21 (ent flat (c.length - 1) (c.length - 1)) := hTF _ hrlm _ (mem_getD (by rw [hrll]; exact h0))
  have hans := lone_ans hc hh nT hsqF hSF fun i j hi hj hij => by
    have h := hcell i j hi hj
    rw [if_neg (fun z => z.elim hij fun y => nomatch y)] at h
    exact h
  generalize ent flat (c.length - 1) (c.length - 1) = ratio at a2 bR hans
  have ok3 : (Cl.bar c [] hs flat (loneI c hs T25) ratio).ok := ⟨hc, roads_nil c, hh, hsqF, lone_len c hs T25, tabB_mono hTF (by decide), fun x hx => by
    rcases lone_mem hx with e | e
    · rw [e]; exact bT.mono (by decide)
    · rw [e]; exact (show Bz 1 0 by decide).mono (by decide), bR.mono (by decide)⟩
  refine ⟨trivial, trivial, trivial, trivial, _, rfl, by show 3 ≤ sizeLine; decide, trivial, trivial, trivial, _, a1, _, rfl, .int ratio, a2, trivial, _, rfl, by show 2 ≤ sizeLine; decide, trivial, _, rfl, by show 2 ≤ sizeLine; decide, trivial, ⟨_, ok3, rfl⟩, fun r hq => ?_⟩
  obtain ⟨b3, rfl, hb3⟩ := hq _ ok3 rfl
  refine ⟨_, rfl, by show 2 < sizeLine; decide, ?_⟩
  have f1 : b1 = ib := beq_of hb1 hib' (wide_some hc hr hh B nW)
  have f2 : b2 = false := by
    cases b2 with
    | false => rfl
    | true => exact (wide_none B nW nX (hb2.mp rfl).2).elim
  have hlc := hc.sub _ (List.mem_of_getElem? (of_lt ("" : Str) h0))
  have f3 : b3 = !decide (c.getD (c.length - 1) "" ∈ hs) := beq_of hb3 (by rw [Bool.not_eq_true', decide_eq_false_iff_not]) hans
  refine ⟨trivial, trivial, _, a3, _, rfl, (sh_name hlc).shaped, hshH, ?_⟩
  rw [in_strs]
  rw [f1, f2, f3]
  generalize (!decide (c.getD (c.length - 1) "" ∈ hs)) = nb
  have fin : post (.bool true) k2 := out k2 ((hU.trans hU2).mono (by decide))
  refine ⟨trivial, _, rfl, by show 3 ≤ sizeLine; decide, ?_⟩
  have e9 : PyData.eqv (.list [.bool ib, .bool false, .bool nb]) (.list [.bool ib, .bool false, .bool nb]) = true := by
    cases ib <;> cases nb <;> decide +kernel
  have e8 : SeqAt.shaped (.list [.bool ib, .bool false, .bool nb]) = true := by
    cases ib <;> cases nb <;> decide +kernel
  refine ⟨e8, e8, trivial, .bool true, k2, ?_, rfl, fin⟩
  show Sl.im (.bool (PyData.eqv (.list [.bool ib, .bool false, .bool nb]) (.list [.bool ib, .bool false, .bool nb]))) = _
  rw [e9]
end Dl

end
section
set_option Elab.async false
set_option linter.all false
set_option maxRecDepth 100000
set_option maxHeartbeats 4000000
set_option autoImplicit false
/-! Walks over data: whether days with fractions of many figures are taken. -/
namespace Dl
open PySem
theorem table_strong {c : List Str} {rs : List (Str × Str)} {t : List (List Int)} (hsq : Sq c.length t) (hfar : ∀ r ∈ t, ∀ x ∈ r, -3 ≤ x ∧ x ≤ 3) (htie : ∀ i j, i < c.length → j < c.length → i ≠ j → (ent t i j ≠ 0 ↔ (c.getD j "", c.getD i "") ∈ rs)) : Strong c rs t ∧ TabB 3 t := by
  refine ⟨fun i hi => ⟨fun x hx => ?_, fun j hj => ?_⟩, fun r hr x hx => ?_⟩
  · have := hfar _ (List.mem_of_getElem? (of_lt [] hi)) x hx
    omega
  · rw [hsq.1] at hi
    by_cases q : j = i
    · exact .inl q
    · exact .inr (htie i j hi hj fun e => q e.symm)
  · have := hfar r hr x hx
    exact bz_small (n := 3) 3 (by omega) (by decide)
theorem one_more (q : Rat) : ((q.num + (q.den : Int) : Int) : Rat) / ((q.den : Int) : Rat) = q + 1 := by
  have h := num_add q 1
  have e1 : (1 : Rat).num = 1 := rfl
  have e2 : (1 : Rat).den = 1 := rfl
  rw [e1, e2] at h
  simpa using h
theorem more_ne (q : Rat) : q + 1 ≠ q := fun h => by
  have : (1 : Rat) = 0 := by grind
  exact absurd this (by decide)
theorem frM_unit : FrM Mday 61 1 := by
  refine ⟨(Mday : Int), ?_, by unfold Bz Mday; decide⟩
  have h := natCast_ne Mday_pos
  have e : (((Mday : Nat) : Int) : Rat) = ((Mday : Nat) : Rat) := rfl
  rw [e]
  generalize ((Mday : Nat) : Rat) = m at h
  grind
def wrongR (e : List Rat) (j : Nat) : List Rat := e.take j ++ [e.getD j 0 + 1] ++ e.drop (j + 1)
theorem wrong_len {e : List Rat} {j : Nat} (h : j < e.length) : (wrongR e j).length = e.length := by
  unfold wrongR
  rw [List.length_append, List.length_append, List.length_take, List.length_drop, List.length_cons, List.length_nil]
  omega
theorem wrong_ne {e : List Rat} {j : Nat} (h : j < e.length) : e ≠ wrongR e j := fun z => by
  have e1 : (wrongR e j).getD j 0 = e.getD j 0 + 1 := by
    refine getD_of ?_
    have hl : (e.take j).length = j := by rw [List.length_take]; omega
    unfold wrongR
    rw [List.append_assoc, List.getElem?_append_right (by omega), hl, Nat.sub_self]
    rfl
  rw [← z] at e1
  exact more_ne _ e1.symm
theorem wrong_b {e : List Rat} {j b : Nat} (h : j < e.length) (hb : 61 ≤ b) (hB : StateB b e) : StateB (b + 1) (wrongR e j) := fun q hq => by
  unfold wrongR at hq
  rcases List.mem_append.mp hq with hq | hq
  · rcases List.mem_append.mp hq with hq | hq
    · exact (hB q (List.mem_of_mem_take hq)).mono (by omega)
    · have z : q = e.getD j 0 + 1 := by simpa using hq
      rw [z]
      exact (hB _ (List.mem_of_getElem? (of_lt 0 h))).add (frM_unit.mono hb)
  · exact (hB q (List.mem_of_mem_drop hq)).mono (by omega)
end Dl

end
section
set_option Elab.async false
set_option linter.all false
set_option maxRecDepth 100000
set_option maxHeartbeats 4000000
set_option autoImplicit false
/-! Walks over data: whether days with fractions of many figures are taken. -/
namespace Dl
open PySem
theorem wp_l_way_right : WpK 17 5 d_l_way_right pre_l_way_right post_l_way_right := by
  rintro k as ⟨hk, c, rs, hs, hc, hr, hh, rfl⟩
  refine ⟨⟨rfl, by decide, by simp [Sl.pure]⟩, fun l => ?_⟩
  have out : ∀ k' : List D, Used 10000 k k' → post_l_way_right k [.im (crewD c), .im (roadsD rs), .im (crewD hs), .im (.str (pageOf c rs))] (.bool true) k' := fun k' hU => ⟨hU, rfl⟩
  generalize post_l_way_right k [.im (crewD c), .im (roadsD rs), .im (crewD hs), .im (.str (pageOf c rs))] = post at out ⊢
  show d_l_way_right _ [.own false l k, .im (crewD c), .im (roadsD rs), .im (crewD hs), .im (.str (pageOf c rs)), .e, .e, .e, .e, .e, .e, .e, .e, .e, .e, .e, .e]
  have hcl : (c.map PyData.str).length = c.length := List.length_map _
  have hhl : (hs.map PyData.str).length = hs.length := List.length_map _
  have h5 := hc.five
  have h2 := hc.two
  have few := hh.few hc
  refine ⟨trivial, trivial, trivial, ⟨hk.mono (by decide), c, rs, 3, hc, hr, by decide, by decide, rfl⟩, fun r k1 hp => ?_⟩
  obtain ⟨hU1, hp⟩ := hp
  obtain ⟨t, rfl, hsq, hfar, htie⟩ := hp c rs 3 hc hr rfl
  obtain ⟨hS, hT⟩ := table_strong hsq hfar htie
  refine ⟨trivial, ?_⟩
  simp only [dCons, dFr]
  refine lc_map (hs.map PyData.str) [.own false l k1, .im (crewD c), .im (roadsD rs), .im (crewD hs), .im (.str (pageOf c rs)), .e, .e, .e, .e, .e, .e, .e, .e, .e, .e, .e, .e] (spotF c) (fun P h => h) (by rw [hhl]; exact small_le (by omega)) (fun d hd R hR => ?_) ?_
  · obtain ⟨x, hx, rfl⟩ := List.mem_map.mp hd
    obtain ⟨h1, h2⟩ := idx_at (hh.sub x hx)
    exact ⟨c, rfl, x, rfl, c.idxOf x, h1, h2, _, rfl, rfl, hR⟩
  have es : (hs.map PyData.str).map (spotF c) = (spots c hs).map fun i : Nat => PyData.int (i : Int) := by
    rw [List.map_map, ← spotsD_eq]
    rfl
  rw [es]
  refine ⟨trivial, _, _, rfl, ?_⟩
  show dSeq _ _ _ [.own false l k1, .im (crewD c), .im (roadsD rs), .im (crewD hs), .im (.str (pageOf c rs)), .im (tabD t), .im (spotsD (spots c hs)), .e, .e, .e, .e, .e, .e, .e, .e, .e, .e]
  -- what is begun with, how many days
  refine ⟨by rw [hcl]; exact small_le (by omega), fun i acc δ' => ∃ k' s, δ' = [.own false l k', .im (crewD c), .im (roadsD rs), .im (crewD hs), .im (.str (pageOf c rs)), .im (tabD t), .im (spotsD (spots c hs)), .e, .e, .e, .e, .e, .e, .e, .e, .e, .e] ∧ Used (100 + 3 * i) k k' ∧ acc = s.map fr ∧ s.length = i ∧ StateB 61 s, ⟨k1, [], rfl, hU1, rfl, rfl, fun q hq => nomatch hq⟩, ?_, ?_⟩
  · rintro i x acc δ' hx ⟨k', s, rfl, hU2, rfl, hsl, hsb⟩
    have hi := (List.getElem?_eq_some_iff.mp hx).1
    rw [hcl] at hi
    refine ⟨⟨hU2.ok hk (by show 600000 + (100 + 3 * i) ≤ 900000; omega), rfl⟩, fun r k3 hp3 => ?_⟩
    obtain ⟨hU3, q, rfl, hq⟩ := hp3
    exact ⟨_, rfl, k3, s ++ [q], rfl, (hU2.trans hU3).mono (by omega), by rw [List.map_append]; rfl, by rw [List.length_append, hsl]; rfl, fun p hp => (List.mem_append.mp hp).elim (hsb p) fun z => by
      have e : p = q := by simpa using z
      rw [e]; exact hq⟩
  rintro acc δ' ⟨k2, s, rfl, hU2, rfl, hsl, hsb⟩
  rw [hcl] at hU2 hsl
  refine ⟨trivial, trivial, trivial, trivial, trivial, trivial, [.int 0, .int 1, .int 3, .int 13, .int 20], rfl, by show 5 ≤ sizeLine; decide, trivial, ⟨hU2.ok hk (by show 600000 + (100 + 3 * c.length) ≤ 1000000; omega), .list [.int 0, .int 1, .int 3, .int 13, .int 20], trivial, by show 1 ≤ 5; decide, by show 5 ≤ 1000; decide, rfl⟩, fun r k3 hp3 => ?_⟩
  obtain ⟨hU3, hr3⟩ := hp3
  have hr3 := hr3 _ rfl
  obtain ⟨m, rfl, hm⟩ : ∃ m : Nat, r = .int (m : Nat) ∧ m ≤ 20 := by
    simp [seqOf] at hr3
    rcases hr3 with h | h | h | h | h
    · exact ⟨0, h, by decide⟩
    · exact ⟨1, h, by decide⟩
    · exact ⟨3, h, by decide⟩
    · exact ⟨13, h, by decide⟩
    · exact ⟨20, h, by decide⟩
  have hU4 : Used 200 k k3 := (hU2.trans hU3).mono (by omega)
  refine ⟨trivial, _, _, rfl, ?_⟩
  show dSeq _ _ _ [.own false l k3, .im (crewD c), .im (roadsD rs), .im (crewD hs), .im (.str (pageOf c rs)), .im (tabD t), .im (spotsD (spots c hs)), .e, .im (frsD s), .im (.int (m : Nat)), .e, .e, .e, .e, .e, .e, .e]
  -- the pushes
  refine ⟨_, rfl, by omega, by omega, ?_⟩
  rw [Int.toNat_natCast]
  refine ⟨by rw [intsD_len]; exact small_le (by omega), fun i acc δ' => ∃ k' ps, δ' = [.own false l k', .im (crewD c), .im (roadsD rs), .im (crewD hs), .im (.str (pageOf c rs)), .im (tabD t), .im (spotsD (spots c hs)), .e, .im (frsD s), .im (.int (m : Nat)), .e, .e, .e, .e, .e, .e, .e] ∧ Used (200 + 20 * i) k k' ∧ acc = ps.map frsD ∧ ps.length = i ∧ ∀ p ∈ ps, p.length = hs.length ∧ StateB 61 p, ⟨k3, [], rfl, hU4, rfl, rfl, fun p hp => nomatch hp⟩, ?_, ?_⟩
  · rintro i x acc δ' hx ⟨k', ps, rfl, hU5, rfl, hpl, hpb⟩
    have hi := (List.getElem?_eq_some_iff.mp hx).1
    rw [intsD_len] at hi
    refine ⟨by rw [hhl]; exact small_le (by omega), fun j acc δ' => ∃ k' p, δ' = [.own false l k', .im (crewD c), .im (roadsD rs), .im (crewD hs), .im (.str (pageOf c rs)), .im (tabD t), .im (spotsD (spots c hs)), .e, .im (frsD s), .im (.int (m : Nat)), .e, .im x, .e, .e, .e, .e, .e] ∧ Used (200 + 20 * i + 3 * j) k k' ∧ acc = p.map fr ∧ p.length = j ∧ StateB 61 p, ⟨k', [], rfl, hU5, rfl, rfl, fun q hq => nomatch hq⟩, ?_, ?_⟩
    · rintro j y acc δ' hy ⟨k5, p, rfl, hU6, rfl, hpl2, hpb2⟩
      have hj := (List.getElem?_eq_some_iff.mp hy).1
      rw [hhl] at hj
      refine ⟨⟨hU6.ok hk (by show 600000 + (200 + 20 * i + 3 * j) ≤ 900000; omega), rfl⟩, fun r k6 hp6 => ?_⟩
      obtain ⟨hU7, q, rfl, hq⟩ := hp6
      exact ⟨_, rfl, k6, p ++ [q], rfl, (hU6.trans hU7).mono (by omega), by rw [List.map_append]; rfl, by rw [List.length_append, hpl2]; rfl, fun z hz => (List.mem_append.mp hz).elim (hpb2 z) fun z2 => by
        have e : z = q := by simpa using z2
        rw [e]; exact hq⟩
    · rintro acc δ' ⟨k5, p, rfl, hU6, rfl, hpl2, hpb2⟩
      rw [hhl] at hU6 hpl2
      exact ⟨_, rfl, k5, ps ++ [p], rfl, hU6.mono (by omega), by rw [List.map_append]; rfl, by rw [List.length_append, hpl]; rfl, fun z hz => (List.mem_append.mp hz).elim (hpb z) fun z2 => by
        have e : z = p := by simpa using z2
        rw [e]; exact ⟨hpl2, hpb2⟩⟩
  rintro acc δ' ⟨k4, ps, rfl, hU5, rfl, hpl, hpb⟩
  rw [intsD_len] at hU5 hpl
  have hU6 : Used 700 k k4 := hU5.mono (by omega)
  refine ⟨trivial, ?_⟩
  show dSeq _ _ _ [.own false l k4, .im (crewD c), .im (roadsD rs), .im (crewD hs), .im (.str (pageOf c rs)), .im (tabD t), .im (spotsD (spots c hs)), .e, .im (frsD s), .im (.int (m : Nat)), .im (.tuple (ps.map frsD)), .e, .e, .e, .e, .e, .e]
  have hrun : runPre c.length t (spots c hs) s ps := ⟨h5, hsq, .inr hT, spots_nodup hh, by rw [spots_len]; exact few, spots_lt hh.sub, hsl, hsb, by omega, fun p hp => ⟨by rw [spots_len]; exact (hpb p hp).1, (hpb p hp).2⟩⟩
  refine ⟨trivial, trivial, trivial, trivial, ⟨c.length, t, spots c hs, s, ps, hrun, rfl⟩, fun r hq => ?_⟩
  have hq := hq c.length t (spots c hs) s ps hrun rfl
  subst hq
  obtain ⟨hel, heb⟩ := run_bound hrun ps.length (Nat.le_refl _)
  rw [List.take_of_length_le (Nat.le_refl _)] at hel heb
  generalize hend : runR t (spots c hs) s ps = ended at hel heb
  have heb : StateB 330 ended := fun q hq => (heb q hq).mono (by omega)
  refine ⟨trivial, trivial, ⟨hU6.ok hk (by decide), (c.length : Int), by omega, by omega, by show [Sl.im (.int ((c.map PyData.str).length : Nat))] = _; rw [hcl]⟩, fun r k5 hp5 => ?_⟩
  obtain ⟨hU7, v, rfl, hv0, hv⟩ := hp5
  have hv := hv (c.length : Int) (by show [Sl.im (.int ((c.map PyData.str).length : Nat))] = _; rw [hcl])
  obtain ⟨j, rfl⟩ := Int.eq_ofNat_of_zero_le hv0
  have hj : j < ended.length := by omega
  refine ⟨trivial, _, _, rfl, ?_⟩
  show dSeq _ _ _ [.own false l k5, .im (crewD c), .im (roadsD rs), .im (crewD hs), .im (.str (pageOf c rs)), .im (tabD t), .im (spotsD (spots c hs)), .e, .im (frsD s), .im (.int (m : Nat)), .im (.tuple (ps.map frsD)), .e, .im (frsD ended), .im (.int (j : Nat)), .e, .e, .e]
  have hje := of_lt (0 : Rat) hj
  have hqb := heb _ (List.mem_of_getElem? hje)
  have hqd : Bd 4400 (ended.getD j 0) := frM_bd Mday_pos Mday_lt hqb (by decide) (by decide)
  have aE : L2.atI (ended.map fr) (j : Int) = some (fr (ended.getD j 0)) := atI_nat (by
    rw [List.getElem?_map, hje]
    rfl)
  generalize hq0 : ended.getD j 0 = q at hqb hqd aE
  have aN : L2.atI [PyData.int q.num, PyData.int q.den] (0 : Int) = some (.int q.num) := atI_nat (i := 0) rfl
  have aD : L2.atI [PyData.int q.num, PyData.int q.den] (1 : Int) = some (.int (q.den : Nat)) := atI_nat (i := 1) rfl
  refine ⟨fr q, aE, _, rfl, .int q.num, aN, _, rfl, fr q, aE, _, rfl, .int (q.den : Nat), aD, trivial, fr q, aE, _, rfl, .int (q.den : Nat), aD, trivial, ⟨q.num + (q.den : Int), (q.den : Int), den_pos q, ((hqd.1.add hqd.d).mono (by decide)), (hqd.d).mono (by decide), rfl⟩, fun r hq => ?_⟩
  have hq := hq _ _ (den_pos q) rfl
  rw [one_more] at hq
  subst hq
  refine ⟨trivial, ?_⟩
  show dSeq _ _ _ [.own false l k5, .im (crewD c), .im (roadsD rs), .im (crewD hs), .im (.str (pageOf c rs)), .im (tabD t), .im (spotsD (spots c hs)), .e, .im (frsD s), .im (.int (m : Nat)), .im (.tuple (ps.map frsD)), .e, .im (frsD ended), .im (.int (j : Nat)), .im (fr (q + 1)), .e, .e]
  have hEl : (ended.map fr).length = ended.length := List.length_map _
  have c1 : cutD (ended.map fr) none (some (j : Int)) = (ended.take j).map fr := by
    rw [cut_to _ _ (by rw [hEl]; omega), List.map_take]
  have c2 : cutD (ended.map fr) (some ((j : Int) + 1)) none = (ended.drop (j + 1)).map fr := by
    have e : (j : Int) + 1 = ((j + 1 : Nat) : Int) := by omega
    rw [e, cut_from _ _ (by rw [hEl]; omega), List.map_drop]
  have l1 : ((ended.take j).map fr).length ≤ 5 := by rw [List.length_map, List.length_take]; omega
  have l2 : ((ended.drop (j + 1)).map fr).length ≤ 5 := by rw [List.length_map, List.length_drop]; omega
  refine ⟨_, rfl, _, rfl, _, rfl, ?_⟩
  rw [c1]
  refine ⟨trivial, _, rfl, by show 1 ≤ sizeLine; decide, ?_⟩
  refine ⟨small_le (by show _ + 1 ≤ 1000; omega), _, rfl, _, rfl, _, rfl, ?_⟩
  have ew : (ended.take j).map fr ++ [fr (q + 1)] ++ (ended.drop (j + 1)).map fr = (wrongR ended j).map fr := by
    unfold wrongR
    rw [List.map_append, List.map_append, hq0]
    rfl
  show ((ended.take j).map fr ++ [fr (q + 1)]).length + (cutD (ended.map fr) (some ((j : Int) + 1)) none).length ≤ sizeLine ∧ (Sl.im (.tuple ((ended.take j).map fr ++ [fr (q + 1)] ++ cutD (ended.map fr) (some ((j : Int) + 1)) none))).pure ∧ gN 15 (.im (.tuple ((ended.take j).map fr ++ [fr (q + 1)] ++ cutD (ended.map fr) (some ((j : Int) + 1)) none))) _ _
  rw [c2, ew]
  refine ⟨small_le (by rw [List.length_append]; show _ + 1 + _ ≤ 1000; omega), trivial, ?_⟩
  show dSeq _ _ _ [.own false l k5, .im (crewD c), .im (roadsD rs), .im (crewD hs), .im (.str (pageOf c rs)), .im (tabD t), .im (spotsD (spots c hs)), .e, .im (frsD s), .im (.int (m : Nat)), .im (.tuple (ps.map frsD)), .e, .im (frsD ended), .im (.int (j : Nat)), .im (fr (q + 1)), .im (frsD (wrongR ended j)), .e]
  have hok : ∀ last : List Rat, last.length = c.length → StateB 3000 last → (Cl.way c rs hs t s last ps).ok := fun last h1 h2 => ⟨hc, hr, hh, hsq, hsl, h1, by omega, fun p hp => (hpb p hp).1, hsb, h2, fun p hp => (hpb p hp).2, tabB_mono hT (by decide), .inr hT⟩
  have ok1 := hok ended hel fun q hq => (heb q hq).mono (by decide)
  have ok2 := hok (wrongR ended j) ((wrong_len hj).trans hel) fun q hq => (wrong_b hj (by decide) heb q hq).mono (by decide)
  refine ⟨trivial, trivial, trivial, trivial, trivial, trivial, _, rfl, by show 6 ≤ sizeLine; decide, trivial, trivial, ⟨_, ok1, rfl⟩, fun r hq => ?_⟩
  obtain ⟨b1, rfl, hb1⟩ := hq _ ok1 rfl
  refine ⟨trivial, [.bool b1], rfl, by show 1 ≤ sizeLine; decide, fun l16 _ => ?_⟩
  show dSeq _ _ _ [.own false l k5, .im (crewD c), .im (roadsD rs), .im (crewD hs), .im (.str (pageOf c rs)), .im (tabD t), .im (spotsD (spots c hs)), .e, .im (frsD s), .im (.int (m : Nat)), .im (.tuple (ps.map frsD)), .e, .im (frsD ended), .im (.int (j : Nat)), .im (fr (q + 1)), .im (frsD (wrongR ended j)), .own true l16 [.bool b1]]
  refine ⟨trivial, trivial, trivial, trivial, trivial, trivial, trivial, _, rfl, by show 6 ≤ sizeLine; decide, trivial, trivial, ⟨_, ok2, rfl⟩, fun r hq => ?_⟩
  obtain ⟨b2, rfl, hb2⟩ := hq _ ok2 rfl
  refine ⟨_, rfl, by show 1 < sizeLine; decide, ?_⟩
  have f1 : b1 = true := hb1.mpr ⟨hS, hend⟩
  have f2 : b2 = false := by
    cases b2 with
    | false => rfl
    | true => exact (wrong_ne hj (hend.symm.trans (hb2.mp rfl).2)).elim
  rw [f1, f2]
  have fin : post (.bool true) k5 := out k5 ((hU6.trans hU7).mono (by decide))
  refine ⟨trivial, trivial, [.bool true, .bool false], rfl, by show 2 ≤ sizeLine; decide, by decide +kernel, by decide +kernel, trivial, .bool true, k5, ?_, rfl, fin⟩
  show Sl.im (.bool (PyData.eqv (.list [.bool true, .bool false]) (.list [.bool true, .bool false]))) = _
  rw [show PyData.eqv (.list [.bool true, .bool false]) (.list [.bool true, .bool false]) = true by decide +kernel]
end Dl

end
section
set_option Elab.async false
set_option linter.all false
set_option maxRecDepth 100000
set_option maxHeartbeats 4000000
set_option autoImplicit false
/-! Walks over data: the whole law. -/
namespace Dl
open PySem
theorem wp_l_right : WpK 6 1 d_l_right pre_l_right post_l_right := by
  rintro k as ⟨hk, rfl⟩
  refine ⟨⟨rfl, by decide, by simp [Sl.pure]⟩, fun l => ?_⟩
  have out : ∀ k' : List D, post_l_right k [] (.bool true) k' := fun k' => rfl
  generalize post_l_right k [] = post at out ⊢
  show d_l_right _ [.own false l k, .e, .e, .e, .e, .e]
  unfold d_l_right
  simp only [dSeq]
  refine for_of (intsD 2) [.own false l k, .e, .e, .e, .e, .e] (fun P h => ⟨_, rfl, by decide, by decide, h⟩) (fun i δ' => ∃ k' s1 s2 s3 s4 s5, δ' = [.own false l k', s1, s2, s3, s4, s5] ∧ Used (100000 * i) k k') ⟨k, _, _, _, _, _, rfl, Used.refl k⟩ ?_ ?_
  · rintro i x δ' hx ⟨k', s1, s2, s3, s4, s5, rfl, hU⟩
    have hi : i < 2 := by
      have := (List.getElem?_eq_some_iff.mp hx).1
      rw [intsD_len] at this
      exact this
    refine ⟨trivial, trivial, ⟨hU.ok hk (by show 1 + 100000 * i ≤ 800000; omega), rfl⟩, fun r k1 hp => ?_⟩
    obtain ⟨hU1, c, hc, rfl⟩ := hp
    have hV1 := hU.trans hU1
    refine ⟨trivial, ?_⟩
    refine ⟨trivial, ⟨hV1.ok hk (by show 1 + (100000 * i + 2000) ≤ 800000; omega), c, hc, rfl⟩, fun r k2 hp => ?_⟩
    obtain ⟨hU2, hp⟩ := hp
    obtain ⟨rs, hr, rfl⟩ := hp c hc rfl
    have hV2 := hV1.trans hU2
    refine ⟨trivial, trivial, ⟨hV2.ok hk (by show 1 + (100000 * i + 2000 + 2000) ≤ 800000; omega), c, hc, rfl⟩, fun r k3 hp => ?_⟩
    obtain ⟨hU3, hp⟩ := hp
    obtain ⟨hs, hh, rfl⟩ := hp c hc rfl
    have hV3 := hV2.trans hU3
    refine ⟨trivial, _, _, rfl, ?_⟩
    refine ⟨trivial, trivial, ⟨c, rs, hc, hr, rfl⟩, fun r hp => ?_⟩
    have hp := hp c rs rfl
    subst hp
    refine ⟨trivial, ?_⟩
    refine ⟨trivial, trivial, trivial, trivial, ⟨hV3.ok hk (by show 1 + (100000 * i + 2000 + 2000 + 2000) ≤ 600000; omega), c, rs, hs, hc, hr, hh, rfl⟩, fun r k4 hp => ?_⟩
    obtain ⟨hU4, rfl⟩ := hp
    have hV4 := hV3.trans hU4
    refine ⟨_, rfl, iff0 rfl ?_⟩
    refine ⟨trivial, trivial, trivial, trivial, ⟨hV4.ok hk (by show 1 + (100000 * i + 2000 + 2000 + 2000 + 10000) ≤ 600000; omega), c, rs, hs, hc, hr, hh, rfl⟩, fun r k5 hp => ?_⟩
    obtain ⟨hU5, rfl⟩ := hp
    have hV5 := hV4.trans hU5
    refine ⟨_, rfl, iff0 rfl ?_⟩
    refine ⟨trivial, trivial, trivial, trivial, ⟨hV5.ok hk (by show 1 + (100000 * i + 2000 + 2000 + 2000 + 10000 + 10000) ≤ 600000; omega), c, rs, hs, hc, hr, hh, rfl⟩, fun r k6 hp => ?_⟩
    obtain ⟨hU6, rfl⟩ := hp
    have hV6 := hV5.trans hU6
    refine ⟨_, rfl, iff0 rfl ?_⟩
    exact ⟨k6, _, _, _, _, _, rfl, hV6.mono (by omega)⟩
  · rintro δ' ⟨k', s1, s2, s3, s4, s5, rfl, hU⟩
    exact ⟨trivial, _, k', rfl, rfl, out k'⟩
def manyI (n : Nat) : Int := if (if (4 : Int) < (n : Int) then 4 else (n : Int)) > 2 then (if (4 : Int) < (n : Int) then 4 else (n : Int)) else 2
theorem many_le (n : Nat) : 2 ≤ manyI n ∧ manyI n ≤ 4 := by
  unfold manyI
  split <;> split <;> omega
theorem wp_law : WpD 2 1 d_law pre_law post_law := by
  rintro as ⟨ns, hl, hb, rfl⟩
  refine ⟨⟨rfl, by decide, by simp [Sl.pure]⟩, ?_⟩
  have out : post_law [.sq (ns.map PyData.int)] (.bool true) := rfl
  generalize post_law [.sq (ns.map PyData.int)] = post at out ⊢
  show d_law _ [.sq (ns.map PyData.int), .e]
  obtain ⟨m1, m2⟩ := many_le (ns.map PyData.int).length
  refine lc_map (intsD (manyI (ns.map PyData.int).length).toNat) [.sq (ns.map PyData.int), .e] (fun _ => .bool true) (fun P h => ⟨_, rfl, _, rfl, _, rfl, _, rfl, _, rfl, by show manyI (ns.map PyData.int).length < _; omega, by show _ ≤ manyI (ns.map PyData.int).length; omega, h⟩) (by rw [intsD_len]; exact small_le (by omega)) (fun x hx R hR => ?_) ?_
  · obtain ⟨i, hi⟩ := List.mem_iff_getElem?.mp hx
    have hil : i < (manyI (ns.map PyData.int).length).toNat := by
      have := (List.getElem?_eq_some_iff.mp hi).1
      rw [intsD_len] at this
      exact this
    rw [intsD_get hil] at hi
    cases hi
    refine ⟨trivial, trivial, ⟨ns, i, hl, hb, rfl, by omega⟩, fun r hp => ⟨⟨hp, rfl⟩, fun r2 k' hq => ?_⟩⟩
    have hq : r2 = .bool true := hq
    subst hq
    exact ⟨_, rfl, rfl, hR⟩
  · refine ⟨(intsD (manyI (ns.map PyData.int).length).toNat).map fun _ => true, by rw [List.map_map]; rfl, trivial, .bool true, ?_, out⟩
    have e : (((intsD (manyI (ns.map PyData.int).length).toNat).map fun _ => true).all id) = true := by simp
    rw [e]
open L2 in
theorem ints_is {K : PySem.W.Frag} {G : Hp} : ∀ ns : List Int, IsAll K G (ns.map V.int) (ns.map PyData.int)
  | [] => .nil
  | z :: ns => .cons (.int z) (ints_is ns)
theorem bits_bz {z : Int} (h : Builtin.Int.intBits z ≤ 1048576) : Bz 1048577 z := by
  have h1 : z.natAbs < 2 ^ Builtin.Int.intBits z := by
    unfold Builtin.Int.intBits
    split
    · rename_i q
      rw [beq_iff_eq.mp q]
      exact Nat.one_pos
    · exact Nat.lt_log2_self
  exact Nat.lt_of_lt_of_le h1 (Nat.pow_le_pow_right (by decide) (Nat.le_succ_of_le h))
open L2 in
theorem law_pre {K : PySem.W.Frag} {C : Addr} {H : Hp} {a : Addr} {ns : List Int} (hl : ns.length ≤ 63) (hb : ∀ z ∈ ns, Builtin.Int.intBits z ≤ 1048576) (hS : SqL K H a (ns.map V.int)) : spD K C pre_law post_law [.ref a] H (fun v _ => v = .bl true) E0 := by
  refine ⟨H, [.sq (ns.map PyData.int)], Evl.Ex.refl H, .cons ⟨a, _, rfl, hS, ints_is ns⟩ .nil, ⟨ns, hl, fun z hz => bits_bz (hb z hz), rfl⟩, fun v N H2 r hr _ hi => ?_⟩
  have hr : r = .bool true := hr
  subst hr
  cases hi
  rfl
end Dl

end
section
set_option Elab.async false
set_option linter.all false
set_option maxRecDepth 100000
set_option maxHeartbeats 4000000
set_option autoImplicit false
/-! The class's own defs: its maker, its length, its parts. -/
namespace Dl
open PySem PySem.Spec PyProof.Rows L2
open Evl (Ex)
theorem sc_Parts : FnScope ["self"] ["self"] (defScope s_Parts) := ⟨rfl, rfl, rfl, by decide +kernel, rfl, by decide +kernel, by decide +kernel⟩
theorem sc_Len : FnScope ["self"] ["self"] (defScope s_Len) := ⟨rfl, rfl, rfl, by decide +kernel, rfl, by decide +kernel, by decide +kernel⟩
abbrev N_Init : List Str := ["self", "parts", "ties", "wrong", "at", "other", "one"]
theorem sc_Init : FnScope N_Init ["self", "parts", "ties"] (defScope s_Init) := ⟨rfl, rfl, rfl, by decide +kernel, rfl, by decide +kernel, by decide +kernel⟩
section
variable {P : Program} {w : World} {K : PySem.W.Frag} {mg : Str → Option Value} {base : Heap} {C f : Addr} {fd : FuncData}
theorem parts_ok (F : Fun K "parts" "Works.parts" s_Parts f fd) (c : Cls K C) (n : NoAttr K C "heads") : FnOk P w K mg base CX0 1 f fd ["self"] (getSp C "heads") := by
  refine F.ok (k := 0) sc_Parts (fun vs H Q E h => ?_) (fun cdv A outer s H vs Q E hr h => ?_)
  · obtain ⟨a, dx, fs, v, rfl, _⟩ := h
    rfl
  · obtain ⟨a, dx, fs, v, rfl, ea, l, q⟩ := h
    exact ⟨_, pss_one (ps_ret (pe_fld (pv 0) rfl)), .ref a, rfl, a, C, dx, fs, v, rfl, ea, c, n, l, q⟩
theorem len_ok (F : Fun K "__len__" "Works.__len__" s_Len f fd) (c : Cls K C) (n : NoAttr K C "heads") (hm : mg "len" = none) : FnOk P w K mg base CX0 1 f fd ["self"] (lenSp K C) := by
  refine F.ok (k := 0) sc_Len (fun vs H Q E h => ?_) (fun cdv A outer s H vs Q E hr h => ?_)
  · obtain ⟨a, dx, fs, t, ys, rfl, _⟩ := h
    rfl
  · obtain ⟨a, dx, fs, t, ys, rfl, ea, l, hq, q⟩ := h
    exact ⟨_, pss_one (ps_ret (pe_callB call_len_seq (by rfl) hm PySem.boot_len (pa_cons (pe_fld (pv 0) rfl) pa_nil))), .ref a, rfl, a, C, dx, fs, .ref t, rfl, ea, c, n, l, t, ys, rfl, .inr hq, q⟩
/-- entered anew, nothing lent -/
theorem Cfg.anew {E : Ent} {G H H3 : Hp} {σ : L2.St} {δ : DE} (c : Cfg K C E G H σ δ) (F : Addr → Prop) (hp : ∀ s ∈ δ, s.pure ∨ s = .e) (e : Ex G H3) (hF : ∀ b, F b → H3 b ≠ none) : Cfg K C ⟨G, H3, fun _ => False, F⟩ G H3 σ δ where
  gg := Ex.refl G
  gh := e
  nw := fun _ h => .inl h
  kp := fun _ _ h _ => h
  dm := fun _ h => h
  ow := fun s hs b hb => by
    rcases hp s hs with z | z
    · rw [Sl.pure_adr z] at hb; cases hb
    · subst z; cases hb
  sp := fun i j s t b hi hj hb hb' => by
    rcases hp s (List.mem_of_getElem? hi) with z | z
    · rw [Sl.pure_adr z] at hb; cases hb
    · subst z; cases hb
  ln := c.ln
  lf := fun s hs _ b hb => by
    rcases hp s hs with z | z
    · rw [Sl.pure_adr z] at hb; cases hb
    · subst z; cases hb
  fd := hF
  vl := fun i s hi hn => by
    obtain ⟨v, e1, q⟩ := c.vl i s hi hn
    rcases hp s (List.mem_of_getElem? hi) with z | z
    · exact ⟨v, e1, q.pu z (Ex.refl G)⟩
    · exact (hn z).elim
theorem new_ex {G H : Hp} {x : Addr} {o : HO} (e : Ex G H) (h : G x = none) : Ex G (upd H x o) := fun b u hb => by
  have q : b ≠ x := fun q => by rw [q, h] at hb; cases hb
  rw [upd_ne q]
  exact e b u hb
theorem init_ok {dvs : List V} (F : FunD K "__init__" "Works.__init__" (defArgs s_Init) (defBody s_Init) (defScope s_Init) dvs [] f fd) (T : Tx K mg C) (c_wrong_part : Cal P w K mg base "wrong_part" 2 ["parts"] (spD K C pre_wrong_part post_wrong_part)) (c_wrong_tie : Cal P w K mg base "wrong_tie" 2 ["parts", "ties"] (spD K C pre_wrong_tie post_wrong_tie))
    (c : Cls K C) (n1 : NoAttr K C "heads") (n2 : NoAttr K C "roads") (n3 : NoAttr K C "pushed") : FnOk P w K mg base CX0 3 f fd ["self", "parts", "ties"] (initSp K C preWorks mkPushed) := by
  refine F.ok (k := 2) sc_Init (fun vs H Q E h => ?_) (fun cdv A outer s H vs Q E hr h => ?_)
  · obtain ⟨G, x, dx, pv, tv, p, t, rfl, _⟩ := h
    rfl
  · obtain ⟨G, x, dx, pvv, tv, p, t, rfl, eg, gx, hx, ip, it, ⟨cr, rs, hc, hrs, rfl, rfl⟩, k⟩ := h
    have hu := hu64_of hr
    have hu65 := hu65_of hr
    refine ⟨_, PSs.nox (pss_cons (pds_asg (C := C) (pd_call c_wrong_part (hr.mono (by decide)) (pda_cons (pd_var 1) pda_nil)) (pdg_name 3 sc_Init.nd))
      (pss_cons (pds_if (C := C) (pdt_cmpV (sd_ne hu) 3 (pd_tup pda_nil)) (pds_one pds_never) pds_nil)
      (pss_cons (pds_asg (C := C) (pd_call c_wrong_tie (hr.mono (by decide)) (pda_cons (pd_var 1) (pda_cons (pd_var 2) pda_nil))) (pdg_name 3 sc_Init.nd))
      (pss_cons (pds_if (C := C) (pdt_cmpV (sd_ne hu) 3 (pd_tup pda_nil)) (pds_one pds_never) pds_nil)
      (pss_cons (ps_fld (pv 0) (pv 1) (by rfl))
      (pss_cons (ps_fld (pv 0) (pv 2) (by rfl))
      (pss_one (ps_fld (pv 0) (pd_t1 (C := C) sd_tuple T.tuple (pd_fr (pdf_lc [("one", 6)] rfl sc_Init.nd (pdi_seq (pd_var 1)) rfl (fun _ _ _ _ _ => (pdg_name 6 sc_Init.nd)) (fun _ _ _ _ _ => pdts_nil) (fun _ _ _ _ _ => (pd_t1 sd_tuple T.tuple (pd_fr (pdf_lc [("at", 4), ("other", 5)] rfl sc_Init.nd (pdi_enum T.enumerate (pd_var 1)) rfl (fun _ _ _ _ _ => (pdg_tup (n := 2) rfl (pdgs_cons (pdg_name 4 sc_Init.nd) (pdgs_cons (pdg_name 5 sc_Init.nd) pdgs_nil)))) (fun _ _ _ _ _ => (pdts_one (pdt_cmp (sd_in hu65) (pd_tup (pda_cons (pd_var 6) (pda_cons (pd_var 5) pda_nil))) (pd_var 2)))) (fun _ _ _ _ _ => (pd_var 4))))))))) (by rfl))))))))), ?_⟩
    -- the entry
    have c0 : Cfg K C ⟨G, H, fun _ => False, fun b => H b ≠ none⟩ G H (L2.start N_Init [.ref x, pvv, tv]) (slots N_Init.length [.val (.ref x), .im (crewD cr), .im (roadsD rs)]) :=
      Cfg.entry (fun _ => False) _ eg (.cons rfl (.cons ip (.cons it .nil))) (by show 3 ≤ 7; decide) (fun s hs b hb => by simp at hs; rcases hs with rfl | rfl | rfl <;> cases hb) (fun i j s t b hi _ hb _ => by
        have hs := List.mem_of_getElem? hi
        simp at hs; rcases hs with rfl | rfl | rfl <;> cases hb) (fun s hs => by simp at hs; rcases hs with rfl | rfl | rfl <;> exact not_loc trivial) (fun _ z => z)
    have keep : ∀ {N H2 : Hp} {σ : L2.St} {δ : DE}, Cfg K C ⟨G, H, fun _ => False, fun b => H b ≠ none⟩ N H2 σ δ → H2 x = some (.ins C dx []) ∧ N x = none := fun {N H2 σ δ} c => by
      refine ⟨c.kp x _ hx id, ?_⟩
      cases q : N x with
      | none => rfl
      | some o => exact ((c.nw x (by rw [q]; simp)).elim (fun z => z gx) fun z => (by rw [show H x = none from z] at hx; cases hx)).elim
    refine ⟨_, G, _, { nx := fun δ => δ = [.val (.ref x), .im (crewD cr), .im (roadsD rs), .im (.tuple []), .e, .e, .e], rt := fun _ _ => False }, c0, fun _ z => z.elim, ?_, ?_, fun _ _ _ _ _ _ z => z.elim, fun _ _ _ _ z => z.elim, fun _ _ _ _ z => z.elim⟩
    · refine ⟨trivial, ⟨cr, hc, rfl⟩, fun r hq => ?_⟩
      have hq : r = .tuple [] := hq
      subst hq
      exact ⟨trivial, rfl⟩
    rintro δ1 σ1 N1 H1 rfl c1
    refine ⟨_, N1, _, { nx := fun δ => δ = [.val (.ref x), .im (crewD cr), .im (roadsD rs), .im (.tuple []), .e, .e, .e], rt := fun _ _ => False }, c1, fun _ z => z.elim, ?_, ?_, fun _ _ _ _ _ _ z => z.elim, fun _ _ _ _ z => z.elim, fun _ _ _ _ z => z.elim⟩
    · exact ⟨[], rfl, Nat.zero_le _, rfl, rfl, _, rfl, iff0 rfl rfl⟩
    rintro δ2 σ2 N2 H2 rfl c2
    refine ⟨_, N2, _, { nx := fun δ => δ = [.val (.ref x), .im (crewD cr), .im (roadsD rs), .im (.tuple []), .e, .e, .e], rt := fun _ _ => False }, c2, fun _ z => z.elim, ?_, ?_, fun _ _ _ _ _ _ z => z.elim, fun _ _ _ _ z => z.elim, fun _ _ _ _ z => z.elim⟩
    · refine ⟨trivial, trivial, ⟨cr, rs, hc, hrs, rfl⟩, fun r hq => ?_⟩
      have hq : r = .tuple [] := hq
      subst hq
      exact ⟨trivial, rfl⟩
    rintro δ3 σ3 N3 H3 rfl c3
    refine ⟨_, N3, _, { nx := fun δ => δ = [.val (.ref x), .im (crewD cr), .im (roadsD rs), .im (.tuple []), .e, .e, .e], rt := fun _ _ => False }, c3, fun _ z => z.elim, ?_, ?_, fun _ _ _ _ _ _ z => z.elim, fun _ _ _ _ z => z.elim, fun _ _ _ _ z => z.elim⟩
    · exact ⟨[], rfl, Nat.zero_le _, rfl, rfl, _, rfl, iff0 rfl rfl⟩
    rintro δ4 σ4 N4 H4 rfl c4
    obtain ⟨hx4, nx4⟩ := keep c4
    obtain ⟨v0, e0, q0⟩ := c4.vl 0 _ rfl (fun z => by cases z)
    obtain ⟨v1, e1, q1⟩ := c4.vl 1 _ rfl (fun z => by cases z)
    obtain ⟨v2, e2, q2⟩ := c4.vl 2 _ rfl (fun z => by cases z)
    have q0 : v0 = .ref x := q0
    subst q0
    have p5 : putF "roads" v2 [(("heads" : Str), v1)] = [(("heads" : Str), v1), (("roads" : Str), v2)] := rfl
    have p6 : ∀ v3 : V, putF "pushed" v3 [(("heads" : Str), v1), (("roads" : Str), v2)] = [(("heads" : Str), v1), (("roads" : Str), v2), (("pushed" : Str), v3)] := fun _ => rfl
    refine ⟨v1, e1, .ref x, e0, x, C, dx, [], rfl, hx4, c, n1, by decide, ?_⟩
    refine ⟨v2, e2, .ref x, e0, x, C, dx, [(("heads" : Str), v1)], rfl, upd_same, c, n2, by show 1 < 1000; decide, ?_⟩
    rw [p5]
    generalize h5 : upd H4 x (.ins C dx (putF "heads" v1 [])) = H5
    generalize h6 : upd H5 x (.ins C dx [(("heads" : Str), v1), (("roads" : Str), v2)]) = H6
    have hx6 : H6 x = some (.ins C dx [(("heads" : Str), v1), (("roads" : Str), v2)]) := by rw [← h6]; exact upd_same
    have ne6 : ∀ b, b ≠ x → H6 b = H4 b := fun b hb => by rw [← h6, ← h5, upd_ne hb, upd_ne hb]
    have e6 : Ex N4 H6 := by
      rw [← h6, ← h5]
      exact new_ex (new_ex c4.gh nx4) nx4
    have c6 : Cfg K C ⟨N4, H6, fun _ => False, fun _ => False⟩ N4 H6 σ4 [.val (.ref x), .im (crewD cr), .im (roadsD rs), .im (.tuple []), .e, .e, .e] :=
      Cfg.anew c4 (fun _ => False) (fun s hs => by
        simp at hs
        rcases hs with rfl | rfl | rfl | rfl | rfl
        · exact .inl trivial
        · exact .inl trivial
        · exact .inl trivial
        · exact .inl trivial
        · exact .inr rfl) e6 (fun _ z => z.elim)
    refine ⟨_, N4, _, fun s _ => s = .im (pushD cr rs), c6, wp_pushed hc hrs _ _ _ (fun _ => rfl), ?_⟩
    rintro v3 N7 H7 s7 δ7 c7 sv rfl
    have nx7 : N7 x = none := by
      cases q : N7 x with
      | none => rfl
      | some o => exact ((c7.nw x (by rw [q]; simp)).elim (fun z => z nx4) fun z => (by rw [show H6 x = none from z] at hx6; cases hx6)).elim
    have hx7 : H7 x = some (.ins C dx [(("heads" : Str), v1), (("roads" : Str), v2)]) := c7.kp x _ hx6 id
    refine ⟨.ref x, e0, x, C, dx, _, rfl, hx7, c, n3, by show 2 < 1000; decide, ?_⟩
    rw [p6]
    refine k N7 _ v1 v2 v3 (c4.gg.trans c7.gg) (new_ex c7.gh nx7) nx7 (fun b o hb h => ?_) (fun b h => ?_) (fun b h => ?_) upd_same (Is.mono c7.gg _ _ q1) (Is.mono c7.gg _ _ q2) (by rw [mkPushed_eq]; exact sv)
    · rw [upd_ne hb]
      exact c7.kp b o (by show H6 b = _; rw [ne6 b hb]; exact c4.kp b o h id) id
    · by_cases hb : b = x
      · subst hb; rw [upd_same] at h; cases h
      · rw [upd_ne hb] at h
        have h2 : H6 b = none := c7.dm b h
        rw [ne6 b hb] at h2
        exact c4.dm b h2
    · rcases c7.nw b h with z | z
      · exact c4.nw b z
      · have z : H6 b = none := z
        by_cases hb : b = x
        · subst hb; rw [hx6] at z; cases z
        · rw [ne6 b hb] at z
          exact .inr (c4.dm b z)
end
end Dl

end
section
set_option Elab.async false
set_option linter.all false
set_option maxRecDepth 100000
set_option maxHeartbeats 0
set_option autoImplicit false
/-! What the top has left, printed by gen.py. -/
namespace Dl
open PySem PySem.Spec PyProof.Rows L2
section
variable {P : Program} {w : World} {K : PySem.W.Frag} {h : Heap} {mg : Str → Option Value} {base : Heap}
theorem tup_ok {x : Str} {vs : List V} (hb : tupNB K x vs = true) (H : Hp) : TpA K H (He.ga K x) vs := by
  unfold tupNB at hb
  cases q : K.lookup (He.ga K x) with
  | none => rw [q] at hb; cases hb
  | some o =>
    obtain ⟨oc, od, dt, osl⟩ := o
    rw [q] at hb
    cases oc with
    | type c =>
      cases od with
      | none =>
        cases dt with
        | seq its n =>
          obtain ⟨h1, h2⟩ := He.ba (show (decide (c = "tuple") && (decide (its.size ≤ sizeLine) && He.relAll vs its.toList)) = true from hb)
          obtain ⟨h3, h4⟩ := He.ba h2
          exact .inr ⟨_, its, n, q, congrArg Value.type (of_decide_eq_true h1), rfl, rfl, of_decide_eq_true h3, He.relAll_ok h4⟩
        | _ => cases hb
      | some a => cases dt <;> cases hb
    | _ => cases od <;> cases dt <;> cases hb
theorem SaysX.ta (c : SaysX K) : tupNB K "NOUGHT" [.int 0, .int 1] = true := (He.ba c.x).1
theorem SaysX.tb (c : SaysX K) : tupNB K "ONE" [.int 1, .int 1] = true := (He.ba (He.ba c.x).2).1
theorem data_tup {x : Str} {i j : Int} (hm : mg x = some (.ref (He.ga K x))) (hb : tupNB K x [.int i, .int j] = true) : DataAt K mg x (.tuple [.int i, .int j]) := ⟨_, .ref (He.ga K x), hm, rfl, fun G => .tup (tup_ok hb G) (.cons (.int i) (.cons (.int j) .nil))⟩
theorem data_int {x : Str} {i : Int} (hm : ∃ t, mg x = some (.int i t)) : DataAt K mg x (.int i) := by
  obtain ⟨t, hm⟩ := hm
  exact ⟨_, .int i, hm, ⟨t, rfl⟩, fun G => .int i⟩
theorem data_str {x z : Str} (hm : ∃ t, mg x = some (.str z t)) : DataAt K mg x (.str z) := by
  obtain ⟨t, hm⟩ := hm
  exact ⟨_, .str z, hm, ⟨t, rfl⟩, fun G => .str z⟩
theorem fun_of {x qual : Str} {st : Stmt} {f : Addr} {fd : FuncData} (F : FunD K x qual (defArgs st) (defBody st) (defScope st) [] [] f fd) : Fun K x qual st f fd := by
  obtain ⟨oc, od, dV, kV, doc, pm, an, cdv, ct, osl, rfl, lk, hcd, hD, _⟩ := F.ex
  rcases hD with ⟨_, rfl⟩ | ⟨e, _⟩
  · exact ⟨⟨oc, od, kV, doc, pm, an, cdv, ct, osl, rfl, lk, hcd⟩, F.kp⟩
  · exact absurd rfl e
theorem kwbind {x qual p1 p2 : Str} {st : Stmt} {f : Addr} {fd : FuncData} (F : FunD K x qual (defArgs st) (defBody st) (defScope st) [] [] f fd)
    (hb : ∀ (kV doc pm : Value) (an : Option Addr) (cdv ct u v : Value), bindArgs (PySem.W.fnOf x qual (defArgs st) (defBody st) (defScope st) .none kV doc pm an cdv ct) ⟨[], [(p2, u), (p1, v)]⟩ = pure [(p1, v), (p2, u)]) (u v : Value) : bindArgs fd ⟨[], [(p2, u), (p1, v)]⟩ = pure [(p1, v), (p2, u)] := by
  obtain ⟨oc, od, dV, kV, doc, pm, an, cdv, ct, osl, rfl, lk, hcd, hD, _⟩ := F.ex
  rcases hD with ⟨_, rfl⟩ | ⟨e, _⟩
  · exact hb kV doc pm an cdv ct u v
  · exact absurd rfl e
theorem get_of (c : SaysX K) : ∃ fd, Fun K "parts" "Works.parts" s_Parts (getA K) fd ∧ PropOf K (He.ga K "Works") "parts" (propA K) (getA K) := by
  obtain ⟨pb, gb⟩ := He.ba (He.ba (He.ba c.x).2).2
  obtain ⟨p1, p2⟩ := He.ba pb
  obtain ⟨p3, p4⟩ := He.ba p2
  obtain ⟨p5, p6⟩ := He.ba p4
  obtain ⟨g1, g2⟩ := He.ba gb
  have g3 := c.g
  have hrec : ∃ rest, PySem.W.recIn K (propA K) "property" = some (.ref (getA K) :: rest) := by
    unfold recB at p6
    unfold getA
    split at p6
    · rename_i g r e
      rw [e]
      exact ⟨r, rfl⟩
    · cases p6
  unfold getW at g3
  cases q : K.lookup (getA K) with
  | none => rw [q] at g3; cases g3
  | some o =>
    obtain ⟨oc, od, dt, osl⟩ := o
    rw [q] at g3 g2
    cases dt with
    | func fd =>
      obtain ⟨n1, n2, n3, n4, n5, n6, n7, n8, n9, n10, n11, n12, n13, n14, n15⟩ := fd
      have e2 : (some (n1, n2, n3, n4, n5, n6, n7, n15) : He.FnW) = (some ("parts", "Works.parts", defArgs s_Parts, .stmts (defBody s_Parts), defScope s_Parts, mainGlobals, [], builtinsNs) : He.FnW) := g3
      simp only [Option.some.injEq, Prod.mk.injEq] at e2
      obtain ⟨h1, h2, h3, h4, h5, h6, h7, h8⟩ := e2
      subst h1 h2 h3 h4 h5 h6 h7 h8
      have c3 : (PySem.W.codeIn K n13 "Works.parts" && noneB n8) = true := g2
      obtain ⟨k1, k2⟩ := He.ba c3
      cases n8 with
      | none => exact ⟨_, ⟨⟨oc, od, n9, n10, n11, n12, n13, n14, osl, rfl, q, k1⟩, g1⟩, ⟨He.eqO_ok p1, He.eqO_ok p3, of_decide_eq_true p5, hrec⟩⟩
      | _ => cases k2
    | _ => cases g2
theorem wk_by (X : K.In h) (c : SaysX K) (T : Tx K mg (He.ga K "Works")) (c1 : (He.Fa.cls "Works").ok K = true) (c2 : (He.Fa.noat "Works" "heads").ok K = true) (c3 : (He.Fa.noat "Works" "roads").ok K = true) (c4 : (He.Fa.noat "Works" "pushed").ok K = true) (c5 : (He.Fa.meth "Works" "__len__").ok K = true)
    (F : ∃ fd, FunD K D_Len.name D_Len.qual D_Len.params D_Len.body D_Len.scope (D_Len.dvs K) (D_Len.kws K) (He.fAd K D_Len.at_) fd) : WorkK P w K mg base (He.ga K "Works") := by
  obtain ⟨fd, FL⟩ := F
  obtain ⟨m1, m2⟩ := He.ba c5
  obtain ⟨m3, _⟩ := He.ba m2
  obtain ⟨fg, Fg, hp⟩ := get_of c
  have C := He.cls_ok c1
  refine ⟨C, He.eqO_ok c2, He.eqO_ok c3, He.eqO_ok c4, ⟨_, _, fg, hp, parts_ok Fg C (He.eqO_ok c2), Fg.binds fun _ _ _ _ _ _ us hl => match us, hl with | [_], _ => rfl⟩,
    ⟨_, fd, He.eqO_ok m1, m3, len_ok (fun_of FL) C (He.eqO_ok c2) T.len, FunD.bindsN FL fun _ _ _ _ _ _ us hl => match us, hl with | [_], _ => rfl⟩⟩
theorem works_by (X : K.In h) (G : h.Ns mainGlobals mg) (T : Tx K mg (He.ga K "Works")) (c_wrong_part : Cal P w K mg base "wrong_part" 2 ["parts"] (spD K (He.ga K "Works") pre_wrong_part post_wrong_part)) (c_wrong_tie : Cal P w K mg base "wrong_tie" 2 ["parts", "ties"] (spD K (He.ga K "Works") pre_wrong_tie post_wrong_tie))
    (c6 : (He.Fa.mkr "Works").ok K = true) (c7 : (He.Fa.glo "Works").ok K = true) (c1 : (He.Fa.cls "Works").ok K = true) (c2 : (He.Fa.noat "Works" "heads").ok K = true) (c3 : (He.Fa.noat "Works" "roads").ok K = true) (c4 : (He.Fa.noat "Works" "pushed").ok K = true)
    (F : ∃ fd, FunD K D_Init.name D_Init.qual D_Init.params D_Init.body D_Init.scope (D_Init.dvs K) (D_Init.kws K) (He.fAd K D_Init.at_) fd) : CalM P w K mg base (He.ga K "Works") "Works" 3 ["self", "parts", "ties"] preWorks mkPushed := by
  obtain ⟨fd, FI⟩ := F
  obtain ⟨q1, q2⟩ := He.ba c6
  obtain ⟨q3, q4⟩ := He.ba q2
  obtain ⟨q5, q6⟩ := He.ba q4
  refine ⟨_, fd, ⟨q1, He.eqO_ok q3, q5, q6⟩, init_ok FI T c_wrong_part c_wrong_tie (He.cls_ok c1) (He.eqO_ok c2) (He.eqO_ok c3) (He.eqO_ok c4), He.glo_ok X G c7, ?_⟩
  obtain ⟨ds, rd, hb⟩ := FunD.binds1 (ps := ["self", "parts", "ties"]) FI 3 1 (fun z => nomatch z) rfl fun T kV doc pm an cdv ct us its h1 h2 => match us, its, h1, h2 with | [_, _, _], [_], _, _ => ⟨_, rfl, rfl⟩
  have e : ds = [] := by
    have hl := rd.length
    exact List.length_eq_zero_iff.mp hl.symm
  subst e
  exact hb
end

section
variable {P : Program} {w : World} {K : PySem.W.Frag} {h : Heap} {mg : Str → Option Value} {f : Addr}
theorem tx_of (X : K.In h) (G : h.Ns mainGlobals mg) (c : SaysX K) : Tx K mg (He.ga K "Works") where
  len := He.free_ok X G (c.1.fact 60 (f := .free "len") rfl)
  range := He.free_ok X G (c.1.fact 61 (f := .free "range") rfl)
  enumerate := He.free_ok X G (c.1.fact 62 (f := .free "enumerate") rfl)
  zip := He.free_ok X G (c.1.fact 63 (f := .free "zip") rfl)
  isinstance := He.free_ok X G (c.1.fact 64 (f := .free "isinstance") rfl)
  int := He.free_ok X G (c.1.fact 65 (f := .free "int") rfl)
  bool := He.free_ok X G (c.1.fact 66 (f := .free "bool") rfl)
  str := He.free_ok X G (c.1.fact 67 (f := .free "str") rfl)
  tuple := He.free_ok X G (c.1.fact 68 (f := .free "tuple") rfl)
  list := He.free_ok X G (c.1.fact 69 (f := .free "list") rfl)
  abs := He.free_ok X G (c.1.fact 70 (f := .free "abs") rfl)
  all := He.free_ok X G (c.1.fact 71 (f := .free "all") rfl)
  any := He.free_ok X G (c.1.fact 72 (f := .free "any") rfl)
  sum := He.free_ok X G (c.1.fact 73 (f := .free "sum") rfl)
  max := He.free_ok X G (c.1.fact 74 (f := .free "max") rfl)
  min := He.free_ok X G (c.1.fact 75 (f := .free "min") rfl)
  divmod := He.free_ok X G (c.1.fact 76 (f := .free "divmod") rfl)
  repr := He.free_ok X G (c.1.fact 77 (f := .free "repr") rfl)
  d_NOUGHT := data_tup (He.glo_ok X G (c.1.fact 83 (f := .glo "NOUGHT") rfl)) (c.ta)
  d_ONE := data_tup (He.glo_ok X G (c.1.fact 84 (f := .glo "ONE") rfl)) (c.tb)
  d_MOST_PARTS := data_int (He.int_ok X G (c.1.fact 78 (f := .int "MOST_PARTS" 8) rfl))
  d_MOST_STRENGTH := data_int (He.int_ok X G (c.1.fact 79 (f := .int "MOST_STRENGTH" 1000000) rfl))
  d_LONGEST_NAME := data_int (He.int_ok X G (c.1.fact 80 (f := .int "LONGEST_NAME" 8) rfl))
  d_LETTERS := data_str (He.str_ok X G (c.1.fact 81 (f := .str "LETTERS" "abcdefghijklmnopqrstuvwxyz") rfl))
  d_DIGITS := data_str (He.str_ok X G (c.1.fact 82 (f := .str "DIGITS" "0123456789") rfl))
theorem wk_of (X : K.In h) (G : h.Ns mainGlobals mg) (c : SaysX K) (T : Tx K mg (He.ga K "Works")) (base : Heap) : WorkK P w K mg base (He.ga K "Works") := wk_by X c T (c.1.fact 86 (f := .cls "Works") rfl) (c.1.fact 87 (f := .noat "Works" "heads") rfl) (c.1.fact 88 (f := .noat "Works" "roads") rfl) (c.1.fact 89 (f := .noat "Works" "pushed") rfl) (c.1.fact 90 (f := .meth "Works" "__len__") rfl) (c.1.def_ 61 (d := D_Len) rfl)
set_option maxHeartbeats 4000000 in
theorem promises (X : K.In h) (G : h.Ns mainGlobals mg) (hfa : mg ("law" : Str) = some (.ref f)) (c : SaysX K) : ∃ fd : FuncData, (∀ (s : Shared) (v : Value), BindsTo s fd ⟨[v], []⟩ [("_law_cells", v)]) ∧ ∀ base : Heap, K.In base → base.Ns mainGlobals mg → FnG P w K mg base 13 f fd ["_law_cells"] (spD K (He.ga K "Works") pre_law post_law) := by
  have T := tx_of X G c
  obtain ⟨fd_is_integer, F_is_integer⟩ := c.1.def_ 0 (d := D_is_integer) rfl
  obtain ⟨fd_is_within, F_is_within⟩ := c.1.def_ 1 (d := D_is_within) rfl
  obtain ⟨fd_is_name, F_is_name⟩ := c.1.def_ 2 (d := D_is_name) rfl
  obtain ⟨fd_wrong_part, F_wrong_part⟩ := c.1.def_ 3 (d := D_wrong_part) rfl
  obtain ⟨fd_is_pair, F_is_pair⟩ := c.1.def_ 4 (d := D_is_pair) rfl
  obtain ⟨fd_wrong_tie, F_wrong_tie⟩ := c.1.def_ 5 (d := D_wrong_tie) rfl
  obtain ⟨fd_read_works, F_read_works⟩ := c.1.def_ 6 (d := D_read_works) rfl
  obtain ⟨fd_wrong_leader, F_wrong_leader⟩ := c.1.def_ 7 (d := D_wrong_leader) rfl
  obtain ⟨fd_is_strong_row, F_is_strong_row⟩ := c.1.def_ 8 (d := D_is_strong_row) rfl
  obtain ⟨fd_wrong_row, F_wrong_row⟩ := c.1.def_ 9 (d := D_wrong_row) rfl
  obtain ⟨fd_is_bar_row, F_is_bar_row⟩ := c.1.def_ 10 (d := D_is_bar_row) rfl
  obtain ⟨fd_reduced, F_reduced⟩ := c.1.def_ 11 (d := D_reduced) rfl
  obtain ⟨fd_plus, F_plus⟩ := c.1.def_ 12 (d := D_plus) rfl
  obtain ⟨fd_minus, F_minus⟩ := c.1.def_ 13 (d := D_minus) rfl
  obtain ⟨fd_times, F_times⟩ := c.1.def_ 14 (d := D_times) rfl
  obtain ⟨fd_over, F_over⟩ := c.1.def_ 15 (d := D_over) rfl
  obtain ⟨fd_is_fraction, F_is_fraction⟩ := c.1.def_ 16 (d := D_is_fraction) rfl
  obtain ⟨fd_product_sum, F_product_sum⟩ := c.1.def_ 17 (d := D_product_sum) rfl
  obtain ⟨fd_less_part, F_less_part⟩ := c.1.def_ 18 (d := D_less_part) rfl
  obtain ⟨fd_stepped, F_stepped⟩ := c.1.def_ 19 (d := D_stepped) rfl
  obtain ⟨fd_rank_of, F_rank_of⟩ := c.1.def_ 20 (d := D_rank_of) rfl
  obtain ⟨fd_pushed_rows, F_pushed_rows⟩ := c.1.def_ 21 (d := D_pushed_rows) rfl
  obtain ⟨fd_rank_by, F_rank_by⟩ := c.1.def_ 22 (d := D_rank_by) rfl
  obtain ⟨fd_wrong_fraction, F_wrong_fraction⟩ := c.1.def_ 23 (d := D_wrong_fraction) rfl
  obtain ⟨fd_day_of, F_day_of⟩ := c.1.def_ 24 (d := D_day_of) rfl
  obtain ⟨fd_state_after, F_state_after⟩ := c.1.def_ 25 (d := D_state_after) rfl
  obtain ⟨fd_bar_shown, F_bar_shown⟩ := c.1.def_ 26 (d := D_bar_shown) rfl
  obtain ⟨fd_lot_shown, F_lot_shown⟩ := c.1.def_ 27 (d := D_lot_shown) rfl
  obtain ⟨fd_way_shown, F_way_shown⟩ := c.1.def_ 28 (d := D_way_shown) rfl
  obtain ⟨fd_accepts, F_accepts⟩ := c.1.def_ 29 (d := D_accepts) rfl
  obtain ⟨fd_l_keg, F_l_keg⟩ := c.1.def_ 30 (d := D_l_keg) rfl
  obtain ⟨fd_l_tap, F_l_tap⟩ := c.1.def_ 31 (d := D_l_tap) rfl
  obtain ⟨fd_l_pick, F_l_pick⟩ := c.1.def_ 32 (d := D_l_pick) rfl
  obtain ⟨fd_l_mixed, F_l_mixed⟩ := c.1.def_ 33 (d := D_l_mixed) rfl
  obtain ⟨fd_l_crew, F_l_crew⟩ := c.1.def_ 34 (d := D_l_crew) rfl
  obtain ⟨fd_l_roads, F_l_roads⟩ := c.1.def_ 35 (d := D_l_roads) rfl
  obtain ⟨fd_l_heads, F_l_heads⟩ := c.1.def_ 36 (d := D_l_heads) rfl
  obtain ⟨fd_l_page, F_l_page⟩ := c.1.def_ 37 (d := D_l_page) rfl
  obtain ⟨fd_l_pushed, F_l_pushed⟩ := c.1.def_ 38 (d := D_l_pushed) rfl
  obtain ⟨fd_l_alone, F_l_alone⟩ := c.1.def_ 39 (d := D_l_alone) rfl
  obtain ⟨fd_l_game, F_l_game⟩ := c.1.def_ 40 (d := D_l_game) rfl
  obtain ⟨fd_l_table, F_l_table⟩ := c.1.def_ 41 (d := D_l_table) rfl
  obtain ⟨fd_l_cut, F_l_cut⟩ := c.1.def_ 42 (d := D_l_cut) rfl
  obtain ⟨fd_l_free, F_l_free⟩ := c.1.def_ 43 (d := D_l_free) rfl
  obtain ⟨fd_l_come, F_l_come⟩ := c.1.def_ 44 (d := D_l_come) rfl
  obtain ⟨fd_l_does_steer, F_l_does_steer⟩ := c.1.def_ 45 (d := D_l_does_steer) rfl
  obtain ⟨fd_l_asked, F_l_asked⟩ := c.1.def_ 46 (d := D_l_asked) rfl
  obtain ⟨fd_l_barring, F_l_barring⟩ := c.1.def_ 47 (d := D_l_barring) rfl
  obtain ⟨fd_l_low, F_l_low⟩ := c.1.def_ 48 (d := D_l_low) rfl
  obtain ⟨fd_l_add, F_l_add⟩ := c.1.def_ 49 (d := D_l_add) rfl
  obtain ⟨fd_l_fold, F_l_fold⟩ := c.1.def_ 50 (d := D_l_fold) rfl
  obtain ⟨fd_l_after_day, F_l_after_day⟩ := c.1.def_ 51 (d := D_l_after_day) rfl
  obtain ⟨fd_l_come_to, F_l_come_to⟩ := c.1.def_ 52 (d := D_l_come_to) rfl
  obtain ⟨fd_l_wide_share, F_l_wide_share⟩ := c.1.def_ 53 (d := D_l_wide_share) rfl
  obtain ⟨fd_l_edge, F_l_edge⟩ := c.1.def_ 54 (d := D_l_edge) rfl
  obtain ⟨fd_l_bar_right, F_l_bar_right⟩ := c.1.def_ 55 (d := D_l_bar_right) rfl
  obtain ⟨fd_l_edge_right, F_l_edge_right⟩ := c.1.def_ 56 (d := D_l_edge_right) rfl
  obtain ⟨fd_l_way_right, F_l_way_right⟩ := c.1.def_ 57 (d := D_l_way_right) rfl
  obtain ⟨fd_l_right, F_l_right⟩ := c.1.def_ 58 (d := D_l_right) rfl
  obtain ⟨fd_law, F_law⟩ := c.1.def_ 59 (d := D_law) rfl
  have e := hfa.symm.trans (He.glo_ok X G (c.1.fact 59 (f := .glo "law") rfl))
  cases e
  have bL := FunD.bindsA (ps := ["_law_cells"]) F_law fun _ _ _ _ _ _ us hl => match us, hl with | [_], _ => rfl
  refine ⟨fd_law, fun s v => bL s [v] rfl, fun base hKb hNs => ?_⟩
  have W : WorkK P w K mg base (He.ga K "Works") := wk_of X G c T base
  have c_l_keg : Cal P w K mg base "_law_keg" 1 ["_law_cells", "_law_at"] (spF K (He.ga K "Works") pre_l_keg post_l_keg) := ⟨_, fd_l_keg, fnF (fun_of F_l_keg) sc_l_keg (pd_l_keg T) wp_l_keg, He.glo_ok X G (c.1.fact 30 (f := .glo "_law_keg") rfl), F_l_keg.kp, FunD.bindsN F_l_keg fun _ _ _ _ _ _ us hl => match us, hl with | [_, _], _ => rfl⟩
  have c_is_name : Cal P w K mg base "is_name" 1 ["value"] (spD K (He.ga K "Works") pre_is_name post_is_name) := ⟨_, fd_is_name, fnD (fun_of F_is_name) sc_is_name (pd_is_name T) wp_is_name, He.glo_ok X G (c.1.fact 2 (f := .glo "is_name") rfl), F_is_name.kp, FunD.bindsN F_is_name fun _ _ _ _ _ _ us hl => match us, hl with | [_], _ => rfl⟩
  have c_wrong_part : Cal P w K mg base "wrong_part" 2 ["parts"] (spD K (He.ga K "Works") pre_wrong_part post_wrong_part) := ⟨_, fd_wrong_part, fnD (fun_of F_wrong_part) sc_wrong_part (pd_wrong_part T c_is_name) wp_wrong_part, He.glo_ok X G (c.1.fact 3 (f := .glo "wrong_part") rfl), F_wrong_part.kp, FunD.bindsN F_wrong_part fun _ _ _ _ _ _ us hl => match us, hl with | [_], _ => rfl⟩
  have c_is_pair : Cal P w K mg base "is_pair" 1 ["parts", "value"] (spD K (He.ga K "Works") pre_is_pair post_is_pair) := ⟨_, fd_is_pair, fnD (fun_of F_is_pair) sc_is_pair (pd_is_pair T) wp_is_pair, He.glo_ok X G (c.1.fact 4 (f := .glo "is_pair") rfl), F_is_pair.kp, FunD.bindsN F_is_pair fun _ _ _ _ _ _ us hl => match us, hl with | [_, _], _ => rfl⟩
  have c_wrong_tie : Cal P w K mg base "wrong_tie" 2 ["parts", "ties"] (spD K (He.ga K "Works") pre_wrong_tie post_wrong_tie) := ⟨_, fd_wrong_tie, fnD (fun_of F_wrong_tie) sc_wrong_tie (pd_wrong_tie T c_is_pair) wp_wrong_tie, He.glo_ok X G (c.1.fact 5 (f := .glo "wrong_tie") rfl), F_wrong_tie.kp, FunD.bindsN F_wrong_tie fun _ _ _ _ _ _ us hl => match us, hl with | [_, _], _ => rfl⟩
  have c_Works : CalM P w K mg base (He.ga K "Works") "Works" 3 ["self", "parts", "ties"] preWorks mkPushed := works_by X G T c_wrong_part c_wrong_tie (c.1.fact 91 (f := .mkr "Works") rfl) (c.1.fact 85 (f := .glo "Works") rfl) (c.1.fact 86 (f := .cls "Works") rfl) (c.1.fact 87 (f := .noat "Works" "heads") rfl) (c.1.fact 88 (f := .noat "Works" "roads") rfl) (c.1.fact 89 (f := .noat "Works" "pushed") rfl) (c.1.def_ 60 (d := D_Init) rfl)
  have c_is_integer : Cal P w K mg base "is_integer" 1 ["value"] (spD K (He.ga K "Works") pre_is_integer post_is_integer) := ⟨_, fd_is_integer, fnD (fun_of F_is_integer) sc_is_integer (pd_is_integer T) wp_is_integer, He.glo_ok X G (c.1.fact 0 (f := .glo "is_integer") rfl), F_is_integer.kp, FunD.bindsN F_is_integer fun _ _ _ _ _ _ us hl => match us, hl with | [_], _ => rfl⟩
  have c_is_bar_row : Cal P w K mg base "is_bar_row" 2 ["strengths", "row", "value"] (spD K (He.ga K "Works") pre_is_bar_row post_is_bar_row) := ⟨_, fd_is_bar_row, fnD (fun_of F_is_bar_row) sc_is_bar_row (pd_is_bar_row T c_is_integer) wp_is_bar_row, He.glo_ok X G (c.1.fact 10 (f := .glo "is_bar_row") rfl), F_is_bar_row.kp, FunD.bindsN F_is_bar_row fun _ _ _ _ _ _ us hl => match us, hl with | [_, _, _], _ => rfl⟩
  have c_is_within : Cal P w K mg base "is_within" 2 ["value", "least", "most"] (spD K (He.ga K "Works") pre_is_within post_is_within) := ⟨_, fd_is_within, fnD (fun_of F_is_within) sc_is_within (pd_is_within T c_is_integer) wp_is_within, He.glo_ok X G (c.1.fact 1 (f := .glo "is_within") rfl), F_is_within.kp, FunD.bindsN F_is_within fun _ _ _ _ _ _ us hl => match us, hl with | [_, _, _], _ => rfl⟩
  have c_is_strong_row : Cal P w K mg base "is_strong_row" 3 ["works", "at", "value"] (spD K (He.ga K "Works") pre_is_strong_row post_is_strong_row) := ⟨_, fd_is_strong_row, fnD (fun_of F_is_strong_row) sc_is_strong_row (pd_is_strong_row T W c_is_within) wp_is_strong_row, He.glo_ok X G (c.1.fact 8 (f := .glo "is_strong_row") rfl), F_is_strong_row.kp, FunD.bindsN F_is_strong_row fun _ _ _ _ _ _ us hl => match us, hl with | [_, _, _], _ => rfl⟩
  have c_wrong_row : Cal P w K mg base "wrong_row" 4 ["works", "strengths"] (spD K (He.ga K "Works") pre_wrong_row post_wrong_row) := ⟨_, fd_wrong_row, fnD (fun_of F_wrong_row) sc_wrong_row (pd_wrong_row T W c_is_strong_row) wp_wrong_row, He.glo_ok X G (c.1.fact 9 (f := .glo "wrong_row") rfl), F_wrong_row.kp, FunD.bindsN F_wrong_row fun _ _ _ _ _ _ us hl => match us, hl with | [_, _], _ => rfl⟩
  have c_bar_shown : Cal P w K mg base "bar_shown" 5 ["works", "row", "certificate"] (spD K (He.ga K "Works") pre_bar_shown post_bar_shown) := ⟨_, fd_bar_shown, fnD (fun_of F_bar_shown) sc_bar_shown (pd_bar_shown T c_is_bar_row c_wrong_row) wp_bar_shown, He.glo_ok X G (c.1.fact 26 (f := .glo "bar_shown") rfl), F_bar_shown.kp, FunD.bindsN F_bar_shown fun _ _ _ _ _ _ us hl => match us, hl with | [_, _, _], _ => rfl⟩
  have c_reduced : Cal P w K mg base "reduced" 1 ["top", "bottom"] (spD K (He.ga K "Works") pre_reduced post_reduced) := ⟨_, fd_reduced, fnD (fun_of F_reduced) sc_reduced (pd_reduced T) wp_reduced, He.glo_ok X G (c.1.fact 11 (f := .glo "reduced") rfl), F_reduced.kp, FunD.bindsN F_reduced fun _ _ _ _ _ _ us hl => match us, hl with | [_, _], _ => rfl⟩
  have c_plus : Cal P w K mg base "plus" 2 ["one", "other"] (spD K (He.ga K "Works") pre_plus post_plus) := ⟨_, fd_plus, fnD (fun_of F_plus) sc_plus (pd_plus T c_reduced) wp_plus, He.glo_ok X G (c.1.fact 12 (f := .glo "plus") rfl), F_plus.kp, FunD.bindsN F_plus fun _ _ _ _ _ _ us hl => match us, hl with | [_, _], _ => rfl⟩
  have c_times : Cal P w K mg base "times" 2 ["one", "other"] (spD K (He.ga K "Works") pre_times post_times) := ⟨_, fd_times, fnD (fun_of F_times) sc_times (pd_times T c_reduced) wp_times, He.glo_ok X G (c.1.fact 14 (f := .glo "times") rfl), F_times.kp, FunD.bindsN F_times fun _ _ _ _ _ _ us hl => match us, hl with | [_, _], _ => rfl⟩
  have c_product_sum : Cal P w K mg base "product_sum" 3 ["one", "other"] (spD K (He.ga K "Works") pre_product_sum post_product_sum) := ⟨_, fd_product_sum, fnD (fun_of F_product_sum) sc_product_sum (pd_product_sum T c_plus c_times) wp_product_sum, He.glo_ok X G (c.1.fact 17 (f := .glo "product_sum") rfl), F_product_sum.kp, FunD.bindsN F_product_sum fun _ _ _ _ _ _ us hl => match us, hl with | [_, _], _ => rfl⟩
  have c_pushed_rows : Cal P w K mg base "pushed_rows" 4 ["works", "strengths", "row"] (spD K (He.ga K "Works") pre_pushed_rows post_pushed_rows) := ⟨_, fd_pushed_rows, fnD (fun_of F_pushed_rows) sc_pushed_rows (pd_pushed_rows T W c_product_sum) wp_pushed_rows, He.glo_ok X G (c.1.fact 21 (f := .glo "pushed_rows") rfl), F_pushed_rows.kp, FunD.bindsN F_pushed_rows fun _ _ _ _ _ _ us hl => match us, hl with | [_, _, _], _ => rfl⟩
  have c_minus : Cal P w K mg base "minus" 3 ["one", "other"] (spD K (He.ga K "Works") pre_minus post_minus) := ⟨_, fd_minus, fnD (fun_of F_minus) sc_minus (pd_minus T c_plus) wp_minus, He.glo_ok X G (c.1.fact 13 (f := .glo "minus") rfl), F_minus.kp, FunD.bindsN F_minus fun _ _ _ _ _ _ us hl => match us, hl with | [_, _], _ => rfl⟩
  have c_less_part : Cal P w K mg base "less_part" 4 ["row", "part", "other"] (spD K (He.ga K "Works") pre_less_part post_less_part) := ⟨_, fd_less_part, fnD (fun_of F_less_part) sc_less_part (pd_less_part T c_minus c_times) wp_less_part, He.glo_ok X G (c.1.fact 18 (f := .glo "less_part") rfl), F_less_part.kp, FunD.bindsN F_less_part fun _ _ _ _ _ _ us hl => match us, hl with | [_, _, _], _ => rfl⟩
  have c_over : Cal P w K mg base "over" 2 ["one", "other"] (spD K (He.ga K "Works") pre_over post_over) := ⟨_, fd_over, fnD (fun_of F_over) sc_over (pd_over T c_reduced) wp_over, He.glo_ok X G (c.1.fact 15 (f := .glo "over") rfl), F_over.kp, FunD.bindsN F_over fun _ _ _ _ _ _ us hl => match us, hl with | [_, _], _ => rfl⟩
  have c_stepped : Cal P w K mg base "stepped" 5 ["rows", "width"] (spD K (He.ga K "Works") pre_stepped post_stepped) := ⟨_, fd_stepped, fnD (fun_of F_stepped) sc_stepped (pd_stepped T c_less_part c_over) wp_stepped, He.glo_ok X G (c.1.fact 19 (f := .glo "stepped") rfl), F_stepped.kp, FunD.bindsN F_stepped fun _ _ _ _ _ _ us hl => match us, hl with | [_, _], _ => rfl⟩
  have c_rank_of : Cal P w K mg base "rank_of" 6 ["rows", "width"] (spD K (He.ga K "Works") pre_rank_of post_rank_of) := ⟨_, fd_rank_of, fnD (fun_of F_rank_of) sc_rank_of (pd_rank_of T c_stepped) wp_rank_of, He.glo_ok X G (c.1.fact 20 (f := .glo "rank_of") rfl), F_rank_of.kp, FunD.bindsN F_rank_of fun _ _ _ _ _ _ us hl => match us, hl with | [_, _], _ => rfl⟩
  have c_rank_by : Cal P w K mg base "rank_by" 7 ["works", "strengths", "row"] (spD K (He.ga K "Works") pre_rank_by post_rank_by) := ⟨_, fd_rank_by, fnD (fun_of F_rank_by) sc_rank_by (pd_rank_by T W c_pushed_rows c_rank_of) wp_rank_by, He.glo_ok X G (c.1.fact 22 (f := .glo "rank_by") rfl), F_rank_by.kp, FunD.bindsN F_rank_by fun _ _ _ _ _ _ us hl => match us, hl with | [_, _, _], _ => rfl⟩
  have c_wrong_leader : Cal P w K mg base "wrong_leader" 1 ["parts", "leaders"] (spD K (He.ga K "Works") pre_wrong_leader post_wrong_leader) := ⟨_, fd_wrong_leader, fnD (fun_of F_wrong_leader) sc_wrong_leader (pd_wrong_leader T) wp_wrong_leader, He.glo_ok X G (c.1.fact 7 (f := .glo "wrong_leader") rfl), F_wrong_leader.kp, FunD.bindsN F_wrong_leader fun _ _ _ _ _ _ us hl => match us, hl with | [_, _], _ => rfl⟩
  have c_lot_shown : Cal P w K mg base "lot_shown" 8 ["works", "claim", "certificate"] (spD K (He.ga K "Works") pre_lot_shown post_lot_shown) := ⟨_, fd_lot_shown, fnD (fun_of F_lot_shown) sc_lot_shown (pd_lot_shown T W c_bar_shown c_rank_by c_wrong_leader c_wrong_row) wp_lot_shown, He.glo_ok X G (c.1.fact 27 (f := .glo "lot_shown") rfl), F_lot_shown.kp, FunD.bindsN F_lot_shown fun _ _ _ _ _ _ us hl => match us, hl with | [_, _, _], _ => rfl⟩
  have c_read_works : Cal P w K mg base "read_works" 3 ["text"] (spD K (He.ga K "Works") pre_read_works post_read_works) := ⟨_, fd_read_works, fnD (fun_of F_read_works) sc_read_works (pd_read_works T c_wrong_part c_wrong_tie) wp_read_works, He.glo_ok X G (c.1.fact 6 (f := .glo "read_works") rfl), F_read_works.kp, FunD.bindsN F_read_works fun _ _ _ _ _ _ us hl => match us, hl with | [_], _ => rfl⟩
  have c_day_of : Cal P w K mg base "day_of" 4 ["strengths", "row", "state", "push"] (spD K (He.ga K "Works") pre_day_of post_day_of) := ⟨_, fd_day_of, fnD (fun_of F_day_of) sc_day_of (pd_day_of T c_plus c_product_sum) wp_day_of, He.glo_ok X G (c.1.fact 24 (f := .glo "day_of") rfl), F_day_of.kp, FunD.bindsN F_day_of fun _ _ _ _ _ _ us hl => match us, hl with | [_, _, _, _], _ => rfl⟩
  have c_state_after : Cal P w K mg base "state_after" 5 ["strengths", "row", "state", "pushes"] (spD K (He.ga K "Works") pre_state_after post_state_after) := ⟨_, fd_state_after, fnD (fun_of F_state_after) sc_state_after (pd_state_after T c_day_of) wp_state_after, He.glo_ok X G (c.1.fact 25 (f := .glo "state_after") rfl), F_state_after.kp, FunD.bindsN F_state_after fun _ _ _ _ _ _ us hl => match us, hl with | [_, _, _, _], _ => rfl⟩
  have c_is_fraction : Cal P w K mg base "is_fraction" 2 ["value"] (spD K (He.ga K "Works") pre_is_fraction post_is_fraction) := ⟨_, fd_is_fraction, fnD (fun_of F_is_fraction) sc_is_fraction (pd_is_fraction T c_is_integer c_reduced) wp_is_fraction, He.glo_ok X G (c.1.fact 16 (f := .glo "is_fraction") rfl), F_is_fraction.kp, FunD.bindsN F_is_fraction fun _ _ _ _ _ _ us hl => match us, hl with | [_], _ => rfl⟩
  have c_wrong_fraction : Cal P w K mg base "wrong_fraction" 3 ["value", "count"] (spD K (He.ga K "Works") pre_wrong_fraction post_wrong_fraction) := ⟨_, fd_wrong_fraction, fnD (fun_of F_wrong_fraction) sc_wrong_fraction (pd_wrong_fraction T c_is_fraction) wp_wrong_fraction, He.glo_ok X G (c.1.fact 23 (f := .glo "wrong_fraction") rfl), F_wrong_fraction.kp, FunD.bindsN F_wrong_fraction fun _ _ _ _ _ _ us hl => match us, hl with | [_, _], _ => rfl⟩
  have c_way_shown : Cal P w K mg base "way_shown" 6 ["works", "claim", "certificate"] (spD K (He.ga K "Works") pre_way_shown post_way_shown) := ⟨_, fd_way_shown, fnD (fun_of F_way_shown) sc_way_shown (pd_way_shown T W c_state_after c_wrong_fraction c_wrong_leader c_wrong_row) wp_way_shown, He.glo_ok X G (c.1.fact 28 (f := .glo "way_shown") rfl), F_way_shown.kp, FunD.bindsN F_way_shown fun _ _ _ _ _ _ us hl => match us, hl with | [_, _, _], _ => rfl⟩
  have c_accepts : Cal P w K mg base "accepts" 9 ["claim", "certificate"] (spD K (He.ga K "Works") pre_accepts post_accepts) := ⟨_, fd_accepts, fnD (fun_of F_accepts) sc_accepts (pd_accepts T c_Works c_lot_shown c_read_works c_way_shown) wp_accepts, He.glo_ok X G (c.1.fact 29 (f := .glo "accepts") rfl), F_accepts.kp, FunD.bindsN F_accepts fun _ _ _ _ _ _ us hl => match us, hl with | [_, _], _ => rfl⟩
  have cS_accepts : CalS P w K mg base "accepts" 9 "claim" "certificate" (spD K (He.ga K "Works") pre_accepts post_accepts) := ⟨_, fd_accepts, fnD (fun_of F_accepts) sc_accepts (pd_accepts T c_Works c_lot_shown c_read_works c_way_shown) wp_accepts, He.glo_ok X G (c.1.fact 29 (f := .glo "accepts") rfl), F_accepts.kp, kwbind (st := s_accepts) F_accepts fun _ _ _ _ _ _ _ _ => rfl⟩
  have c_l_asked : CalG P w K mg base "_law_asked" 10 ["_law_said", "_law_paper_here"] (spD K (He.ga K "Works") pre_l_asked post_l_asked) := ⟨_, fd_l_asked, fnDG (fun_of F_l_asked) sc_l_asked (pd_l_asked T c_accepts cS_accepts) wp_l_asked, He.glo_ok X G (c.1.fact 46 (f := .glo "_law_asked") rfl), F_l_asked.kp, FunD.bindsN F_l_asked fun _ _ _ _ _ _ us hl => match us, hl with | [_, _], _ => rfl⟩
  have c_l_pushed : Cal P w K mg base "_law_pushed" 1 ["_law_roads_here", "_law_here"] (spD K (He.ga K "Works") pre_l_pushed post_l_pushed) := ⟨_, fd_l_pushed, fnD (fun_of F_l_pushed) sc_l_pushed (pd_l_pushed T) wp_l_pushed, He.glo_ok X G (c.1.fact 38 (f := .glo "_law_pushed") rfl), F_l_pushed.kp, FunD.bindsN F_l_pushed fun _ _ _ _ _ _ us hl => match us, hl with | [_, _], _ => rfl⟩
  have c_l_alone : Cal P w K mg base "_law_alone" 2 ["_law_roads_here", "_law_here", "_law_sure"] (spD K (He.ga K "Works") pre_l_alone post_l_alone) := ⟨_, fd_l_alone, fnD (fun_of F_l_alone) sc_l_alone (pd_l_alone T c_l_pushed) wp_l_alone, He.glo_ok X G (c.1.fact 39 (f := .glo "_law_alone") rfl), F_l_alone.kp, FunD.bindsN F_l_alone fun _ _ _ _ _ _ us hl => match us, hl with | [_, _, _], _ => rfl⟩
  have c_l_game : Cal P w K mg base "_law_game" 3 ["_law_crew_here", "_law_roads_here", "_law_heads_here"] (spD K (He.ga K "Works") pre_l_game post_l_game) := ⟨_, fd_l_game, fnD (fun_of F_l_game) sc_l_game (pd_l_game T c_l_alone) wp_l_game, He.glo_ok X G (c.1.fact 40 (f := .glo "_law_game") rfl), F_l_game.kp, FunD.bindsN F_l_game fun _ _ _ _ _ _ us hl => match us, hl with | [_, _, _], _ => rfl⟩
  have c_l_tap : Cal P w K mg base "_law_tap" 1 ["_law_keg_here", "_law_upto"] (spK K (He.ga K "Works") pre_l_tap post_l_tap) := ⟨_, fd_l_tap, fnK (fun_of F_l_tap) sc_l_tap (pd_l_tap T) wp_l_tap, He.glo_ok X G (c.1.fact 31 (f := .glo "_law_tap") rfl), F_l_tap.kp, FunD.bindsN F_l_tap fun _ _ _ _ _ _ us hl => match us, hl with | [_, _], _ => rfl⟩
  have c_l_pick : Cal P w K mg base "_law_pick" 2 ["_law_keg_here", "_law_things"] (spK K (He.ga K "Works") pre_l_pick post_l_pick) := ⟨_, fd_l_pick, fnK (fun_of F_l_pick) sc_l_pick (pd_l_pick T c_l_tap) wp_l_pick, He.glo_ok X G (c.1.fact 32 (f := .glo "_law_pick") rfl), F_l_pick.kp, FunD.bindsN F_l_pick fun _ _ _ _ _ _ us hl => match us, hl with | [_, _], _ => rfl⟩
  have c_l_table : Cal P w K mg base "_law_table" 3 ["_law_keg_here", "_law_crew_here", "_law_roads_here", "_law_far"] (spK K (He.ga K "Works") pre_l_table post_l_table) := ⟨_, fd_l_table, fnK (fun_of F_l_table) sc_l_table (pd_l_table T c_l_pick c_l_tap) wp_l_table, He.glo_ok X G (c.1.fact 41 (f := .glo "_law_table") rfl), F_l_table.kp, FunD.bindsN F_l_table fun _ _ _ _ _ _ us hl => match us, hl with | [_, _, _, _], _ => rfl⟩
  have c_l_barring : Cal P w K mg base "_law_barring" 4 ["_law_keg_here", "_law_crew_here", "_law_roads_here", "_law_heads_here"] (spK K (He.ga K "Works") pre_l_barring post_l_barring) := ⟨_, fd_l_barring, fnK (fun_of F_l_barring) sc_l_barring (pd_l_barring T c_l_game c_l_table c_l_tap) wp_l_barring, He.glo_ok X G (c.1.fact 47 (f := .glo "_law_barring") rfl), F_l_barring.kp, FunD.bindsN F_l_barring fun _ _ _ _ _ _ us hl => match us, hl with | [_, _, _, _], _ => rfl⟩
  have c_l_edge : Cal P w K mg base "_law_edge" 2 ["_law_keg_here", "_law_crew_here", "_law_roads_here", "_law_most_here"] (spK K (He.ga K "Works") pre_l_edge post_l_edge) := ⟨_, fd_l_edge, fnK (fun_of F_l_edge) sc_l_edge (pd_l_edge T c_l_tap) wp_l_edge, He.glo_ok X G (c.1.fact 54 (f := .glo "_law_edge") rfl), F_l_edge.kp, FunD.bindsN F_l_edge fun _ _ _ _ _ _ us hl => match us, hl with | [_, _, _, _], _ => rfl⟩
  have c_l_bar_right : CalG P w K mg base "_law_bar_right" 11 ["_law_keg_here", "_law_crew_here", "_law_roads_here", "_law_heads_here", "_law_page_here"] (spK K (He.ga K "Works") pre_l_bar_right post_l_bar_right) := ⟨_, fd_l_bar_right, fnKG (fun_of F_l_bar_right) sc_l_bar_right (pd_l_bar_right T c_l_asked c_l_barring c_l_edge c_l_game) wp_l_bar_right, He.glo_ok X G (c.1.fact 55 (f := .glo "_law_bar_right") rfl), F_l_bar_right.kp, FunD.bindsN F_l_bar_right fun _ _ _ _ _ _ us hl => match us, hl with | [_, _, _, _, _], _ => rfl⟩
  have c_l_mixed : Cal P w K mg base "_law_mixed" 2 ["_law_keg_here", "_law_things"] (spK K (He.ga K "Works") pre_l_mixed post_l_mixed) := ⟨_, fd_l_mixed, fnK (fun_of F_l_mixed) sc_l_mixed (pd_l_mixed T c_l_tap) wp_l_mixed, He.glo_ok X G (c.1.fact 33 (f := .glo "_law_mixed") rfl), F_l_mixed.kp, FunD.bindsN F_l_mixed fun _ _ _ _ _ _ us hl => match us, hl with | [_, _], _ => rfl⟩
  have c_l_crew : Cal P w K mg base "_law_crew" 3 ["_law_keg_here", "_law_least", "_law_most"] (spK K (He.ga K "Works") pre_l_crew post_l_crew) := ⟨_, fd_l_crew, fnK (fun_of F_l_crew) sc_l_crew (pd_l_crew T c_l_mixed c_l_tap) wp_l_crew, He.glo_ok X G (c.1.fact 34 (f := .glo "_law_crew") rfl), F_l_crew.kp, FunD.bindsN F_l_crew fun _ _ _ _ _ _ us hl => match us, hl with | [_, _, _], _ => rfl⟩
  have c_l_come : Cal P w K mg base "_law_come" 1 ["_law_table_here", "_law_spots", "_law_days_here"] (spD K (He.ga K "Works") pre_l_come post_l_come) := ⟨_, fd_l_come, fnD (fun_of F_l_come) sc_l_come (pd_l_come T) wp_l_come, He.glo_ok X G (c.1.fact 44 (f := .glo "_law_come") rfl), F_l_come.kp, FunD.bindsN F_l_come fun _ _ _ _ _ _ us hl => match us, hl with | [_, _, _], _ => rfl⟩
  have c_l_cut : Cal P w K mg base "_law_cut" 1 ["_law_row"] (spD K (He.ga K "Works") pre_l_cut post_l_cut) := ⟨_, fd_l_cut, fnD (fun_of F_l_cut) sc_l_cut (pd_l_cut T) wp_l_cut, He.glo_ok X G (c.1.fact 42 (f := .glo "_law_cut") rfl), F_l_cut.kp, FunD.bindsN F_l_cut fun _ _ _ _ _ _ us hl => match us, hl with | [_], _ => rfl⟩
  have c_l_free : Cal P w K mg base "_law_free" 2 ["_law_rows"] (spD K (He.ga K "Works") pre_l_free post_l_free) := ⟨_, fd_l_free, fnD (fun_of F_l_free) sc_l_free (pd_l_free T c_l_cut) wp_l_free, He.glo_ok X G (c.1.fact 43 (f := .glo "_law_free") rfl), F_l_free.kp, FunD.bindsN F_l_free fun _ _ _ _ _ _ us hl => match us, hl with | [_], _ => rfl⟩
  have c_l_does_steer : Cal P w K mg base "_law_does_steer" 3 ["_law_crew_here", "_law_table_here", "_law_heads_here"] (spD K (He.ga K "Works") pre_l_does_steer post_l_does_steer) := ⟨_, fd_l_does_steer, fnD (fun_of F_l_does_steer) sc_l_does_steer (pd_l_does_steer T c_l_come c_l_free) wp_l_does_steer, He.glo_ok X G (c.1.fact 45 (f := .glo "_law_does_steer") rfl), F_l_does_steer.kp, FunD.bindsN F_l_does_steer fun _ _ _ _ _ _ us hl => match us, hl with | [_, _, _], _ => rfl⟩
  have c_l_edge_right : CalG P w K mg base "_law_edge_right" 11 ["_law_keg_here", "_law_crew_here", "_law_roads_here", "_law_heads_here", "_law_page_here"] (spK K (He.ga K "Works") pre_l_edge_right post_l_edge_right) := ⟨_, fd_l_edge_right, fnKG (fun_of F_l_edge_right) sc_l_edge_right (pd_l_edge_right T c_l_asked c_l_does_steer c_l_edge) wp_l_edge_right, He.glo_ok X G (c.1.fact 56 (f := .glo "_law_edge_right") rfl), F_l_edge_right.kp, FunD.bindsN F_l_edge_right fun _ _ _ _ _ _ us hl => match us, hl with | [_, _, _, _, _], _ => rfl⟩
  have c_l_heads : Cal P w K mg base "_law_heads" 3 ["_law_keg_here", "_law_crew_here"] (spK K (He.ga K "Works") pre_l_heads post_l_heads) := ⟨_, fd_l_heads, fnK (fun_of F_l_heads) sc_l_heads (pd_l_heads T c_l_mixed c_l_pick c_l_tap) wp_l_heads, He.glo_ok X G (c.1.fact 36 (f := .glo "_law_heads") rfl), F_l_heads.kp, FunD.bindsN F_l_heads fun _ _ _ _ _ _ us hl => match us, hl with | [_, _], _ => rfl⟩
  have c_l_page : Cal P w K mg base "_law_page" 1 ["_law_crew_here", "_law_roads_here"] (spD K (He.ga K "Works") pre_l_page post_l_page) := ⟨_, fd_l_page, fnD (fun_of F_l_page) sc_l_page (pd_l_page T) wp_l_page, He.glo_ok X G (c.1.fact 37 (f := .glo "_law_page") rfl), F_l_page.kp, FunD.bindsN F_l_page fun _ _ _ _ _ _ us hl => match us, hl with | [_, _], _ => rfl⟩
  have c_l_roads : Cal P w K mg base "_law_roads" 3 ["_law_keg_here", "_law_crew_here"] (spK K (He.ga K "Works") pre_l_roads post_l_roads) := ⟨_, fd_l_roads, fnK (fun_of F_l_roads) sc_l_roads (pd_l_roads T c_l_mixed c_l_pick c_l_tap) wp_l_roads, He.glo_ok X G (c.1.fact 35 (f := .glo "_law_roads") rfl), F_l_roads.kp, FunD.bindsN F_l_roads fun _ _ _ _ _ _ us hl => match us, hl with | [_, _], _ => rfl⟩
  have c_l_low : Cal P w K mg base "_law_low" 1 ["_law_top", "_law_bottom"] (spD K (He.ga K "Works") pre_l_low post_l_low) := ⟨_, fd_l_low, fnD (fun_of F_l_low) sc_l_low (pd_l_low T) wp_l_low, He.glo_ok X G (c.1.fact 48 (f := .glo "_law_low") rfl), F_l_low.kp, FunD.bindsN F_l_low fun _ _ _ _ _ _ us hl => match us, hl with | [_, _], _ => rfl⟩
  have c_l_add : Cal P w K mg base "_law_add" 2 ["_law_near", "_law_far"] (spD K (He.ga K "Works") pre_l_add post_l_add) := ⟨_, fd_l_add, fnD (fun_of F_l_add) sc_l_add (pd_l_add T c_l_low) wp_l_add, He.glo_ok X G (c.1.fact 49 (f := .glo "_law_add") rfl), F_l_add.kp, FunD.bindsN F_l_add fun _ _ _ _ _ _ us hl => match us, hl with | [_, _], _ => rfl⟩
  have c_l_fold : Cal P w K mg base "_law_fold" 2 ["_law_much", "_law_share"] (spD K (He.ga K "Works") pre_l_fold post_l_fold) := ⟨_, fd_l_fold, fnD (fun_of F_l_fold) sc_l_fold (pd_l_fold T c_l_low) wp_l_fold, He.glo_ok X G (c.1.fact 50 (f := .glo "_law_fold") rfl), F_l_fold.kp, FunD.bindsN F_l_fold fun _ _ _ _ _ _ us hl => match us, hl with | [_, _], _ => rfl⟩
  have c_l_after_day : Cal P w K mg base "_law_after_day" 3 ["_law_table_here", "_law_spots", "_law_state_here", "_law_shove"] (spD K (He.ga K "Works") pre_l_after_day post_l_after_day) := ⟨_, fd_l_after_day, fnD (fun_of F_l_after_day) sc_l_after_day (pd_l_after_day T c_l_add c_l_fold) wp_l_after_day, He.glo_ok X G (c.1.fact 51 (f := .glo "_law_after_day") rfl), F_l_after_day.kp, FunD.bindsN F_l_after_day fun _ _ _ _ _ _ us hl => match us, hl with | [_, _, _, _], _ => rfl⟩
  have c_l_come_to : Cal P w K mg base "_law_come_to" 4 ["_law_table_here", "_law_spots", "_law_state_here", "_law_shoves"] (spD K (He.ga K "Works") pre_l_come_to post_l_come_to) := ⟨_, fd_l_come_to, fnD (fun_of F_l_come_to) sc_l_come_to (pd_l_come_to T c_l_after_day) wp_l_come_to, He.glo_ok X G (c.1.fact 52 (f := .glo "_law_come_to") rfl), F_l_come_to.kp, FunD.bindsN F_l_come_to fun _ _ _ _ _ _ us hl => match us, hl with | [_, _, _, _], _ => rfl⟩
  have c_l_wide_share : Cal P w K mg base "_law_wide_share" 2 ["_law_keg_here"] (spK K (He.ga K "Works") pre_l_wide_share post_l_wide_share) := ⟨_, fd_l_wide_share, fnK (fun_of F_l_wide_share) sc_l_wide_share (pd_l_wide_share T c_l_low c_l_tap) wp_l_wide_share, He.glo_ok X G (c.1.fact 53 (f := .glo "_law_wide_share") rfl), F_l_wide_share.kp, FunD.bindsN F_l_wide_share fun _ _ _ _ _ _ us hl => match us, hl with | [_], _ => rfl⟩
  have c_l_way_right : CalG P w K mg base "_law_way_right" 11 ["_law_keg_here", "_law_crew_here", "_law_roads_here", "_law_heads_here", "_law_page_here"] (spK K (He.ga K "Works") pre_l_way_right post_l_way_right) := ⟨_, fd_l_way_right, fnKG (fun_of F_l_way_right) sc_l_way_right (pd_l_way_right T c_l_asked c_l_come_to c_l_low c_l_pick c_l_table c_l_tap c_l_wide_share) wp_l_way_right, He.glo_ok X G (c.1.fact 57 (f := .glo "_law_way_right") rfl), F_l_way_right.kp, FunD.bindsN F_l_way_right fun _ _ _ _ _ _ us hl => match us, hl with | [_, _, _, _, _], _ => rfl⟩
  have c_l_right : CalG P w K mg base "_law_right" 12 ["_law_keg_here"] (spK K (He.ga K "Works") pre_l_right post_l_right) := ⟨_, fd_l_right, fnKG (fun_of F_l_right) sc_l_right (pd_l_right T c_l_bar_right c_l_crew c_l_edge_right c_l_heads c_l_page c_l_roads c_l_way_right) wp_l_right, He.glo_ok X G (c.1.fact 58 (f := .glo "_law_right") rfl), F_l_right.kp, FunD.bindsN F_l_right fun _ _ _ _ _ _ us hl => match us, hl with | [_], _ => rfl⟩
  exact fnDG (fun_of F_law) sc_law (pd_law T c_l_keg c_l_right) wp_law
end
end Dl
open PySem PySem.W PySem.Calls PyProof.Rows
theorem PySem.Challenge.cw_forcedsteer_k95_whole_claims_with_great_holds : PySem.Challenge.rw_forcedsteer_k95_whole_claims_with_great.Holds := by
  w_on; o_law
  refine HandSHeadRun.head_any (r := Dl.R) (q := Dl.qv) (H := Dl.hookX) (ob := Dl.obX) (M := 14000) (loose := Dl.nmAll) (d := HandSHeadRun.topDef Dl.R.prog 90) (kwd := []) Dl.obX_eq
    (by kernel_rfl) (fun s => by kernel_rfl) Dl.run (by kernel_rfl) (by kernel_rfl) (by kernel_rfl) (by rfl) (by first | assumption | decide +kernel) (by decide +kernel) ⟨rfl, rfl, rfl, rfl, rfl, by decide +kernel⟩ ?hw ?hc
  case hw => w_witness2
  case hc =>
    refine Dl.walk_ofG (l := PySem.Challenge.rw_forcedsteer_k95_whole_claims_with_great) (n := 63) (k := 13) (x := "_law_cells") rfl (by decide) (by kernel_rfl) ⟨rfl, by decide, by decide⟩ ?F
    intro w mg fa h Y G hmg0
    obtain ⟨K, KX, c⟩ := Y
    have hmg : mg ("law" : PySem.Str) = some (.ref fa) := by
      have e : (HandSHeadRun.topDef Dl.R.prog 90).name = ("law" : PySem.Str) := by kernel_rfl
      rw [← e]
      exact hmg0
    obtain ⟨fd, hb, hF⟩ := Dl.promises (P := PySem.Challenge.rw_forcedsteer_k95_whole_claims_with_great.prog) (w := w) KX G hmg c
    exact ⟨K, fd, _, KX, hb, fun H a ns hl hbits hS => Dl.law_pre hl hbits hS, hF⟩

end
