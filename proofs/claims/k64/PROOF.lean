import PyProof.Rows.All
import Wide.All
import OpenK.AllK
import Wide.FinOn
import HandS.Base
import HandS.Call
import HandS.Ends
import HandS.More
import HandS.Words
import HandS.WordsExc
import HandS.Defaults
import HandS.HeadHook1
import HandS.HeadHook2
import KE.KExcSuper
import KE.KExcIs
import HandS.ExcInit
import KE.KStateDown
import HandS.Head0
import HandS.Head1
import HandS.Head2
import HandS.HeadEnd
import PyProof.EqAt
import PyProof.EqKinds
import PyProof.TupleCall
import HandS.ForMost
import HandS.Codes
import HandS.Evl
import HandS.DictComp
import HandS.Star
import HandS.Style
import HandS.Walk
import HandS.IsInst
import HandS.Strs
import HandS.SetKeys
import KE.SortData
import KE.DatumIndex
import PyProof.StrBlock2
import KE.DatumMore
import KE.KeyNested
import KE.KDictKeyed
import KE.KDictDisplayH
import HandS.TupLen
import HandS.ExcIs
import HandS.ExcField
import HandS.CallSlots
import PyProof.ListNew
import PyProof.EnumIter
import PyProof.EnumStmt
import PyProof.EnumMake
import PyProof.Rows.SetFrom
import PyProof.SetRoads
import PyProof.ReprRoads
import HandS.FStr
import KE.KFmtOwn
import PyProof.InstSpecial
import PySem.Challenge.RW_suitedpairs_k64_whole_tables_walked
set_option Elab.async false
set_option linter.all false
set_option maxRecDepth 100000
set_option maxHeartbeats 0
namespace K64
open PySem PySem.Spec PyProof.Rows L2
def topS (i : Nat) : Stmt := PySem.Challenge.pw_suitedpairs_k64_whole_tables_walked.main.body.getD i (.Pass ⟨0, 0, 0, 0⟩)
abbrev s_all_partners : Stmt := topS 11
abbrev s_after : Stmt := topS 12
abbrev s_is_kind : Stmt := topS 16
abbrev s_are_kinds : Stmt := topS 17
abbrev s_read : Stmt := topS 19
abbrev s_gap_of : Stmt := topS 20
abbrev s_shortened : Stmt := topS 21
abbrev s_next_kinds : Stmt := topS 22
abbrev s_next_node : Stmt := topS 23
abbrev s_key_of : Stmt := topS 24
abbrev s_is_rest : Stmt := topS 25
abbrev s_is_set : Stmt := topS 26
abbrev s_is_node : Stmt := topS 27
abbrev s_leads_well : Stmt := topS 28
abbrev s_is_table : Stmt := topS 29
abbrev s_compare : Stmt := topS 32
abbrev s_are_different : Stmt := topS 36
abbrev s_in_order : Stmt := topS 37
abbrev s_S_init : Stmt := inClass (topS 38) 0
abbrev s_S_mates_in : Stmt := inClass (topS 38) 1
abbrev s_S_kinds : Stmt := inClass (topS 38) 5
abbrev s_S_pairs : Stmt := inClass (topS 38) 6
abbrev s_S_lonely : Stmt := inClass (topS 38) 7
abbrev s_S_mates : Stmt := inClass (topS 38) 8
abbrev s_S_is_calm : Stmt := inClass (topS 38) 9
abbrev s_S_calm_sets : Stmt := inClass (topS 38) 10
abbrev s_S_call : Stmt := inClass (topS 38) 11
abbrev s_S_repr : Stmt := inClass (topS 38) 14
abbrev s_L_bag : Stmt := topS 40
abbrev s_L_take : Stmt := topS 41
abbrev s_L_alike : Stmt := topS 42
abbrev s_L_names : Stmt := topS 43
abbrev s_L_plan : Stmt := topS 44
abbrev s_L_places : Stmt := topS 45
abbrev s_L_few : Stmt := topS 46
abbrev s_L_suits : Stmt := topS 47
abbrev s_L_fit : Stmt := topS 48
abbrev s_L_mates : Stmt := topS 49
abbrev s_L_row : Stmt := topS 50
abbrev s_L_run : Stmt := topS 51
abbrev s_L_after : Stmt := topS 52
abbrev s_L_like : Stmt := topS 53
abbrev s_L_read : Stmt := topS 54
abbrev s_L_gap : Stmt := topS 55
abbrev s_L_leads : Stmt := topS 56
abbrev s_L_search : Stmt := topS 57
abbrev s_L_told : Stmt := topS 58
abbrev s_L_spoil : Stmt := topS 59
abbrev s_L_stays : Stmt := topS 60
abbrev s_law : Stmt := topS 61
def d_all_partners : He.DefD := ⟨("all_partners", none), "all_partners", "all_partners", defArgs s_all_partners, defBody s_all_partners, defScope s_all_partners, [], []⟩
def d_after : He.DefD := ⟨("after", none), "after", "after", defArgs s_after, defBody s_after, defScope s_after, [], []⟩
def d_is_kind : He.DefD := ⟨("is_kind", none), "is_kind", "is_kind", defArgs s_is_kind, defBody s_is_kind, defScope s_is_kind, [], []⟩
def d_are_kinds : He.DefD := ⟨("are_kinds", none), "are_kinds", "are_kinds", defArgs s_are_kinds, defBody s_are_kinds, defScope s_are_kinds, [], []⟩
def d_read : He.DefD := ⟨("read", none), "read", "read", defArgs s_read, defBody s_read, defScope s_read, [], []⟩
def d_gap_of : He.DefD := ⟨("gap_of", none), "gap_of", "gap_of", defArgs s_gap_of, defBody s_gap_of, defScope s_gap_of, [], []⟩
def d_shortened : He.DefD := ⟨("shortened", none), "shortened", "shortened", defArgs s_shortened, defBody s_shortened, defScope s_shortened, [], []⟩
def d_next_kinds : He.DefD := ⟨("next_kinds", none), "next_kinds", "next_kinds", defArgs s_next_kinds, defBody s_next_kinds, defScope s_next_kinds, [], []⟩
def d_next_node : He.DefD := ⟨("next_node", none), "next_node", "next_node", defArgs s_next_node, defBody s_next_node, defScope s_next_node, [], []⟩
def d_key_of : He.DefD := ⟨("key_of", none), "key_of", "key_of", defArgs s_key_of, defBody s_key_of, defScope s_key_of, [], []⟩
def d_is_rest : He.DefD := ⟨("is_rest", none), "is_rest", "is_rest", defArgs s_is_rest, defBody s_is_rest, defScope s_is_rest, [], []⟩
def d_is_set : He.DefD := ⟨("is_set", none), "is_set", "is_set", defArgs s_is_set, defBody s_is_set, defScope s_is_set, [], []⟩
def d_is_node : He.DefD := ⟨("is_node", none), "is_node", "is_node", defArgs s_is_node, defBody s_is_node, defScope s_is_node, [], []⟩
def d_leads_well : He.DefD := ⟨("leads_well", none), "leads_well", "leads_well", defArgs s_leads_well, defBody s_leads_well, defScope s_leads_well, [], []⟩
def d_is_table : He.DefD := ⟨("is_table", none), "is_table", "is_table", defArgs s_is_table, defBody s_is_table, defScope s_is_table, [], []⟩
def d_compare : He.DefD := ⟨("compare", none), "compare", "compare", defArgs s_compare, defBody s_compare, defScope s_compare, [], [("limit", .int 400)]⟩
def d_are_different : He.DefD := ⟨("are_different", none), "are_different", "are_different", defArgs s_are_different, defBody s_are_different, defScope s_are_different, [], []⟩
def d_in_order : He.DefD := ⟨("in_order", none), "in_order", "in_order", defArgs s_in_order, defBody s_in_order, defScope s_in_order, [], []⟩
def d_S_init : He.DefD := ⟨("Suits", some "__init__"), "__init__", "Suits.__init__", defArgs s_S_init, defBody s_S_init, defScope s_S_init, [], []⟩
def d_S_mates_in : He.DefD := ⟨("Suits", some "mates_in"), "mates_in", "Suits.mates_in", defArgs s_S_mates_in, defBody s_S_mates_in, defScope s_S_mates_in, [], []⟩
def d_S_kinds : He.DefD := ⟨("Suits", some "kinds"), "kinds", "Suits.kinds", defArgs s_S_kinds, defBody s_S_kinds, defScope s_S_kinds, [], []⟩
def d_S_pairs : He.DefD := ⟨("Suits", some "pairs"), "pairs", "Suits.pairs", defArgs s_S_pairs, defBody s_S_pairs, defScope s_S_pairs, [], []⟩
def d_S_lonely : He.DefD := ⟨("Suits", some "lonely"), "lonely", "Suits.lonely", defArgs s_S_lonely, defBody s_S_lonely, defScope s_S_lonely, [], []⟩
def d_S_mates : He.DefD := ⟨("Suits", some "mates"), "mates", "Suits.mates", defArgs s_S_mates, defBody s_S_mates, defScope s_S_mates, [], []⟩
def d_S_is_calm : He.DefD := ⟨("Suits", some "is_calm"), "is_calm", "Suits.is_calm", defArgs s_S_is_calm, defBody s_S_is_calm, defScope s_S_is_calm, [], []⟩
def d_S_calm_sets : He.DefD := ⟨("Suits", some "calm_sets"), "calm_sets", "Suits.calm_sets", defArgs s_S_calm_sets, defBody s_S_calm_sets, defScope s_S_calm_sets, [], []⟩
def d_S_call : He.DefD := ⟨("Suits", some "__call__"), "__call__", "Suits.__call__", defArgs s_S_call, defBody s_S_call, defScope s_S_call, [], []⟩
def d_S_repr : He.DefD := ⟨("Suits", some "__repr__"), "__repr__", "Suits.__repr__", defArgs s_S_repr, defBody s_S_repr, defScope s_S_repr, [], []⟩
def d_L_bag : He.DefD := ⟨("_law_bag", none), "_law_bag", "_law_bag", defArgs s_L_bag, defBody s_L_bag, defScope s_L_bag, [], []⟩
def d_L_take : He.DefD := ⟨("_law_take", none), "_law_take", "_law_take", defArgs s_L_take, defBody s_L_take, defScope s_L_take, [], []⟩
def d_L_alike : He.DefD := ⟨("_law_alike", none), "_law_alike", "_law_alike", defArgs s_L_alike, defBody s_L_alike, defScope s_L_alike, [], []⟩
def d_L_names : He.DefD := ⟨("_law_names", none), "_law_names", "_law_names", defArgs s_L_names, defBody s_L_names, defScope s_L_names, [], []⟩
def d_L_plan : He.DefD := ⟨("_law_plan", none), "_law_plan", "_law_plan", defArgs s_L_plan, defBody s_L_plan, defScope s_L_plan, [], []⟩
def d_L_places : He.DefD := ⟨("_law_places", none), "_law_places", "_law_places", defArgs s_L_places, defBody s_L_places, defScope s_L_places, [], []⟩
def d_L_few : He.DefD := ⟨("_law_few", none), "_law_few", "_law_few", defArgs s_L_few, defBody s_L_few, defScope s_L_few, [], []⟩
def d_L_suits : He.DefD := ⟨("_law_suits", none), "_law_suits", "_law_suits", defArgs s_L_suits, defBody s_L_suits, defScope s_L_suits, [], []⟩
def d_L_fit : He.DefD := ⟨("_law_fit", none), "_law_fit", "_law_fit", defArgs s_L_fit, defBody s_L_fit, defScope s_L_fit, [], []⟩
def d_L_mates : He.DefD := ⟨("_law_mates", none), "_law_mates", "_law_mates", defArgs s_L_mates, defBody s_L_mates, defScope s_L_mates, [], []⟩
def d_L_row : He.DefD := ⟨("_law_row", none), "_law_row", "_law_row", defArgs s_L_row, defBody s_L_row, defScope s_L_row, [], []⟩
def d_L_run : He.DefD := ⟨("_law_run", none), "_law_run", "_law_run", defArgs s_L_run, defBody s_L_run, defScope s_L_run, [], []⟩
def d_L_after : He.DefD := ⟨("_law_after", none), "_law_after", "_law_after", defArgs s_L_after, defBody s_L_after, defScope s_L_after, [], []⟩
def d_L_like : He.DefD := ⟨("_law_like", none), "_law_like", "_law_like", defArgs s_L_like, defBody s_L_like, defScope s_L_like, [], []⟩
def d_L_read : He.DefD := ⟨("_law_read", none), "_law_read", "_law_read", defArgs s_L_read, defBody s_L_read, defScope s_L_read, [], []⟩
def d_L_gap : He.DefD := ⟨("_law_gap", none), "_law_gap", "_law_gap", defArgs s_L_gap, defBody s_L_gap, defScope s_L_gap, [], []⟩
def d_L_leads : He.DefD := ⟨("_law_leads", none), "_law_leads", "_law_leads", defArgs s_L_leads, defBody s_L_leads, defScope s_L_leads, [], []⟩
def d_L_search : He.DefD := ⟨("_law_search", none), "_law_search", "_law_search", defArgs s_L_search, defBody s_L_search, defScope s_L_search, [], []⟩
def d_L_told : He.DefD := ⟨("_law_told", none), "_law_told", "_law_told", defArgs s_L_told, defBody s_L_told, defScope s_L_told, [], []⟩
def d_L_spoil : He.DefD := ⟨("_law_spoil", none), "_law_spoil", "_law_spoil", defArgs s_L_spoil, defBody s_L_spoil, defScope s_L_spoil, [], []⟩
def d_L_stays : He.DefD := ⟨("_law_stays", none), "_law_stays", "_law_stays", defArgs s_L_stays, defBody s_L_stays, defScope s_L_stays, [], []⟩
def d_law : He.DefD := ⟨("law", none), "law", "law", defArgs s_law, defBody s_law, defScope s_law, [], []⟩
def fns : List He.DefD := [d_all_partners, d_after, d_is_kind, d_are_kinds, d_read, d_gap_of, d_shortened, d_next_kinds, d_next_node, d_key_of, d_is_rest, d_is_set, d_is_node, d_leads_well, d_is_table, d_compare, d_are_different, d_in_order, d_S_init, d_S_mates_in, d_S_kinds, d_S_pairs, d_S_lonely, d_S_mates, d_S_is_calm, d_S_calm_sets, d_S_call, d_S_repr, d_L_bag, d_L_take, d_L_alike, d_L_names, d_L_plan, d_L_places, d_L_few, d_L_suits, d_L_fit, d_L_mates, d_L_row, d_L_run, d_L_after, d_L_like, d_L_read, d_L_gap, d_L_leads, d_L_search, d_L_told, d_L_spoil, d_L_stays, d_law]
def fas0 : List He.Fa := [.glo "all_partners", .glo "after", .glo "is_kind", .glo "are_kinds", .glo "read", .glo "gap_of", .glo "shortened", .glo "next_kinds", .glo "next_node", .glo "key_of", .glo "is_rest", .glo "is_set", .glo "is_node", .glo "leads_well", .glo "is_table", .glo "compare", .glo "are_different", .glo "in_order", .glo "_law_bag", .glo "_law_take", .glo "_law_alike", .glo "_law_names", .glo "_law_plan", .glo "_law_places"]
def fas1 : List He.Fa := [.glo "_law_few", .glo "_law_suits", .glo "_law_fit", .glo "_law_mates", .glo "_law_row", .glo "_law_run", .glo "_law_after", .glo "_law_like", .glo "_law_read", .glo "_law_gap", .glo "_law_leads", .glo "_law_search", .glo "_law_told", .glo "_law_spoil", .glo "_law_stays", .glo "law", .glo "Suits", .glo "SuitError", .glo "TooMany", .glo "Crowded", .glo "Lonely", .glo "NotComplete", .free "len", .free "range"]
def fas2 : List He.Fa := [.free "isinstance", .free "sorted", .free "enumerate", .free "any", .free "all", .free "min", .free "max", .free "abs", .free "int", .free "str", .free "list", .free "tuple", .free "zip", .free "set", .free "repr", .free "super", .free "ValueError", .free "bool", .free "dict", .int "MOST_LETTERS" 8, .int "MOST_NODES" 400, .int "MOST_KINDS" 8, .int "MOST_PAIRS" 36, .str "LETTERS" "abcdefghijklmnopqrstuvwxyz"]
def fas3 : List He.Fa := [.cls "Suits", .noat "Suits" "its_kinds", .noat "Suits" "its_pairs", .noat "Suits" "its_mates", .meth "Suits" "mates_in", .meth "Suits" "kinds", .meth "Suits" "pairs", .meth "Suits" "lonely", .meth "Suits" "mates", .meth "Suits" "is_calm", .meth "Suits" "calm_sets", .meth "Suits" "__call__", .meth "Suits" "__repr__", .mkr "Suits"]
def fas : List He.Fa := fas0 ++ fas1 ++ fas2 ++ fas3
structure Tp (K : PySem.W.Frag) (mg : Str → Option Value) : Prop where
  g_all_partners : mg "all_partners" = some (.ref (He.ga K "all_partners"))
  g_after : mg "after" = some (.ref (He.ga K "after"))
  g_is_kind : mg "is_kind" = some (.ref (He.ga K "is_kind"))
  g_are_kinds : mg "are_kinds" = some (.ref (He.ga K "are_kinds"))
  g_read : mg "read" = some (.ref (He.ga K "read"))
  g_gap_of : mg "gap_of" = some (.ref (He.ga K "gap_of"))
  g_shortened : mg "shortened" = some (.ref (He.ga K "shortened"))
  g_next_kinds : mg "next_kinds" = some (.ref (He.ga K "next_kinds"))
  g_next_node : mg "next_node" = some (.ref (He.ga K "next_node"))
  g_key_of : mg "key_of" = some (.ref (He.ga K "key_of"))
  g_is_rest : mg "is_rest" = some (.ref (He.ga K "is_rest"))
  g_is_set : mg "is_set" = some (.ref (He.ga K "is_set"))
  g_is_node : mg "is_node" = some (.ref (He.ga K "is_node"))
  g_leads_well : mg "leads_well" = some (.ref (He.ga K "leads_well"))
  g_is_table : mg "is_table" = some (.ref (He.ga K "is_table"))
  g_compare : mg "compare" = some (.ref (He.ga K "compare"))
  g_are_different : mg "are_different" = some (.ref (He.ga K "are_different"))
  g_in_order : mg "in_order" = some (.ref (He.ga K "in_order"))
  g_law_bag : mg "_law_bag" = some (.ref (He.ga K "_law_bag"))
  g_law_take : mg "_law_take" = some (.ref (He.ga K "_law_take"))
  g_law_alike : mg "_law_alike" = some (.ref (He.ga K "_law_alike"))
  g_law_names : mg "_law_names" = some (.ref (He.ga K "_law_names"))
  g_law_plan : mg "_law_plan" = some (.ref (He.ga K "_law_plan"))
  g_law_places : mg "_law_places" = some (.ref (He.ga K "_law_places"))
  g_law_few : mg "_law_few" = some (.ref (He.ga K "_law_few"))
  g_law_suits : mg "_law_suits" = some (.ref (He.ga K "_law_suits"))
  g_law_fit : mg "_law_fit" = some (.ref (He.ga K "_law_fit"))
  g_law_mates : mg "_law_mates" = some (.ref (He.ga K "_law_mates"))
  g_law_row : mg "_law_row" = some (.ref (He.ga K "_law_row"))
  g_law_run : mg "_law_run" = some (.ref (He.ga K "_law_run"))
  g_law_after : mg "_law_after" = some (.ref (He.ga K "_law_after"))
  g_law_like : mg "_law_like" = some (.ref (He.ga K "_law_like"))
  g_law_read : mg "_law_read" = some (.ref (He.ga K "_law_read"))
  g_law_gap : mg "_law_gap" = some (.ref (He.ga K "_law_gap"))
  g_law_leads : mg "_law_leads" = some (.ref (He.ga K "_law_leads"))
  g_law_search : mg "_law_search" = some (.ref (He.ga K "_law_search"))
  g_law_told : mg "_law_told" = some (.ref (He.ga K "_law_told"))
  g_law_spoil : mg "_law_spoil" = some (.ref (He.ga K "_law_spoil"))
  g_law_stays : mg "_law_stays" = some (.ref (He.ga K "_law_stays"))
  g_law : mg "law" = some (.ref (He.ga K "law"))
  g_Suits : mg "Suits" = some (.ref (He.ga K "Suits"))
  g_SuitError : mg "SuitError" = some (.ref (He.ga K "SuitError"))
  g_TooMany : mg "TooMany" = some (.ref (He.ga K "TooMany"))
  g_Crowded : mg "Crowded" = some (.ref (He.ga K "Crowded"))
  g_Lonely : mg "Lonely" = some (.ref (He.ga K "Lonely"))
  g_NotComplete : mg "NotComplete" = some (.ref (He.ga K "NotComplete"))
  f_len : mg "len" = none
  f_range : mg "range" = none
  f_isinstance : mg "isinstance" = none
  f_sorted : mg "sorted" = none
  f_enumerate : mg "enumerate" = none
  f_any : mg "any" = none
  f_all : mg "all" = none
  f_min : mg "min" = none
  f_max : mg "max" = none
  f_abs : mg "abs" = none
  f_int : mg "int" = none
  f_str : mg "str" = none
  f_list : mg "list" = none
  f_tuple : mg "tuple" = none
  f_zip : mg "zip" = none
  f_set : mg "set" = none
  f_repr : mg "repr" = none
  f_super : mg "super" = none
  f_ValueError : mg "ValueError" = none
  f_bool : mg "bool" = none
  f_dict : mg "dict" = none
  i_MOST_LETTERS : ∃ t, mg "MOST_LETTERS" = some (.int 8 t)
  i_MOST_NODES : ∃ t, mg "MOST_NODES" = some (.int 400 t)
  i_MOST_KINDS : ∃ t, mg "MOST_KINDS" = some (.int 8 t)
  i_MOST_PAIRS : ∃ t, mg "MOST_PAIRS" = some (.int 36 t)
  s_LETTERS : ∃ t, mg "LETTERS" = some (.str "abcdefghijklmnopqrstuvwxyz" t)
  cl : Cls K (He.ga K "Suits")
  n_its_kinds : NoAttr K (He.ga K "Suits") "its_kinds"
  n_its_pairs : NoAttr K (He.ga K "Suits") "its_pairs"
  n_its_mates : NoAttr K (He.ga K "Suits") "its_mates"
  m_mates_in : Meth K (He.ga K "Suits") "mates_in" (He.ma K (He.ga K "Suits") "mates_in")
  m_kinds : Meth K (He.ga K "Suits") "kinds" (He.ma K (He.ga K "Suits") "kinds")
  m_pairs : Meth K (He.ga K "Suits") "pairs" (He.ma K (He.ga K "Suits") "pairs")
  m_lonely : Meth K (He.ga K "Suits") "lonely" (He.ma K (He.ga K "Suits") "lonely")
  m_mates : Meth K (He.ga K "Suits") "mates" (He.ma K (He.ga K "Suits") "mates")
  m_is_calm : Meth K (He.ga K "Suits") "is_calm" (He.ma K (He.ga K "Suits") "is_calm")
  m_calm_sets : Meth K (He.ga K "Suits") "calm_sets" (He.ma K (He.ga K "Suits") "calm_sets")
  m_call : Meth K (He.ga K "Suits") "__call__" (He.ma K (He.ga K "Suits") "__call__")
  m_repr : Meth K (He.ga K "Suits") "__repr__" (He.ma K (He.ga K "Suits") "__repr__")
  maker : Mk K (He.ga K "Suits") (He.ma K (He.ga K "Suits") "__init__")
theorem Tp.of {K : PySem.W.Frag} {mg : Str → Option Value} {h : Heap} (X : K.In h) (G : h.Ns mainGlobals mg) (c : He.SaysD fas fns K) : Tp K mg where
  g_all_partners := He.glo_ok X G (c.fact 0)
  g_after := He.glo_ok X G (c.fact 1)
  g_is_kind := He.glo_ok X G (c.fact 2)
  g_are_kinds := He.glo_ok X G (c.fact 3)
  g_read := He.glo_ok X G (c.fact 4)
  g_gap_of := He.glo_ok X G (c.fact 5)
  g_shortened := He.glo_ok X G (c.fact 6)
  g_next_kinds := He.glo_ok X G (c.fact 7)
  g_next_node := He.glo_ok X G (c.fact 8)
  g_key_of := He.glo_ok X G (c.fact 9)
  g_is_rest := He.glo_ok X G (c.fact 10)
  g_is_set := He.glo_ok X G (c.fact 11)
  g_is_node := He.glo_ok X G (c.fact 12)
  g_leads_well := He.glo_ok X G (c.fact 13)
  g_is_table := He.glo_ok X G (c.fact 14)
  g_compare := He.glo_ok X G (c.fact 15)
  g_are_different := He.glo_ok X G (c.fact 16)
  g_in_order := He.glo_ok X G (c.fact 17)
  g_law_bag := He.glo_ok X G (c.fact 18)
  g_law_take := He.glo_ok X G (c.fact 19)
  g_law_alike := He.glo_ok X G (c.fact 20)
  g_law_names := He.glo_ok X G (c.fact 21)
  g_law_plan := He.glo_ok X G (c.fact 22)
  g_law_places := He.glo_ok X G (c.fact 23)
  g_law_few := He.glo_ok X G (c.fact 24)
  g_law_suits := He.glo_ok X G (c.fact 25)
  g_law_fit := He.glo_ok X G (c.fact 26)
  g_law_mates := He.glo_ok X G (c.fact 27)
  g_law_row := He.glo_ok X G (c.fact 28)
  g_law_run := He.glo_ok X G (c.fact 29)
  g_law_after := He.glo_ok X G (c.fact 30)
  g_law_like := He.glo_ok X G (c.fact 31)
  g_law_read := He.glo_ok X G (c.fact 32)
  g_law_gap := He.glo_ok X G (c.fact 33)
  g_law_leads := He.glo_ok X G (c.fact 34)
  g_law_search := He.glo_ok X G (c.fact 35)
  g_law_told := He.glo_ok X G (c.fact 36)
  g_law_spoil := He.glo_ok X G (c.fact 37)
  g_law_stays := He.glo_ok X G (c.fact 38)
  g_law := He.glo_ok X G (c.fact 39)
  g_Suits := He.glo_ok X G (c.fact 40)
  g_SuitError := He.glo_ok X G (c.fact 41)
  g_TooMany := He.glo_ok X G (c.fact 42)
  g_Crowded := He.glo_ok X G (c.fact 43)
  g_Lonely := He.glo_ok X G (c.fact 44)
  g_NotComplete := He.glo_ok X G (c.fact 45)
  f_len := He.free_ok X G (c.fact 46)
  f_range := He.free_ok X G (c.fact 47)
  f_isinstance := He.free_ok X G (c.fact 48)
  f_sorted := He.free_ok X G (c.fact 49)
  f_enumerate := He.free_ok X G (c.fact 50)
  f_any := He.free_ok X G (c.fact 51)
  f_all := He.free_ok X G (c.fact 52)
  f_min := He.free_ok X G (c.fact 53)
  f_max := He.free_ok X G (c.fact 54)
  f_abs := He.free_ok X G (c.fact 55)
  f_int := He.free_ok X G (c.fact 56)
  f_str := He.free_ok X G (c.fact 57)
  f_list := He.free_ok X G (c.fact 58)
  f_tuple := He.free_ok X G (c.fact 59)
  f_zip := He.free_ok X G (c.fact 60)
  f_set := He.free_ok X G (c.fact 61)
  f_repr := He.free_ok X G (c.fact 62)
  f_super := He.free_ok X G (c.fact 63)
  f_ValueError := He.free_ok X G (c.fact 64)
  f_bool := He.free_ok X G (c.fact 65)
  f_dict := He.free_ok X G (c.fact 66)
  i_MOST_LETTERS := He.int_ok X G (c.fact 67)
  i_MOST_NODES := He.int_ok X G (c.fact 68)
  i_MOST_KINDS := He.int_ok X G (c.fact 69)
  i_MOST_PAIRS := He.int_ok X G (c.fact 70)
  s_LETTERS := He.str_ok X G (c.fact 71)
  cl := He.cls_ok (c.fact 72)
  n_its_kinds := He.noat_ok (c.fact 73)
  n_its_pairs := He.noat_ok (c.fact 74)
  n_its_mates := He.noat_ok (c.fact 75)
  m_mates_in := He.meth_ok (c.fact 76)
  m_kinds := He.meth_ok (c.fact 77)
  m_pairs := He.meth_ok (c.fact 78)
  m_lonely := He.meth_ok (c.fact 79)
  m_mates := He.meth_ok (c.fact 80)
  m_is_calm := He.meth_ok (c.fact 81)
  m_calm_sets := He.meth_ok (c.fact 82)
  m_call := He.meth_ok (c.fact 83)
  m_repr := He.meth_ok (c.fact 84)
  maker := He.mkr_ok (c.fact 85)
end K64
set_option Elab.async false
set_option linter.all false
set_option maxRecDepth 100000
set_option maxHeartbeats 4000000
/-! What the written part tells of TooMany. -/
namespace K64
open PySem PySem.Spec PyProof.Rows L2
abbrev s_TM_init : Stmt := inClass (topS 8) 0
/-- what the written part holds of the class at C and of its __init__ at fI -/
structure TmD (P : Program) (K : PySem.W.Frag) (C fI : Addr) : Prop where
  oex : OexC K C
  iC : PySem.W.findIn K (.ref C) "__init__" = some (some (.ref fI))
  tI : PySem.W.typeIn K (.ref fI) = some (.type "function")
  fn : ∃ (oc : Value) (od : Option Addr) (kV doc pm : Value) (an : Option Addr) (cda : Addr) (ct : Value) (cc : Addr) (osl : Array (Option Value)) (ccl : Value) (cdd : Option Addr) (vs : Array Value) (ccs : Array (Option Value)) (file : Str) (tf : Tok) (cl : Value) (cld : Option Addr) (csl : Array (Option Value)),
    K.lookup fI = some ⟨oc, od, .func (PySem.W.ksFn "__init__" "TooMany.__init__" (defArgs s_TM_init) (defBody s_TM_init) (defScope s_TM_init) .none kV doc pm an (.ref cda) ct cc), osl⟩ ∧ PySem.W.codeIn K (.ref cda) "TooMany.__init__" = true ∧
    K.lookup cda = some ⟨ccl, cdd, .fields vs, ccs⟩ ∧ vs[2]? = some (.str file tf) ∧ ((P.main.file : Str) == file) = true ∧ K.lookup cc = some ⟨cl, cld, .cell (some (.ref C)), csl⟩
  sup : PySem.W.ks_superIn K C C "__init__" = some (some (.builtin "ValueError.__init__"))
  opq : PySem.W.nsIn K cStatics "thirdparty.any" = some none
  isV : PySem.W.subIn K (.ref C) (.type "ValueError") = some true
  self : PySem.W.mroIn K C (.ref C) = some true
  nolim : PySem.W.findIn K (.ref C) "limit" = some none
  htop : (P.main.scope.names.lookup ("super" : Str)).isSome = false
/-- what the written part says of TooMany's instances -/
structure TmI (K : PySem.W.Frag) : Prop where
  hcl : (PySem.W.clsIn K (He.ga K "TooMany")).isSome = true
  hga : PySem.W.findIn K (.ref (He.ga K "TooMany")) "__getattribute__" = some (some (.builtin "BaseException.__getattribute__"))
  hgt : PySem.W.findIn K (.ref (He.ga K "TooMany")) "__getattr__" = some none
  hsub : PySem.W.subIn K (.ref (He.ga K "TooMany")) (.type "BaseException") = some true
  ha : PySem.W.findIn K (.ref (He.ga K "TooMany")) "__class__" = some (some (.builtin "object.__class__"))
  hn : PySem.W.specialIn K (.builtin "object.__class__") "__get__" = some (some (.builtin "getset_descriptor.__get__"))
  htk : PySem.W.takesIn K (.builtin "object.__class__") = some true
  hm : PySem.W.mroIn K (He.ga K "TooMany") (.type "object") = some true
  hd : PySem.W.hasDictIn K (He.ga K "TooMany") = true
  exm : PySem.W.exmOne K (.ref (He.ga K "TooMany")) (.ref (He.ga K "SuitError")) = some true
  isT : PySem.W.kitOne K (.ref (He.ga K "TooMany")) (.ref (He.ga K "TooMany")) = some true
  isV : PySem.W.kitOne K (.ref (He.ga K "TooMany")) (.type "ValueError") = some true
  isN : PySem.W.kitAny K (.ref (He.ga K "TooMany")) [.ref (He.ga K "Crowded"), .ref (He.ga K "Lonely"), .ref (He.ga K "NotComplete")] = some false
end K64
set_option Elab.async false
set_option linter.all false
set_option maxRecDepth 100000
set_option maxHeartbeats 0
/-! The head: what the top leaves, TooMany's own facts too. -/
namespace K64
open PySem PySem.Spec PyProof.Rows L2
abbrev rowK : PySem.W.OpenRow := PySem.W.OpenLaw.row PySem.Challenge.rw_suitedpairs_k64_whole_tables_walked
abbrev lawK : PySem.W.OpenLaw := PySem.Challenge.rw_suitedpairs_k64_whole_tables_walked
/-- the class TooMany, its __init__ -/
abbrev tmC (K : PySem.W.Frag) : Addr := He.ga K "TooMany"
abbrev tmI (K : PySem.W.Frag) : Addr := He.ma K (He.ga K "TooMany") "__init__"
def exClsB (K : PySem.W.Frag) (C : Addr) : Bool := match K.lookup C with
  | some ⟨.type "type", _, .cls cd, sl⟩ => (match cd.mro, sl.toList with
    | .ref C' :: bm, [_, _, _, _, some (.builtin n), _] => C' == C && n == "ValueError.__new__" && cd.hasDict && !cd.hasDel && PySem.HandSPX.refsVE bm
    | _, _ => false)
  | _ => false
theorem exClsB_ok {K : PySem.W.Frag} {C : Addr} (q : exClsB K C = true) : ∃ nm q N bs bm sn sub ab col dd k0 k1 k2 k3 k5, K.lookup C = some (excClassObj nm q C N bs bm true sn sub ab col dd k0 k1 k2 k3 k5 "ValueError.__new__") ∧ PySem.HandSPX.refsVE bm = true := by
  unfold exClsB at q
  split at q
  · rename_i dd cd sl ho
    split at q
    · rename_i C' bm k0 k1 k2 k3 n k5 hm hs
      simp only [Bool.and_eq_true, beq_iff_eq, Bool.not_eq_true'] at q
      obtain ⟨⟨⟨⟨rfl, rfl⟩, hdct⟩, hdel⟩, ht⟩ := q
      obtain ⟨nm, bs, mro, ns, qn, hd, sn, sub, ab, col, del⟩ := cd
      dsimp only at hm hdel hdct
      subst hm hdel hdct
      have hsl : sl = #[k0, k1, k2, k3, some (.builtin "ValueError.__new__"), k5] := by
        obtain ⟨l⟩ := sl
        simp only at hs
        rw [hs]
      subst hsl
      exact ⟨nm, qn, ns, bs, bm, sn, sub, ab, col, dd, k0, k1, k2, k3, k5, ho, ht⟩
    · cases q
  · cases q
abbrev FnC : Type := Option (Str × Str × Arguments × FuncBody × Scope × Addr × List Str × Addr)
def fnC (K : PySem.W.Frag) (f : Addr) : FnC := match K.lookup f with
  | some ⟨_, _, .func fd, _⟩ => some (fd.name, fd.qualname, fd.params, fd.body, fd.scope, fd.globals, fd.closure.map (·.1), fd.builtins)
  | _ => none
def tmVal : FnC := some ("__init__", "TooMany.__init__", defArgs s_TM_init, .stmts (defBody s_TM_init), defScope s_TM_init, mainGlobals, ["__class__"], builtinsNs)
/-- its code, its file, its cell -/
def tmCodeB (K : PySem.W.Frag) (file0 : Str) : Bool := match K.lookup (tmI K) with
  | some ⟨_, _, .func fd, _⟩ => decide (fd.defaults = .none) && (match fd.code with
    | .ref cda => PySem.W.codeIn K (.ref cda) "TooMany.__init__" && (match K.lookup cda with
      | some ⟨_, _, .fields vs, _⟩ => (match (vs[2]? : Option Value) with
        | some (.str file _) => file0 == file
        | _ => false)
      | _ => false)
    | _ => false) && (match fd.closure with
    | [(_, cc)] => (match K.lookup cc with
      | some ⟨_, _, .cell (some (.ref C)), _⟩ => C == tmC K
      | _ => false)
    | _ => false)
  | _ => false
theorem tmFn_ok {K : PySem.W.Frag} {file0 : Str} (e : fnC K (tmI K) = tmVal) (c : tmCodeB K file0 = true) : ∃ (oc : Value) (od : Option Addr) (kV doc pm : Value) (an : Option Addr) (cda : Addr) (ct : Value) (cc : Addr) (osl : Array (Option Value)) (ccl : Value) (cdd : Option Addr) (vs : Array Value) (ccs : Array (Option Value)) (file : Str) (tf : Tok) (cl : Value) (cld : Option Addr) (csl : Array (Option Value)),
    K.lookup (tmI K) = some ⟨oc, od, .func (PySem.W.ksFn "__init__" "TooMany.__init__" (defArgs s_TM_init) (defBody s_TM_init) (defScope s_TM_init) .none kV doc pm an (.ref cda) ct cc), osl⟩ ∧ PySem.W.codeIn K (.ref cda) "TooMany.__init__" = true ∧
    K.lookup cda = some ⟨ccl, cdd, .fields vs, ccs⟩ ∧ vs[2]? = some (.str file tf) ∧ (file0 == file) = true ∧ K.lookup cc = some ⟨cl, cld, .cell (some (.ref (tmC K))), csl⟩ := by
  unfold fnC at e
  unfold tmCodeB at c
  cases q : K.lookup (tmI K) with
  | none =>
    rw [q] at c
    cases c
  | some o =>
    obtain ⟨oc, od, dt, osl⟩ := o
    rw [q] at c e
    cases dt with
    | func fd =>
      obtain ⟨n1, n2, n3, n4, n5, n6, n7, n8, n9, n10, n11, n12, n13, n14, n15⟩ := fd
      have e2 : (some (n1, n2, n3, n4, n5, n6, n7.map (·.1), n15) : FnC) = tmVal := e
      unfold tmVal at e2
      simp only [Option.some.injEq, Prod.mk.injEq] at e2
      obtain ⟨h1, h2, h3, h4, h5, h6, h7, h8⟩ := e2
      subst h1 h2 h3 h4 h5 h6 h8
      simp only [Bool.and_eq_true] at c
      obtain ⟨⟨c0, c1⟩, c2⟩ := c
      have c0 : n8 = .none := of_decide_eq_true c0
      subst c0
      cases n13 with
      | ref cda =>
        have c1 : (PySem.W.codeIn K (.ref cda) "TooMany.__init__" && (match K.lookup cda with
          | some ⟨_, _, .fields vs, _⟩ => (match (vs[2]? : Option Value) with
            | some (.str file _) => file0 == file
            | _ => false)
          | _ => false)) = true := c1
        obtain ⟨c3, c4⟩ := Bool.and_eq_true_iff.mp c1
        match n7, h7, c2 with
        | [(x, cc)], h7, c2 =>
          have hx : x = "__class__" := by simpa using h7
          subst hx
          have c2 : (match K.lookup cc with
            | some ⟨_, _, .cell (some (.ref C)), _⟩ => C == tmC K
            | _ => false) = true := c2
          split at c4
          · rename_i ccl cdd vs ccs hl
            split at c4
            · rename_i file tf hv
              split at c2
              · rename_i cl cld C csl hcc
                have hC : C = tmC K := by simpa using c2
                subst hC
                exact ⟨oc, od, n9, n10, n11, n12, cda, n14, cc, osl, ccl, cdd, vs, ccs, file, tf, cl, cld, csl, rfl, c3, hl, hv, c4, hcc⟩
              · cases c2
            · cases c4
          · cases c4
        | [], h7, _ => simp at h7
        | _ :: _ :: _, h7, _ => simp at h7
      | _ => cases c1
    | _ => cases c
def exB (K : PySem.W.Frag) : Bool :=
  (tmCodeB K rowK.prog.main.file && exClsB K (tmC K) && He.eqO (PySem.W.findIn K (.ref (tmC K)) "__setattr__") (some (some (.builtin "object.__setattr__"))) && decide (PySem.W.subIn K (.ref (tmC K)) (.type "BaseException") = some true) && decide (PySem.W.typeIn K (.ref (tmC K)) = some (.type "type")) && PySem.W.keepIn K (.ref (tmC K))) &&
  (He.eqO (PySem.W.findIn K (.ref (tmC K)) "__init__") (some (some (.ref (tmI K)))) && decide (PySem.W.typeIn K (.ref (tmI K)) = some (.type "function")) && He.eqO (PySem.W.ks_superIn K (tmC K) (tmC K) "__init__") (some (some (.builtin "ValueError.__init__"))) && He.eqO (PySem.W.nsIn K cStatics "thirdparty.any") (some none) && decide (PySem.W.subIn K (.ref (tmC K)) (.type "ValueError") = some true) && decide (PySem.W.mroIn K (tmC K) (.ref (tmC K)) = some true) && He.eqO (PySem.W.findIn K (.ref (tmC K)) "limit") (some none)) &&
  ((PySem.W.clsIn K (tmC K)).isSome && He.eqO (PySem.W.findIn K (.ref (tmC K)) "__getattribute__") (some (some (.builtin "BaseException.__getattribute__"))) && He.eqO (PySem.W.findIn K (.ref (tmC K)) "__getattr__") (some none) && He.eqO (PySem.W.findIn K (.ref (tmC K)) "__class__") (some (some (.builtin "object.__class__"))) && He.eqO (PySem.W.specialIn K (.builtin "object.__class__") "__get__") (some (some (.builtin "getset_descriptor.__get__"))) && decide (PySem.W.takesIn K (.builtin "object.__class__") = some true) && decide (PySem.W.mroIn K (tmC K) (.type "object") = some true) && PySem.W.hasDictIn K (tmC K)) &&
  (decide (PySem.W.exmOne K (.ref (tmC K)) (.ref (He.ga K "SuitError")) = some true) && decide (PySem.W.kitOne K (.ref (tmC K)) (.ref (tmC K)) = some true) && decide (PySem.W.kitOne K (.ref (tmC K)) (.type "ValueError") = some true) && decide (PySem.W.kitAny K (.ref (tmC K)) [.ref (He.ga K "Crowded"), .ref (He.ga K "Lonely"), .ref (He.ga K "NotComplete")] = some false))
theorem exB_ok {K : PySem.W.Frag} (e : fnC K (tmI K) = tmVal) (h : exB K = true) : TmD lawK.prog K (tmC K) (tmI K) ∧ TmI K := by
  unfold exB at h
  simp only [Bool.and_eq_true] at h
  obtain ⟨⟨⟨⟨⟨⟨⟨⟨a1, a2⟩, a3⟩, a4⟩, a5⟩, a6⟩, ⟨⟨⟨⟨⟨⟨b1, b2⟩, b3⟩, b4⟩, b5⟩, b6⟩, b7⟩⟩, ⟨⟨⟨⟨⟨⟨⟨c1, c2⟩, c3⟩, c4⟩, c5⟩, c6⟩, c7⟩, c8⟩⟩, ⟨⟨⟨d1, d2⟩, d3⟩, d4⟩⟩ := h
  exact ⟨⟨⟨exClsB_ok a2, He.eqO_ok a3, of_decide_eq_true a4, of_decide_eq_true a5, a6⟩, He.eqO_ok b1, of_decide_eq_true b2, tmFn_ok e a1, He.eqO_ok b3, He.eqO_ok b4, of_decide_eq_true b5, of_decide_eq_true b6, He.eqO_ok b7, by decide +kernel⟩,
    ⟨c1, He.eqO_ok c2, He.eqO_ok c3, of_decide_eq_true a4, He.eqO_ok c4, He.eqO_ok c5, of_decide_eq_true c6, of_decide_eq_true c7, c8, of_decide_eq_true d1, of_decide_eq_true d2, of_decide_eq_true d3, of_decide_eq_true d4⟩⟩
/-! ### the Hook -/
def asK (g : Addr → Option Obj) : List Addr := He.asD g 5 ++ [cStatics]
abbrev AlK : Type := He.AlD × FnC × Bool
def obsK (K : PySem.W.Frag) : AlK := (He.obsD fas fns K, fnC K (tmI K), exB K)
def valK : AlK := (He.valD fns, tmVal, true)
def obsKG (g : Addr → Option Obj) : AlK := obsK (He.frG g (asK g))
def hookK : PySem.W.Hook where
  α := AlK
  obs := fun s => obsKG s.heap.get?
  val := fun _ => valK
  says := fun _ h => ∃ K : PySem.W.Frag, K.In h ∧ obsK K = valK
  of := fun _ _ e => ⟨_, He.frG_in, e⟩
  keeps := fun _ _ _ ⟨K, hK, c⟩ k => ⟨K, PySem.W.Frag.In.keeps hK k, c⟩
theorem obsKG_eq {g : Addr → Option Obj} {s : Shared} (h : ∀ a, g a = s.heap.get? a) : obsKG g = hookK.obs s := by
  have e : g = s.heap.get? := funext h
  rw [e] <;> rfl
def obK (s : PySem.W.SharedT) : AlK := obsKG (HandSHeadRun.getT s)
theorem obK_eq (s : PySem.W.SharedT) : obK s = hookK.obs s.abs := obsKG_eq (HandSHeadRun.getT_eq s)
def looseK0 : List PySem.Str := ["_wall", "SuitError", "Wrong", "BadPair", "NoKind", "NotComplete", "Lonely", "TooMany", "Crowded", "all_partners", "after", "LETTERS", "MOST_LETTERS", "is_kind", "are_kinds", "read", "gap_of", "shortened", "next_kinds", "next_node", "key_of", "is_rest", "is_set", "is_node"]
def looseK1 : List PySem.Str := ["leads_well", "is_table", "MOST_NODES", "compare", "MOST_KINDS", "MOST_PAIRS", "are_different", "in_order", "Suits", "_law_bag", "_law_take", "_law_alike", "_law_names", "_law_plan", "_law_places", "_law_few", "_law_suits", "_law_fit", "_law_mates", "_law_row", "_law_run", "_law_after", "_law_like", "_law_read"]
def looseK2 : List PySem.Str := ["_law_gap", "_law_leads", "_law_search", "_law_told", "_law_spoil", "_law_stays"]
def looseK : List PySem.Str := looseK0 ++ looseK1 ++ looseK2
theorem runK (w : World) : HandSHeadRun.RunEq rowK (PySem.W.view rowK.prog [61]) hookK obK 6000 looseK w := by
  intro os
  kernel_rfl
end K64
set_option autoImplicit false
set_option linter.all false
/-! The plain laws: queues by kind against the line, gaps, the search and its table. -/
namespace K64

/-! ### the line by numbers -/
section
variable {α : Type} [DecidableEq α]
/-- number i comes: the first waiting number that fits leaves, or i joins -/
def comeN (fits : Nat → Nat → Bool) (cur : List Nat) (i : Nat) : List Nat :=
  match cur.find? (fun j => fits j i) with
  | some j => cur.erase j
  | none => cur ++ [i]
def curN (fits : Nat → Nat → Bool) : Nat → List Nat
  | 0 => []
  | i + 1 => comeN fits (curN fits i) i

theorem curN_lt (fits : Nat → Nat → Bool) : ∀ i, ∀ j ∈ curN fits i, j < i
  | 0, j, h => by simp [curN] at h
  | i + 1, j, h => by
    unfold curN comeN at h
    have ih := curN_lt fits i
    split at h
    · exact Nat.lt_succ_of_lt (ih j (List.mem_of_mem_erase h))
    · rcases List.mem_append.mp h with h | h
      · exact Nat.lt_succ_of_lt (ih j h)
      · have e : j = i := by simpa using h
        omega
theorem curN_asc (fits : Nat → Nat → Bool) : ∀ i, (curN fits i).Pairwise (· < ·)
  | 0 => by simp [curN]
  | i + 1 => by
    unfold curN comeN
    have ih := curN_asc fits i
    split
    · exact ih.sublist List.erase_sublist
    · refine List.pairwise_append.mpr ⟨ih, by simp, fun a ha b hb => ?_⟩
      have e : b = i := by simpa using hb
      have := curN_lt fits i a ha
      omega
theorem asc_nodup {l : List Nat} (h : l.Pairwise (· < ·)) : l.Nodup := h.imp fun h => Nat.ne_of_lt h
theorem curN_len (fits : Nat → Nat → Bool) : ∀ i, (curN fits i).length ≤ i
  | 0 => by simp [curN]
  | i + 1 => by
    unfold curN comeN
    have ih := curN_len fits i
    split
    · exact Nat.le_trans (List.Sublist.length_le List.erase_sublist) (by omega)
    · simp; omega

/-! ### the queues by kind -/
/-- the first waiting numbers of some kinds -/
def firstsOf (kd : Nat → α) (cur : List Nat) (ms : List α) : List Nat := ms.filterMap fun m => (cur.filter fun j => decide (kd j = m)).head?

theorem firsts_nil {kd : Nat → α} {cur : List Nat} {ms : List α} (h : cur.find? (fun j => decide (kd j ∈ ms)) = none) : firstsOf kd cur ms = [] := by
  unfold firstsOf
  rw [List.filterMap_eq_nil_iff]
  intro m hm
  rw [List.head?_eq_none_iff, List.filter_eq_nil_iff]
  intro j hj e
  have := List.find?_eq_none.mp h j hj
  have e' : kd j = m := of_decide_eq_true e
  exact this (by simp [e', hm])
theorem firsts_mem {kd : Nat → α} {cur : List Nat} {ms : List α} {j : Nat} (ha : cur.Pairwise (· < ·)) (h : cur.find? (fun j => decide (kd j ∈ ms)) = some j) : j ∈ firstsOf kd cur ms := by
  unfold firstsOf
  rw [List.mem_filterMap]
  obtain ⟨hj, l1, l2, e, hn⟩ := List.find?_eq_some_iff_append.mp h
  have hm : kd j ∈ ms := of_decide_eq_true hj
  refine ⟨kd j, hm, ?_⟩
  have e1 : (l1.filter fun i => decide (kd i = kd j)) = [] := by
    rw [List.filter_eq_nil_iff]
    intro i hi q
    have q' : kd i = kd j := of_decide_eq_true q
    have := hn i hi
    simp [q', hm] at this
  rw [e, List.filter_append, e1, List.filter_cons]
  simp
theorem firsts_le {kd : Nat → α} {cur : List Nat} {ms : List α} {j : Nat} (ha : cur.Pairwise (· < ·)) (h : cur.find? (fun j => decide (kd j ∈ ms)) = some j) : ∀ x ∈ firstsOf kd cur ms, j ≤ x := by
  intro x hx
  unfold firstsOf at hx
  obtain ⟨m, hm, e⟩ := List.mem_filterMap.mp hx
  have hxm : x ∈ cur.filter fun j => decide (kd j = m) := List.mem_of_mem_head? (by rw [e]; rfl)
  obtain ⟨hxc, hxk⟩ := List.mem_filter.mp hxm
  have hxk' : kd x = m := of_decide_eq_true hxk
  obtain ⟨hj, l1, l2, ec, hn⟩ := List.find?_eq_some_iff_append.mp h
  rw [ec] at hxc ha
  rcases List.mem_append.mp hxc with q | q
  · have := hn x q
    simp [hxk', hm] at this
  · rcases List.mem_cons.mp q with q | q
    · omega
    · have hp := (List.pairwise_append.mp ha).2.1
      exact Nat.le_of_lt ((List.pairwise_cons.mp hp).1 x q)
/-- what a queue holds of its kind: behind the join, behind the leaving -/
theorem filt_join (kd : Nat → α) (cur : List Nat) (i : Nat) (k : α) : ((cur ++ [i]).filter fun j => decide (kd j = k)) = (cur.filter fun j => decide (kd j = k)) ++ if kd i = k then [i] else [] := by
  rw [List.filter_append, List.filter_cons, List.filter_nil]
  by_cases h : kd i = k <;> simp [h]
theorem filt_leave {kd : Nat → α} {cur : List Nat} {ms : List α} {j : Nat} (ha : cur.Pairwise (· < ·)) (h : cur.find? (fun j => decide (kd j ∈ ms)) = some j) (k : α) :
    ((cur.erase j).filter fun i => decide (kd i = k)) = if kd j = k then (cur.filter fun i => decide (kd i = k)).drop 1 else cur.filter fun i => decide (kd i = k) := by
  obtain ⟨hj, l1, l2, e, hn⟩ := List.find?_eq_some_iff_append.mp h
  have hm : kd j ∈ ms := of_decide_eq_true hj
  have nd := asc_nodup ha
  have hj1 : j ∉ l1 := by
    intro q
    have := hn j q
    simp [hm] at this
  have ee : cur.erase j = l1 ++ l2 := by
    rw [e, List.erase_append_right _ hj1, List.erase_cons_head]
  rw [ee, e]
  by_cases hk : kd j = k
  · rw [if_pos hk]
    have e1 : (l1.filter fun i => decide (kd i = k)) = [] := by
      rw [List.filter_eq_nil_iff]
      intro i hi q
      have q' : kd i = k := of_decide_eq_true q
      have := hn i hi
      simp [q', ← hk, hm] at this
    simp [List.filter_append, e1, hk]
  · rw [if_neg hk]
    simp [List.filter_append, hk]
end

/-! ### gaps -/
section
variable {α : Type} [DecidableEq α]
def gapP (a b : List α) : Option (List α × List α) :=
  if a.length ≤ b.length then (if b.drop (b.length - a.length) = a then some (b.take (b.length - a.length), []) else none)
  else if a.drop (a.length - b.length) = b then some ([], a.take (a.length - b.length)) else none
/-- one turn of the law's own search of a gap -/
def gapT (a b : List α) (m : Nat) : Option (List α × List α) :=
  if b.take m ++ a = b then some (b.take m, []) else if a.take m ++ b = a then some ([], a.take m) else none
theorem gapT_some_len {a b : List α} {m : Nat} {g : List α × List α} (h : gapT a b m = some g) (hm : m ≤ max a.length b.length) :
    (a.length ≤ b.length ∧ m = b.length - a.length ∧ b.drop m = a ∧ g = (b.take m, [])) ∨ (b.length ≤ a.length ∧ m = a.length - b.length ∧ a.drop m = b ∧ g = ([], a.take m)) := by
  unfold gapT at h
  split at h
  · rename_i e
    have hl := congrArg List.length e
    rw [List.length_append, List.length_take] at hl
    left
    by_cases hb : m ≤ b.length
    · have hm' : m = b.length - a.length := by omega
      refine ⟨by omega, hm', ?_, (Option.some.inj h).symm⟩
      have h2 : b.take m ++ a = b.take m ++ b.drop m := by rw [List.take_append_drop]; exact e
      exact (List.append_cancel_left h2).symm
    · exfalso
      have : a.length = 0 := by omega
      omega
  · split at h
    · rename_i e
      have hl := congrArg List.length e
      rw [List.length_append, List.length_take] at hl
      right
      by_cases hb : m ≤ a.length
      · have hm' : m = a.length - b.length := by omega
        refine ⟨by omega, hm', ?_, (Option.some.inj h).symm⟩
        have h2 : a.take m ++ b = a.take m ++ a.drop m := by rw [List.take_append_drop]; exact e
        exact (List.append_cancel_left h2).symm
      · exfalso
        have : b.length = 0 := by omega
        omega
    · cases h
theorem gapP_of_T {a b : List α} {m : Nat} {g : List α × List α} (h : gapT a b m = some g) (hm : m ≤ max a.length b.length) : gapP a b = some g := by
  rcases gapT_some_len h hm with ⟨h1, h2, h3, h4⟩ | ⟨h1, h2, h3, h4⟩
  · unfold gapP
    rw [if_pos h1, ← h2, if_pos h3, h4]
  · unfold gapP
    by_cases he : a.length ≤ b.length
    · have el : a.length = b.length := by omega
      have m0 : m = 0 := by omega
      subst m0
      rw [List.drop_zero] at h3
      subst h3
      rw [if_pos he]
      simp [h4]
    · rw [if_neg he, ← h2, if_pos h3, h4]
theorem gapP_none_of {a b : List α} (h : ∀ m, m ≤ max a.length b.length → gapT a b m = none) : gapP a b = none := by
  unfold gapP
  split
  · rename_i hl
    split
    · rename_i e
      have := h (b.length - a.length) (by omega)
      unfold gapT at this
      rw [if_pos (by
        rw [← e]
        simp only [List.length_drop]
        have e3 : b.length - (b.length - (b.length - a.length)) = b.length - a.length := by omega
        rw [e3, List.take_append_drop])] at this
      cases this
    · rfl
  · rename_i hl
    split
    · rename_i e
      have := h (a.length - b.length) (by omega)
      unfold gapT at this
      split at this
      · cases this
      · rw [if_pos (by
          rw [← e]
          simp only [List.length_drop]
          have e3 : a.length - (a.length - (a.length - b.length)) = a.length - b.length := by omega
          rw [e3, List.take_append_drop])] at this
        cases this
    · rfl
end

/-! ### without the common beginning -/
section
variable {α : Type} [DecidableEq α]
def strip : List α → List α → List α × List α
  | a :: as, b :: bs => if a = b then strip as bs else (a :: as, b :: bs)
  | as, bs => (as, bs)
theorem strip_nil_left (bs : List α) : strip [] bs = ([], bs) := by simp [strip]
theorem strip_nil_right (as : List α) : strip as [] = (as, []) := by cases as <;> simp [strip]
theorem strip_drop {f l : List α} {n : Nat} (h1 : n < f.length) (h2 : n < l.length) (e : f[n] = l[n]) : strip (f.drop n) (l.drop n) = strip (f.drop (n + 1)) (l.drop (n + 1)) := by
  rw [List.drop_eq_getElem_cons h1, List.drop_eq_getElem_cons h2]
  conv => lhs; unfold strip
  rw [if_pos e]
theorem strip_stop {f l : List α} {n : Nat} (h : ∀ (h1 : n < f.length) (h2 : n < l.length), f[n] ≠ l[n]) : strip (f.drop n) (l.drop n) = (f.drop n, l.drop n) := by
  by_cases h1 : n < f.length
  · by_cases h2 : n < l.length
    · rw [List.drop_eq_getElem_cons h1, List.drop_eq_getElem_cons h2]
      unfold strip
      rw [if_neg (h h1 h2)]
    · rw [List.drop_of_length_le (show l.length ≤ n by omega), strip_nil_right]
  · rw [List.drop_of_length_le (show f.length ≤ n by omega), strip_nil_left]
end

/-! ### the search -/
section
variable {ν γ κ : Type} [DecidableEq ν] [DecidableEq γ]
inductive Inn (ν κ : Type) where
  | go (ns : List ν) (ls : List (List κ))
  | apart (l : List κ)
  | many
inductive Rs (ν κ : Type) where
  | alike (ns : List ν)
  | apart (l : List κ)
  | many
variable (gap : ν → Option γ) (leads : ν → γ → List (κ × ν × γ)) (limit : Nat)
def inner (line : List κ) : List (κ × ν × γ) → List ν → List (List κ) → Inn ν κ
  | [], ns, ls => .go ns ls
  | (k, later, due) :: r, ns, ls =>
    if gap later = some due then
      if later ∈ ns then inner line r ns ls
      else if ns.length = limit then .many else inner line r (ns ++ [later]) (ls ++ [line ++ [k]])
    else .apart (line ++ [k])
/-- one turn of the outer loop at a node -/
def turnAt (ns : List ν) (ls : List (List κ)) (n : ν) (line : List κ) : Inn ν κ :=
  match gap n with
  | some g => inner gap limit line (leads n g) ns ls
  | none => .many
def outer : Nat → List ν → List (List κ) → Nat → Rs ν κ
  | 0, ns, _, _ => .alike ns
  | f + 1, ns, ls, at_ =>
    match ns[at_]?, ls[at_]? with
    | some n, some line => (match turnAt gap leads limit ns ls n line with
      | .go ns' ls' => outer f ns' ls' (at_ + 1)
      | .apart l => .apart l
      | .many => .many)
    | _, _ => .alike ns

variable {gap leads limit}
theorem inner_len {line : List κ} : ∀ {rs : List (κ × ν × γ)} {ns : List ν} {ls : List (List κ)} {ns' : List ν} {ls' : List (List κ)}, inner gap limit line rs ns ls = .go ns' ls' → ns.length ≤ limit → ns.length = ls.length → ns'.length ≤ limit ∧ ns'.length = ls'.length
  | [], ns, ls, ns', ls', h, h1, h2 => by
    unfold inner at h
    cases h
    exact ⟨h1, h2⟩
  | (k, later, due) :: r, ns, ls, ns', ls', h, h1, h2 => by
    unfold inner at h
    split at h
    · split at h
      · exact inner_len h h1 h2
      · split at h
        · cases h
        · refine inner_len h ?_ ?_ <;> simp <;> omega
    · cases h
/-- what a turn keeps, what it finds -/
theorem inner_pre {line : List κ} : ∀ {rs : List (κ × ν × γ)} {ns : List ν} {ls : List (List κ)} {ns' : List ν} {ls' : List (List κ)}, inner gap limit line rs ns ls = .go ns' ls' → ∃ more, ns' = ns ++ more
  | [], ns, ls, ns', ls', h => by
    unfold inner at h
    cases h
    exact ⟨[], by simp⟩
  | (k, later, due) :: r, ns, ls, ns', ls', h => by
    unfold inner at h
    split at h
    · split at h
      · exact inner_pre h
      · split at h
        · cases h
        · obtain ⟨m, e⟩ := inner_pre h
          exact ⟨later :: m, by rw [e]; simp⟩
    · cases h
theorem inner_all {P : ν → Prop} {line : List κ} : ∀ {rs : List (κ × ν × γ)} {ns : List ν} {ls : List (List κ)} {ns' : List ν} {ls' : List (List κ)}, inner gap limit line rs ns ls = .go ns' ls' → (∀ n ∈ ns, P n) → (∀ r ∈ rs, gap r.2.1 = some r.2.2 → P r.2.1) → ∀ n ∈ ns', P n
  | [], ns, ls, ns', ls', h, h1, _ => by
    unfold inner at h
    cases h
    exact h1
  | (k, later, due) :: r, ns, ls, ns', ls', h, h1, h2 => by
    unfold inner at h
    split at h
    · rename_i hg
      have h2' : ∀ x ∈ r, gap x.2.1 = some x.2.2 → P x.2.1 := fun x hx => h2 x (List.mem_cons_of_mem _ hx)
      split at h
      · exact inner_all h h1 h2'
      · split at h
        · cases h
        · refine inner_all h (fun n hn => ?_) h2'
          rcases List.mem_append.mp hn with hn | hn
          · exact h1 n hn
          · have e : n = later := by simpa using hn
            subst e
            exact h2 _ List.mem_cons_self hg
    · cases h
theorem inner_nodup {line : List κ} : ∀ {rs : List (κ × ν × γ)} {ns : List ν} {ls : List (List κ)} {ns' : List ν} {ls' : List (List κ)}, inner gap limit line rs ns ls = .go ns' ls' → ns.Nodup → ns'.Nodup
  | [], ns, ls, ns', ls', h, h1 => by
    unfold inner at h
    cases h
    exact h1
  | (k, later, due) :: r, ns, ls, ns', ls', h, h1 => by
    unfold inner at h
    split at h
    · split at h
      · exact inner_nodup h h1
      · rename_i hn
        split at h
        · cases h
        · refine inner_nodup h ?_
          refine List.nodup_append.mpr ⟨h1, by simp, fun a ha b hb e => ?_⟩
          have eb : b = later := by simpa using hb
          subst eb
          subst e
          exact hn ha
    · cases h
theorem inner_met {line : List κ} : ∀ {rs : List (κ × ν × γ)} {ns : List ν} {ls : List (List κ)} {ns' : List ν} {ls' : List (List κ)}, inner gap limit line rs ns ls = .go ns' ls' → ∀ r ∈ rs, gap r.2.1 = some r.2.2 ∧ r.2.1 ∈ ns'
  | [], ns, ls, ns', ls', h => fun r hr => nomatch hr
  | (k, later, due) :: r, ns, ls, ns', ls', h => by
    intro x hx
    unfold inner at h
    split at h
    · rename_i hg
      split at h
      · rename_i hm
        rcases List.mem_cons.mp hx with e | hx
        · subst e
          obtain ⟨m, e⟩ := inner_pre h
          exact ⟨hg, by rw [e]; exact List.mem_append_left _ hm⟩
        · exact inner_met h x hx
      · split at h
        · cases h
        · rcases List.mem_cons.mp hx with e | hx
          · subst e
            obtain ⟨m, e⟩ := inner_pre h
            exact ⟨hg, by rw [e]; simp⟩
          · exact inner_met h x hx
    · cases h
/-- a closed table -/
structure Table (gap : ν → Option γ) (leads : ν → γ → List (κ × ν × γ)) (Good : ν → Prop) (start : ν) (ns : List ν) : Prop where
  nd : ns.Nodup
  st : start ∈ ns
  good : ∀ n ∈ ns, Good n
  gp : ∀ n ∈ ns, ∃ g, gap n = some g
  cl : ∀ n ∈ ns, ∀ g, gap n = some g → ∀ r ∈ leads n g, gap r.2.1 = some r.2.2 ∧ r.2.1 ∈ ns
structure SInv (gap : ν → Option γ) (leads : ν → γ → List (κ × ν × γ)) (Good : ν → Prop) (start : ν) (ns : List ν) (at_ : Nat) : Prop where
  nd : ns.Nodup
  st : start ∈ ns
  good : ∀ n ∈ ns, Good n
  gp : ∀ n ∈ ns, ∃ g, gap n = some g
  cl : ∀ i n, i < at_ → ns[i]? = some n → ∀ g, gap n = some g → ∀ r ∈ leads n g, gap r.2.1 = some r.2.2 ∧ r.2.1 ∈ ns
theorem SInv.start {Good : ν → Prop} {s : ν} {g : γ} (h : Good s) (hg : gap s = some g) : SInv gap leads Good s [s] 0 where
  nd := by simp
  st := by simp
  good := fun n hn => by
    have e : n = s := by simpa using hn
    rw [e]; exact h
  gp := fun n hn => by
    have e : n = s := by simpa using hn
    rw [e]; exact ⟨g, hg⟩
  cl := fun i n hi => absurd hi (by omega)
theorem SInv.turn {Good : ν → Prop} (hG : ∀ n g, Good n → gap n = some g → ∀ r ∈ leads n g, Good r.2.1) {s : ν} {ns ns' : List ν} {ls ls' : List (List κ)} {at_ : Nat} {n : ν} {g : γ} {line : List κ}
    (I : SInv gap leads Good s ns at_) (hn : ns[at_]? = some n) (hg : gap n = some g) (h : inner gap limit line (leads n g) ns ls = .go ns' ls') : SInv gap leads Good s ns' (at_ + 1) := by
  obtain ⟨more, em⟩ := inner_pre h
  have hat : at_ < ns.length := (List.getElem?_eq_some_iff.mp hn).1
  have hnm : n ∈ ns := List.mem_of_getElem? hn
  refine ⟨inner_nodup h I.nd, by rw [em]; exact List.mem_append_left _ I.st, inner_all h I.good fun r hr _ => hG n g (I.good n hnm) hg r hr, inner_all h I.gp fun r hr e => ⟨_, e⟩, fun i m hi hm g' hg' r hr => ?_⟩
  by_cases hlt : i < at_
  · have hm' : ns[i]? = some m := by
      rw [em, List.getElem?_append_left (by omega)] at hm
      exact hm
    obtain ⟨q1, q2⟩ := I.cl i m hlt hm' g' hg' r hr
    exact ⟨q1, by rw [em]; exact List.mem_append_left _ q2⟩
  · have ei : i = at_ := by omega
    subst ei
    have hm' : ns[i]? = some m := by
      rw [em, List.getElem?_append_left (by omega)] at hm
      exact hm
    rw [hn] at hm'
    cases hm'
    rw [hg] at hg'
    cases hg'
    exact inner_met h r hr
theorem SInv.table {Good : ν → Prop} {s : ν} {ns : List ν} {at_ : Nat} (I : SInv gap leads Good s ns at_) (h : ns.length ≤ at_) : Table gap leads Good s ns where
  nd := I.nd
  st := I.st
  good := I.good
  gp := I.gp
  cl := fun n hn => by
    obtain ⟨i, hi, e⟩ := List.getElem_of_mem hn
    exact I.cl i n (by omega) (by rw [List.getElem?_eq_getElem hi, e])
theorem outer_table {Good : ν → Prop} (hG : ∀ n g, Good n → gap n = some g → ∀ r ∈ leads n g, Good r.2.1) {s : ν} : ∀ (f : Nat) (ns : List ν) (ls : List (List κ)) (at_ : Nat) (ns' : List ν), SInv gap leads Good s ns at_ → ns.length = ls.length → ns.length ≤ limit → limit < f + at_ →
    outer gap leads limit f ns ls at_ = .alike ns' → Table gap leads Good s ns'
  | 0, ns, ls, at_, ns', I, hl, hm, hf, h => by
    unfold outer at h
    cases h
    exact I.table (by omega)
  | f + 1, ns, ls, at_, ns', I, hl, hm, hf, h => by
    unfold outer at h
    by_cases hat : at_ < ns.length
    · have e1 : ns[at_]? = some ns[at_] := List.getElem?_eq_getElem hat
      have e2 : ls[at_]? = some (ls[at_]'(by omega)) := List.getElem?_eq_getElem (by omega)
      rw [e1, e2] at h
      obtain ⟨g, hg⟩ := I.gp ns[at_] (List.getElem_mem hat)
      simp only [turnAt, hg] at h
      split at h
      · rename_i ns2 ls2 hi
        obtain ⟨k1, k2⟩ := inner_len hi hm hl
        exact outer_table hG f ns2 ls2 (at_ + 1) ns' (I.turn hG e1 hg hi) k2 k1 (by omega) h
      · cases h
      · cases h
    · have e1 : ns[at_]? = none := List.getElem?_eq_none_iff.mpr (by omega)
      rw [e1] at h
      cases h
      exact I.table (by omega)
end

/-! ### a rest, read greedily -/
section
variable {α : Type} [DecidableEq α]
def greedy (thing : List α) : List α → Nat → Nat
  | [], at_ => at_
  | k :: r, at_ => greedy thing r (if thing[at_]? = some k then at_ + 1 else at_)
theorem greedy_all (thing : List α) : ∀ (row : List α) (at_ : Nat), at_ ≤ thing.length → (thing.drop at_).Sublist row → greedy thing row at_ = thing.length
  | [], at_, hl, h => by
    have e : thing.drop at_ = [] := List.sublist_nil.mp h
    have : thing.length ≤ at_ := by simpa using e
    unfold greedy
    omega
  | k :: r, at_, hl, h => by
    unfold greedy
    by_cases hat : at_ < thing.length
    · rw [List.drop_eq_getElem_cons hat] at h
      by_cases e : thing[at_] = k
      · rw [if_pos (by rw [List.getElem?_eq_getElem hat, e])]
        refine greedy_all thing r (at_ + 1) (by omega) ?_
        rw [e] at h
        exact List.cons_sublist_cons.mp h
      · rw [if_neg (by rw [List.getElem?_eq_getElem hat]; intro q; exact e (Option.some.inj q))]
        refine greedy_all thing r at_ (by omega) ?_
        rw [List.drop_eq_getElem_cons hat]
        cases h with
        | cons _ h => exact h
        | cons_cons _ h => exact absurd rfl e
    · rw [if_neg (by rw [List.getElem?_eq_none_iff.mpr (by omega)]; intro q; cases q)]
      refine greedy_all thing r at_ hl ?_
      rw [List.drop_of_length_le (by omega)]
      exact List.nil_sublist _
end
end K64
set_option Elab.async false
set_option linter.all false
set_option maxRecDepth 100000
set_option maxHeartbeats 4000000
/-! Words of our own over the layer: what an expression gives, by a relation of its value and the heaps ahead and behind. -/
namespace K64
open PySem PySem.Spec PyProof.Rows L2 Evl

/-! ### relations -/
abbrev Rel := V → Hp → Hp → Prop
def EvR (te : TE) (σ : L2.St) (H : Hp) (R : Rel) : Prop := ∀ H1, Ex H H1 → ∀ Q : VK, (∀ v H2, Ex H1 H2 → R v H1 H2 → Q v H2) → te σ H1 Q
def EvAR (ta : TA) (σ : L2.St) (H : Hp) (R : List V → Hp → Hp → Prop) : Prop := ∀ H1, Ex H H1 → ∀ Q : List V → Hp → Prop, (∀ vs H2, Ex H1 H2 → R vs H1 H2 → Q vs H2) → ta σ H1 Q
/-- a new list, a new tuple -/
def RL (xs : List V) : Rel := fun v H1 H2 => ∃ p, v = .ref p ∧ H1 p = none ∧ H2 p = some (.lst xs)
def RU (xs : List V) : Rel := fun v H1 H2 => ∃ p, v = .ref p ∧ H1 p = none ∧ H2 p = some (.tup xs)
def RV (x : V) : Rel := fun v _ _ => v = x
/-- what is new behind a later heap is new behind an earlier one -/
def Bk (R : Rel) : Prop := ∀ v H1 H2 H3, Ex H1 H2 → R v H2 H3 → R v H1 H3
theorem bk_v {x : V} : Bk (RV x) := fun _ _ _ _ _ r => r
theorem bk_l {xs : List V} : Bk (RL xs) := fun _ _ _ _ e r => by
  obtain ⟨p, h1, h2, h3⟩ := r
  exact ⟨p, h1, fresh_back e h2, h3⟩
theorem bk_u {xs : List V} : Bk (RU xs) := fun _ _ _ _ e r => by
  obtain ⟨p, h1, h2, h3⟩ := r
  exact ⟨p, h1, fresh_back e h2, h3⟩
section
variable {σ : L2.St} {H H' : Hp} {te ta tb : TE} {R R' A B : Rel} {v : V} {xs : List V}
theorem EvR.mono (e : Ex H H') (h : EvR te σ H R) : EvR te σ H' R := fun H1 a Q q => h H1 (e.trans a) Q q
theorem EvR.imp (h : EvR te σ H R) (k : ∀ v H1 H2, Ex H H1 → Ex H1 H2 → R v H1 H2 → R' v H1 H2) : EvR te σ H R' := fun H1 a Q q => h H1 a Q fun v H2 e r => q v H2 e (k v H1 H2 a e r)
theorem er_v (h : Ev te σ H v) : EvR te σ H (RV v) := fun H1 a Q q => h H1 a Q fun H2 e => q v H2 e rfl
theorem er_l (h : EvL te σ H xs) : EvR te σ H (RL xs) := fun H1 a Q q => h H1 a Q fun p H2 hp e hh => q _ H2 e ⟨p, rfl, hp, hh⟩
theorem er_u (h : EvU te σ H xs) : EvR te σ H (RU xs) := fun H1 a Q q => h H1 a Q fun p H2 hp e hh => q _ H2 e ⟨p, rfl, hp, hh⟩
theorem ev_of (h : EvR te σ H (RV v)) : Ev te σ H v := fun H1 a Q q => h H1 a Q fun w H2 e r => by
  have r' : w = v := r
  subst r'
  exact q H2 e
theorem el_of (h : EvR te σ H (RL xs)) : EvL te σ H xs := fun H1 a Q q => h H1 a Q fun w H2 e r => by
  obtain ⟨p, rfl, hp, hh⟩ := r
  exact q p H2 hp e hh
theorem eu_of (h : EvR te σ H (RU xs)) : EvU te σ H xs := fun H1 a Q q => h H1 a Q fun w H2 e r => by
  obtain ⟨p, rfl, hp, hh⟩ := r
  exact q p H2 hp e hh
theorem ear_nil : EvAR tNil σ H (fun vs _ _ => vs = []) := fun H1 _ Q q => q [] H1 (Ex.refl H1) rfl
theorem ear_cons {tr : TA} {S : List V → Hp → Hp → Prop} (h : EvR te σ H R) (hr : EvAR tr σ H S) : EvAR (tCons te tr) σ H (fun vs H1 H3 => ∃ v r H2, vs = v :: r ∧ Ex H1 H2 ∧ Ex H2 H3 ∧ R v H1 H2 ∧ S r H2 H3) := fun H1 a Q q =>
  h H1 a _ fun v H2 e r => hr H2 (a.trans e) _ fun vs H3 e' s => q _ H3 (e.trans e') ⟨v, vs, H2, rfl, e, e', r, s⟩
theorem ear_a {tr : TA} {vs : List V} (h : EvA tr σ H vs) : EvAR tr σ H (fun ws _ _ => ws = vs) := fun H1 a Q q => h H1 a Q fun H2 e => q vs H2 e rfl
theorem er_op {r : R2} (ha : EvR ta σ H A) (hb : EvR tb σ H B) (hr : ∀ x y H1 H2 H3, Ex H H1 → Ex H1 H2 → Ex H2 H3 → A x H1 H2 → B y H2 H3 → ∀ Q : VK, (∀ v H4, Ex H3 H4 → R v H1 H4 → Q v H4) → r x y H3 Q) : EvR (tOp r ta tb) σ H R := fun H1 a Q q =>
  ha H1 a _ fun x H2 e rx => hb H2 (a.trans e) _ fun y H3 e' ry => hr x y H1 H2 H3 a e e' rx ry Q fun v H4 e'' s => q v H4 ((e.trans e').trans e'') s
theorem er_cb {r : List V → Hp → VK → Prop} {t : TA} {S : List V → Hp → Hp → Prop} (h : EvAR t σ H S) (hr : ∀ vs H1 H2, Ex H H1 → Ex H1 H2 → S vs H1 H2 → ∀ Q : VK, (∀ v H3, Ex H2 H3 → R v H1 H3 → Q v H3) → r vs H2 Q) : EvR (tCB r t) σ H R := fun H1 a Q q =>
  h H1 a _ fun vs H2 e s => hr vs H1 H2 a e s Q fun v H3 e' t => q v H3 (e.trans e') t
theorem et_R {tt : TT} {b : Bool} (h : ∀ H1, Ex H H1 → ∀ Q : Bool → Hp → Prop, (∀ H2, Ex H1 H2 → Q b H2) → tt σ H1 Q) : EvT tt σ H b := h

/-! ### statements -/
variable {D : Ends} {tz : TS}
theorem s_asgR {i : Nat} (h : EvR te σ H R) (k : ∀ v H1, Ex H H1 → R v H H1 → D.nx (σ.set i (some v)) H1) : tAsg te (gName i) D σ H := h H (Ex.refl H) _ fun v H1 e r => k v H1 e r
theorem q_asgR {i : Nat} (h : EvR te σ H R) (k : ∀ v H1, Ex H H1 → R v H H1 → tz D (σ.set i (some v)) H1) : tSeq (tAsg te (gName i)) tz D σ H := s_asgR (D := { D with nx := tz D }) h k
theorem s_retR (h : EvR te σ H R) (k : ∀ v H1, Ex H H1 → R v H H1 → D.rt v H1) : tRet te D σ H := h H (Ex.refl H) _ fun v H1 e r => k v H1 e r
end

/-! ### promises of defs that change nothing that stood -/
def pur (D : List V → Hp → Rel → Prop) : Sp := fun vs H Q _ => ∃ R : Rel, D vs H R ∧ ∀ v H', Ex H H' → R v H H' → Q v H'
section
variable {σ : L2.St} {H : Hp} {R : Rel} {D : List V → Hp → Rel → Prop} {ta : TE} {t : TA} {E : XK} {S : List V → Hp → Hp → Prop}
theorem er_call (h : EvAR t σ H S) (hd : ∀ vs H1 H2, Ex H H1 → Ex H1 H2 → S vs H1 H2 → ∃ R', D (vs ++ []) H2 R' ∧ ∀ v H3, Ex H2 H3 → R' v H2 H3 → R v H1 H3) : EvR (tCall (pur D) [] E t) σ H R := fun H1 a Q q =>
  h H1 a _ fun vs H2 e s => by
    obtain ⟨R', d, k⟩ := hd vs H1 H2 a e s
    exact ⟨R', d, fun v H3 e' r => q v H3 (e.trans e') (k v H3 e' r)⟩
/-- all arguments stand -/
theorem er_callA {vs : List V} (h : EvA t σ H vs) (hd : ∀ H1, Ex H H1 → D (vs ++ []) H1 R) (hR : Bk R) : EvR (tCall (pur D) [] E t) σ H R := fun H1 a Q q =>
  h H1 a _ fun H2 e => ⟨R, hd H2 (a.trans e), fun v H3 e' r => q v H3 (e.trans e') (hR v H1 H2 H3 e r)⟩
theorem er_methA {C p dx : Addr} {m : Str} {fs : List (Str × V)} {vs : List V} (ho : Ev ta σ H (.ref p)) (hp : H p = some (.ins C dx fs)) (hm : fs.lookup m = none) (h : EvA t σ H vs)
    (hd : ∀ H1, Ex H H1 → D (.ref p :: (vs ++ [])) H1 R) (hR : Bk R) : EvR (tMeth C m (pur D) [] E ta t) σ H R := fun H1 a Q q =>
  ho H1 a _ fun H2 e => ⟨p, dx, fs, rfl, (a.trans e) _ _ hp, hm, h H2 (a.trans e) _ fun H3 e2 => ⟨R, hd H3 ((a.trans e).trans e2), fun v H4 e' r => q v H4 ((e.trans e2).trans e') (hR v H1 H3 H4 (e.trans e2) r)⟩⟩
theorem er_methR {C p dx : Addr} {m : Str} {fs : List (Str × V)} (ho : Ev ta σ H (.ref p)) (hp : H p = some (.ins C dx fs)) (hm : fs.lookup m = none) (h : EvAR t σ H S) (hR : Bk R)
    (hd : ∀ vs H1 H2, Ex H H1 → Ex H1 H2 → S vs H1 H2 → ∃ R', D (.ref p :: (vs ++ [])) H2 R' ∧ ∀ v H3, Ex H2 H3 → R' v H2 H3 → R v H1 H3) : EvR (tMeth C m (pur D) [] E ta t) σ H R := fun H1 a Q q =>
  ho H1 a _ fun H2 e => ⟨p, dx, fs, rfl, (a.trans e) _ _ hp, hm, h H2 (a.trans e) _ fun vs H3 e2 s => by
    obtain ⟨R', d, k⟩ := hd vs H2 H3 (a.trans e) e2 s
    exact ⟨R', d, fun v H4 e' r => q v H4 ((e.trans e2).trans e') (hR v H1 H2 H4 e (k v H4 e' r))⟩⟩
end

/-! ### a def of the text, a method, by its body -/
abbrev FD (K : PySem.W.Frag) (d : He.DefD) : Prop := ∃ fd, FunD K d.name d.qual d.params d.body d.scope (d.dvs K) (d.kws K) (He.fAd K d.at_) fd
section
variable {P : Program} {w : World} {K : PySem.W.Frag} {mg : Str → Option Value} {base : Heap}
theorem fn_k {x qual : Str} {params : Arguments} {body : List Stmt} {scope : Scope} {dvs : List V} {kws : List (Str × V)} {f : Addr} {fd : FuncData} {N ps : List Str} {k : Nat} {sp : Sp} (F : FunD K x qual params body scope dvs kws f fd) (S : FnScope N ps scope) (len : ∀ vs H Q E, sp vs H Q E → vs.length = ps.length)
    (hbody : ∀ (cdv : Value) (A : Around) (outer : List Env) (s : Shared) (H : Hp) (vs : List V) (Q : VK) (E : XK), Room k (A.deeper (envOfC qual scope s.heap.objs.size f cdv)) → sp vs H Q E →
      ∃ t, PSs (cxOf C8.CX0 P w K mg base N qual scope f cdv A outer s H E).nox body t ∧ t { nx := fun _ H' => Q .non H', rt := Q } (start N vs) H) : FnOk P w K mg base C8.CX0 (k + 1) f fd ps sp :=
  F.ok S len fun cdv A outer s H vs Q E hr hs => by
    obtain ⟨t, h, q⟩ := hbody cdv A outer s H vs Q E hr hs
    exact ⟨t, h.nox, q⟩
/-- a def without defaults -/
theorem cal_k {x : Str} {params : Arguments} {body : List Stmt} {scope : Scope} {f : Addr} {N ps : List Str} {k : Nat} {sp : Sp} (F : ∃ fd, FunD K x x params body scope [] [] f fd) (g : mg x = some (.ref f)) (S : FnScope N ps scope)
    (hb : ∀ (kV doc pm : Value) (an : Option Addr) (cdv ct : Value) (us : List Value), us.length = ps.length → bindArgs (PySem.W.fnOf x x params body scope .none kV doc pm an cdv ct) ⟨us, []⟩ = pure (ps.zip us))
    (len : ∀ vs H Q E, sp vs H Q E → vs.length = ps.length)
    (hbody : ∀ (cdv : Value) (A : Around) (outer : List Env) (s : Shared) (H : Hp) (vs : List V) (Q : VK) (E : XK), Room k (A.deeper (envOfC x scope s.heap.objs.size f cdv)) → sp vs H Q E →
      ∃ t, PSs (cxOf C8.CX0 P w K mg base N x scope f cdv A outer s H E).nox body t ∧ t { nx := fun _ H' => Q .non H', rt := Q } (start N vs) H) : C8.Cal P w K mg base (k + 1) x sp [] := by
  obtain ⟨fd, F⟩ := F
  exact ⟨f, fd, ps, [], fn_k F S len hbody, g, F.kp, F.bindsN hb, .nil⟩
theorem met_k {m qual : Str} {C : Addr} {params : Arguments} {body : List Stmt} {scope : Scope} {f : Addr} {N ps : List Str} {k : Nat} {sp : Sp} (c : Cls K C) (me : Meth K C m f) (F : ∃ fd, FunD K m qual params body scope [] [] f fd) (S : FnScope N ps scope)
    (hb : ∀ (kV doc pm : Value) (an : Option Addr) (cdv ct : Value) (us : List Value), us.length = ps.length → bindArgs (PySem.W.fnOf m qual params body scope .none kV doc pm an cdv ct) ⟨us, []⟩ = pure (ps.zip us))
    (len : ∀ vs H Q E, sp vs H Q E → vs.length = ps.length)
    (hbody : ∀ (cdv : Value) (A : Around) (outer : List Env) (s : Shared) (H : Hp) (vs : List V) (Q : VK) (E : XK), Room k (A.deeper (envOfC qual scope s.heap.objs.size f cdv)) → sp vs H Q E →
      ∃ t, PSs (cxOf C8.CX0 P w K mg base N qual scope f cdv A outer s H E).nox body t ∧ t { nx := fun _ H' => Q .non H', rt := Q } (start N vs) H) : C8.Met P w K mg base (k + 1) C m sp [] := by
  obtain ⟨fd, F⟩ := F
  exact ⟨f, fd, ps, [], c, me, fn_k F S len hbody, F.bindsN hb, .nil⟩
end

/-! ### what stands in the heap -/
abbrev svs (xs : List Str) : List V := xs.map V.str
abbrev ivs (xs : List Int) : List V := xs.map V.int
abbrev rvs (xs : List Addr) : List V := xs.map V.ref
/-- a relation of kinds: the kinds, the pairs, both in ascending order -/
structure Kd where
  sk : List Str
  sp : List (Str × Str)
def ord2 (a b : Str) : Str × Str := if a.cps.toList ≤ b.cps.toList then (a, b) else (b, a)
def Kd.fit (d : Kd) (a b : Str) : Bool := decide (ord2 a b ∈ d.sp)
def Kd.mates (d : Kd) (k : Str) : List Str := d.sk.filter (d.fit k)
abbrev suF (k p m : Addr) : List (Str × V) := [("its_kinds", .ref k), ("its_pairs", .ref p), ("its_mates", .ref m)]
def PairAt (H : Hp) (a : Addr) (p : Str × Str) : Prop := H a = some (.tup [.str p.1, .str p.2])
structure SuAt (K : PySem.W.Frag) (H : Hp) (S : Addr) (d : Kd) (k p m dx : Addr) (ma : Str → Addr) (pa : List Addr) : Prop where
  ins : H S = some (.ins (He.ga K "Suits") dx (suF k p m))
  kinds : H k = some (.lst (svs d.sk))
  pairs : H p = some (.lst (rvs pa))
  pair : Paired (PairAt H) pa d.sp
  mates : H m = some (.dK (d.sk.map fun x => (.inr x, .ref (ma x))))
  mate : ∀ x ∈ d.sk, H (ma x) = some (.lst (svs (d.mates x)))
def Su (K : PySem.W.Frag) (H : Hp) (S : Addr) (d : Kd) : Prop := ∃ k p m dx ma pa, SuAt K H S d k p m dx ma pa
theorem paired_ex {α β : Type} {F G : α → β → Prop} (h : ∀ a b, F a b → G a b) {as : List α} {bs : List β} (x : Paired F as bs) : Paired G as bs := Paired.mapP x h
theorem SuAt.ex {K : PySem.W.Frag} {H H' : Hp} {S : Addr} {d : Kd} {k p m dx : Addr} {ma : Str → Addr} {pa : List Addr} (s : SuAt K H S d k p m dx ma pa) (e : Ex H H') : SuAt K H' S d k p m dx ma pa :=
  ⟨e _ _ s.ins, e _ _ s.kinds, e _ _ s.pairs, Paired.mapP s.pair fun a b h => e _ _ h, e _ _ s.mates, fun x hx => e _ _ (s.mate x hx)⟩
theorem Su.ex {K : PySem.W.Frag} {H H' : Hp} {S : Addr} {d : Kd} (s : Su K H S d) (e : Ex H H') : Su K H' S d := by
  obtain ⟨k, p, m, dx, ma, pa, s⟩ := s
  exact ⟨k, p, m, dx, ma, pa, s.ex e⟩
end K64
namespace K64
open PySem PySem.Spec PyProof.Rows L2 Evl
/-! ### what a comprehension or a loop walks -/
def EvI (wi : TI) (σ : L2.St) (H : Hp) (n : Nat) (Y : Nat → Hp → V → Hp → Prop) : Prop :=
  ∀ H1, Ex H H1 → ∀ R : It → Hp → Prop, (∀ J G H2, Ex H1 H2 → Walk J n G Y → G H2 → (∀ A B, Ex A B → G A → G B) → R J H2) → wi σ H1 R
section
variable {K : PySem.W.Frag} {σ : L2.St} {H : Hp} {te : TE} {ta : TA} {a b : Addr} {xs ys : List V}
theorem ei_list (h : Ev te σ H (.ref a)) (hx : SqL K H a xs) : EvI (iList K te) σ H xs.length (YAt xs) := fun H1 e R k =>
  h H1 e _ fun H2 e2 => ⟨a, rfl, ⟨xs, ex_l (e.trans e2) hx⟩, k _ _ H2 e2 walk_list (ex_l (e.trans e2) hx) fun A B e3 g => ex_l e3 g⟩
theorem ei_listN (h : EvL te σ H xs) : EvI (iList K te) σ H xs.length (YAt xs) := fun H1 e R k =>
  h H1 e _ fun p H2 hp e2 h2 => ⟨p, rfl, ⟨xs, sq_of h2⟩, k _ _ H2 e2 walk_list (sq_of h2) fun A B e3 g => ex_l e3 g⟩
theorem ei_tup (h : Ev te σ H (.ref a)) (hx : SqT K H a xs) : EvI (iTup K te) σ H xs.length (YAt xs) := fun H1 e R k =>
  h H1 e _ fun H2 e2 => ⟨a, rfl, ⟨xs, ex_t (e.trans e2) hx⟩, k _ _ H2 e2 walk_tup (ex_t (e.trans e2) hx) fun A B e3 g => ex_t e3 g⟩
theorem ei_tupN (h : EvU te σ H xs) : EvI (iTup K te) σ H xs.length (YAt xs) := fun H1 e R k =>
  h H1 e _ fun p H2 hp e2 h2 => ⟨p, rfl, ⟨xs, st_of h2⟩, k _ _ H2 e2 walk_tup (st_of h2) fun A B e3 g => ex_t e3 g⟩
theorem ei_str {z : Str} (h : Ev te σ H (.str z)) : EvI (iStr te) σ H z.cps.size (fun i H v H' => H' = H ∧ ∃ c, z.cps[i]? = some c ∧ v = .str ⟨#[c]⟩) := fun H1 e R k =>
  h H1 e _ fun H2 e2 => ⟨z, rfl, k _ _ H2 e2 walk_str True.intro fun _ _ _ g => g⟩
theorem ei_rng {j : Int} (h : EvA ta σ H [.int j]) (h0 : -100000 ≤ j ∧ j ≤ 100000) : EvI (iRng1 ta) σ H j.toNat (YFn fun i => .int (i : Nat)) := fun H1 e R k =>
  h H1 e _ fun H2 e2 => ⟨j, rfl, by omega, by omega, k _ (fun _ => True) H2 e2 (walk_range.mono (fun _ h => h) fun i H x H' _ _ y => ⟨y.1, by rw [y.2]; exact congrArg V.int (Int.zero_add _)⟩) True.intro fun _ _ _ g => g⟩
theorem ei_enumA (h : EvA ta σ H [.ref a]) (hx : SqL K H a xs) : EvI (iEnum K ta) σ H xs.length (YPair (fun i => some (.int (i : Nat))) (fun i => xs[i]?)) := fun H1 e R k =>
  h H1 e _ fun H2 e2 => ⟨a, xs, rfl, ex_l (e.trans e2) hx, k _ _ H2 e2 walk_enum (ex_l (e.trans e2) hx) fun A B e3 g => ex_l e3 g⟩
theorem ei_enumN (h : EvL te σ H xs) : EvI (iEnum K (tCons te tNil)) σ H xs.length (YPair (fun i => some (.int (i : Nat))) (fun i => xs[i]?)) := fun H1 e R k =>
  h H1 e _ fun p H2 hp e2 h2 => ⟨p, xs, rfl, sq_of h2, k _ _ H2 e2 walk_enum (sq_of h2) fun A B e3 g => ex_l e3 g⟩
theorem ei_zip {S : List V → Hp → Hp → Prop} {n : Nat} (h : EvAR ta σ H S) (hn : n = min xs.length ys.length) (hS : ∀ vs H1 H2, Ex H H1 → Ex H1 H2 → S vs H1 H2 → ∃ a b, vs = [.ref a, .ref b] ∧ SqL K H2 a xs ∧ SqL K H2 b ys) :
    EvI (iZip K ta) σ H n (YPair (fun i => xs[i]?) (fun i => ys[i]?)) := fun H1 e R k =>
  h H1 e _ fun vs H2 e2 s => by
    obtain ⟨a, b, rfl, h1, h2⟩ := hS vs H1 H2 e e2 s
    exact ⟨a, b, xs, ys, rfl, h1, h2, k _ _ H2 e2 (walk_zip hn) ⟨h1, h2⟩ fun A B e3 g => ⟨ex_l e3 g.1, ex_l e3 g.2⟩⟩
end
/-- the heap without what stands at D -/
def hideA (D : Addr) (H : Hp) : Hp := fun b => if b = D then none else H b
theorem hideA_ex (D : Addr) (H : Hp) : Ex (hideA D H) H := fun b o h => by
  unfold hideA at h
  by_cases e : b = D
  · rw [if_pos e] at h
    cases h
  · rw [if_neg e] at h
    exact h
theorem hideA_ne {D b : Addr} {H : Hp} (h : b ≠ D) : hideA D H b = H b := if_neg h
theorem hideA_mono {D : Addr} {H H' : Hp} (e : Ex H H') : Ex (hideA D H) (hideA D H') := fun b o h => by
  by_cases q : b = D
  · rw [q] at h
    unfold hideA at h
    rw [if_pos rfl] at h
    cases h
  · rw [hideA_ne q] at h ⊢
    exact e _ _ h
theorem hideA_upd {D : Addr} {H : Hp} {o : HO} : hideA D (upd H D o) = hideA D H := by
  funext b
  by_cases q : b = D
  · unfold hideA
    rw [if_pos q, if_pos q]
  · rw [hideA_ne q, hideA_ne q, upd_ne q]
theorem paired_snoc {α β : Type} {F : α → β → Prop} : ∀ {as : List α} {bs : List β} {a : α} {b : β}, Paired F as bs → F a b → Paired F (as ++ [a]) (bs ++ [b])
  | _, _, _, _, .nil, h => .cons h .nil
  | _, _, _, _, .cons r t, h => .cons r (paired_snoc t h)
theorem paired_map {α β : Type} {g : α → β} : ∀ {as : List α} {bs : List β}, Paired (fun a b => b = g a) as bs → bs = as.map g
  | _, _, .nil => rfl
  | _, _, .cons r t => by rw [List.map_cons, ← paired_map t, r]
/-- a new list whose items are, each for each, as F tells -/
def RComp {α : Type} (ys : List α) (F : α → V → Hp → Prop) : Rel := fun v H1 H2 => ∃ p vs, v = .ref p ∧ H1 p = none ∧ H2 p = some (.lst vs) ∧ Paired (fun y v => F y v H2) ys vs
theorem bk_comp {α : Type} {ys : List α} {F : α → V → Hp → Prop} : Bk (RComp ys F) := fun _ _ _ _ e r => by
  obtain ⟨p, vs, h1, h2, h3, h4⟩ := r
  exact ⟨p, vs, h1, fresh_back e h2, h3, h4⟩
section
variable {α : Type} {K : PySem.W.Frag} {σ : L2.St} {H : Hp} {wi : TI} {g : TG} {tt : TT} {te : TE} {vs : List Nat} {n : Nat} {Y : Nat → Hp → V → Hp → Prop}
/-- [elt for target in iter if ..], by what each turn gives -/
theorem er_comp (hI : EvI wi σ H n Y) (ys : List α) (hn : ys.length = n) (hz : n ≤ 100000) (p : α → Bool) (Rl : α → Rel) (F : α → V → Hp → Prop) (hF : ∀ y v A B, Ex A B → F y v A → F y v B) (hR : ∀ y v A B D, H D = none → Ex H A → A D ≠ none → Ex A B → Rl y v A B → F y v (hideA D B))
    (turn : ∀ i y x H1 H2, ys[i]? = some y → Ex H H1 → Y i H1 x H2 → Ex H1 H2 ∧ ∀ Qg : L2.St → Hp → Prop, (∀ σ2 H3, Ex H2 H3 → wipe σ2 vs = wipe σ vs → EvT tt σ2 H3 (p y) → (p y = true → EvR te σ2 H3 (Rl y)) → Qg σ2 H3) → g x (wipe σ vs) H2 Qg) :
    EvR (tLc wi g tt te vs) σ H (RComp (ys.filter p) F) := fun H0 e0 Q q => hI H0 e0 _ fun J G H1 e1 hw hg hgm D hD => by
  refine lc_it hw (fun i H' => Ex H1 H' ∧ ∃ acc, H' D = some (.lst acc) ∧ Paired (fun y v => F y v (hideA D H')) ((ys.take i).filter p) acc) ⟨Ex.new hD, [], upd_same, .nil⟩ (fun i H' _ h => hgm _ _ h.1 hg) (fun i x H2 H3 hi h y => ?_) (fun H' h => ?_)
  · obtain ⟨e2, acc, hacc, hp⟩ := h
    have hi' : i < ys.length := by omega
    have hyi : ys[i]? = some ys[i] := List.getElem?_eq_getElem hi'
    obtain ⟨e3, t⟩ := turn i ys[i] x H2 H3 hyi ((e0.trans e1).trans e2) y
    refine t _ fun σ2 H4 e4 hwp ht he => ⟨hwp, ?_⟩
    have etake : ys.take (i + 1) = ys.take i ++ [ys[i]] := by rw [List.take_add_one, hyi]; rfl
    refine ht H4 (Ex.refl H4) _ fun H5 e5 => ?_
    have hacc5 : H5 D = some (.lst acc) := e5 _ _ (e4 _ _ (e3 _ _ hacc))
    have hp5 : Paired (fun y v => F y v (hideA D H5)) ((ys.take i).filter p) acc := Paired.mapP hp fun a b f => hF _ _ _ _ (hideA_mono ((e3.trans e4).trans e5)) f
    cases hpy : p ys[i] with
    | false =>
      rw [if_neg Bool.false_ne_true]
      refine ⟨((e2.trans e3).trans e4).trans e5, acc, hacc5, ?_⟩
      rw [etake, List.filter_append, List.filter_cons, if_neg (by rw [hpy]; decide), List.filter_nil, List.append_nil]
      exact hp5
    | true =>
      rw [if_pos rfl]
      refine he hpy H5 e5 _ fun v H6 e6 r => ?_
      have hacc6 : H6 D = some (.lst acc) := e6 _ _ hacc5
      have lacc : acc.length ≤ i := by
        have l := Paired.length hp
        have l2 := List.length_filter_le p (ys.take i)
        rw [List.length_take] at l2
        omega
      refine ⟨acc, hacc6, sz_lt (by omega), Ex.mut ((((e2.trans e3).trans e4).trans e5).trans e6) hD, acc ++ [v], upd_same, ?_⟩
      rw [etake, List.filter_append, List.filter_cons, if_pos hpy, List.filter_nil, hideA_upd]
      exact paired_snoc (Paired.mapP hp5 fun a b f => hF _ _ _ _ (hideA_mono e6) f) (hR _ _ _ _ D (fresh_back (e0.trans e1) hD) (((((e0.trans e1).trans e2).trans e3).trans e4).trans e5) (by rw [hacc5]; simp) e6 r)
  · obtain ⟨e2, acc, hacc, hp⟩ := h
    refine q (.ref D) H' (e1.trans e2) ⟨D, acc, rfl, fresh_back e1 hD, hacc, ?_⟩
    rw [List.take_of_length_le (by omega)] at hp
    exact Paired.mapP hp fun a b f => hF _ _ _ _ (hideA_ex _ _) f
/-- .. whose items are values -/
theorem el_comp (hI : EvI wi σ H n Y) (ys : List α) (hn : ys.length = n) (hz : n ≤ 100000) (p : α → Bool) (f : α → V)
    (turn : ∀ i y x H1 H2, ys[i]? = some y → Ex H H1 → Y i H1 x H2 → Ex H1 H2 ∧ ∀ Qg : L2.St → Hp → Prop, (∀ σ2 H3, Ex H2 H3 → wipe σ2 vs = wipe σ vs → EvT tt σ2 H3 (p y) → (p y = true → Ev te σ2 H3 (f y)) → Qg σ2 H3) → g x (wipe σ vs) H2 Qg) :
    EvL (tLc wi g tt te vs) σ H ((ys.filter p).map f) := by
  refine el_of (EvR.imp (er_comp hI ys hn hz p (fun y => RV (f y)) (fun y v _ => v = f y) (fun _ _ _ _ _ h => h) (fun _ _ _ _ _ _ _ _ _ h => h) fun i y x H1 H2 hy e yy => ?_) fun v H1 H2 _ _ r => ?_)
  · obtain ⟨e2, k⟩ := turn i y x H1 H2 hy e yy
    exact ⟨e2, fun Qg kk => k Qg fun σ2 H3 e3 hw ht he => kk σ2 H3 e3 hw ht fun hp => er_v (he hp)⟩
  · obtain ⟨p, vs, rfl, h1, h2, h3⟩ := r
    rw [paired_map h3] at h2
    exact ⟨p, rfl, h1, h2⟩
/-- over a list of ys, each as c tells, the target a name -/
theorem el_compN {xs : List V} {j : Nat} {wi : TI} {tt : TT} {te : TE} (c : α → V) {ys : List α} (hI : EvI wi σ H xs.length (YAt xs)) (hx : xs = ys.map c) (hz : ys.length ≤ 100000) (p : α → Bool) (f : α → V) (hw : ∀ x, wipe ((wipe σ vs).set j (some x)) vs = wipe σ vs)
    (ht : ∀ y ∈ ys, ∀ H1, Ex H H1 → EvT tt ((wipe σ vs).set j (some (c y))) H1 (p y)) (he : ∀ y ∈ ys, p y = true → ∀ H1, Ex H H1 → Ev te ((wipe σ vs).set j (some (c y))) H1 (f y)) : EvL (tLc wi (gName j) tt te vs) σ H ((ys.filter p).map f) := by
  subst hx
  refine el_comp hI ys (by rw [List.length_map]) (by rw [List.length_map]; exact hz) p f fun i y x H1 H2 hy e yy => ?_
  obtain ⟨rfl, hx⟩ := yy
  rw [List.getElem?_map, hy] at hx
  have ex : c y = x := Option.some.inj hx
  subst ex
  have hm := List.mem_of_getElem? hy
  exact ⟨Ex.refl _, fun Qg k => k _ _ (Ex.refl _) (hw _) (ht y hm _ e) fun hp => he y hm hp _ e⟩
theorem et_yes {σ : L2.St} {H : Hp} : EvT tYes σ H true := fun H1 _ _ q => q H1 (Ex.refl H1)
end
end K64
set_option Elab.async false
set_option linter.all false
set_option maxRecDepth 100000
set_option maxHeartbeats 4000000
/-! Operators of our own: in over data, sorted of data, a text times a number, xs[i] op= e. -/
namespace K64
open PySem PySem.Spec PyProof.Rows L2 Evl PySem.W
section
variable {X : Cx}
/-- whether x is in xs, items that are data of one type -/
inductive IsInD (K : PySem.W.Frag) (H : Hp) (x : V) (xs : List V) : Bool → Prop
  | mk {α : Type} [DecidableEq α] [Datum α] (a : α) (as : List α) (ha : Dp K H x (Datum.toD a)) (has : DpAll K H xs (as.map Datum.toD)) (hd : Datum.depth α ≤ 60) : IsInD K H x xs (decide (a ∈ as))
def rInD (K : PySem.W.Frag) (neg : Bool) : R2 := fun x y H Q => ∃ (p : Addr) (xs : List V) (b : Bool), y = .ref p ∧ SqL K H p xs ∧ IsInD K H x xs b ∧ Q (.bl (if neg then !b else b)) H
theorem op_inD {k : Nat} (hr : Room k X.A) : OpR X (compareOp .In) (rInD X.K false) := by
  intro pins s σ H x y v u Q I rx ry h
  obtain ⟨p, xs, b, rfl, hs, ⟨a, as, ha, has, hd⟩, q⟩ := h
  obtain rfl : u = Value.ref p := ry
  obtain ⟨its, rv, pl, _⟩ := I.list hs
  obtain ⟨bs, r1⟩ := Dp.reads I _ x v ha rx
  obtain ⟨cs, r2⟩ := Dp.readsAll I _ xs its has rv
  have hu := hr.units
  exact in_list_datum (xs := as) (x := a) pl.isList ⟨cs, by simpa using r2⟩ ⟨bs, r1⟩ (by omega) ⟨.bl _, H, I, rfl, q⟩
theorem op_notinD {k : Nat} (hr : Room k X.A) : OpR X (compareOp .NotIn) (rInD X.K true) := by
  intro pins s σ H x y v u Q I rx ry h
  obtain ⟨p, xs, b, rfl, hs, ⟨a, as, ha, has, hd⟩, q⟩ := h
  obtain rfl : u = Value.ref p := ry
  obtain ⟨its, rv, pl, _⟩ := I.list hs
  obtain ⟨bs, r1⟩ := Dp.reads I _ x v ha rx
  obtain ⟨cs, r2⟩ := Dp.readsAll I _ xs its has rv
  have hu := hr.units
  exact notIn_list_datum (xs := as) (x := a) pl.isList ⟨cs, by simpa using r2⟩ ⟨bs, r1⟩ (by omega) ⟨.bl _, H, I, by simp only [decide_not]; rfl, q⟩
/-- sorted(xs) of data that are alike -/
def rSortedD (K : PySem.W.Frag) : List V → Hp → VK → Prop := fun vs H Q => ∃ (a : Addr) (β : Type) (enc : β → PyData) (zs : List (V × β)), vs = [.ref a] ∧ SqL K H a (zs.map Prod.fst) ∧ (∀ z ∈ zs, Dp K H z.1 (enc z.2)) ∧
  AllAlike (zs.map fun z => enc z.2) ∧ Sortable (zs.map fun z => enc z.2) ∧ zs.length ≤ 100000 ∧ (∀ z ∈ zs, (enc z.2).depth ≤ 40) ∧ ∀ p, H p = none → Q (.ref p) (upd H p (.lst ((zs.mergeSort (dataLe false fun z => enc z.2)).map Prod.fst)))
theorem each_vals {β : Type} : ∀ {zs : List (V × β)} {its : List Value}, Vals (zs.map Prod.fst) its → EachIs (fun v (z : V × β) => RelV z.1 v) its zs
  | [], _, .nil => .nil
  | z :: zs, _, .cons r t => .cons r (each_vals t)
theorem vals_each {β : Type} : ∀ {zs : List (V × β)} {its : List Value}, EachIs (fun v (z : V × β) => RelV z.1 v) its zs → Vals (zs.map Prod.fst) its
  | [], _, .nil => .nil
  | z :: zs, _, .cons r t => .cons r (vals_each t)
theorem each_reads {β : Type} {enc : β → PyData} {pins : List (Addr × Obj)} {σ : L2.St} {H : Hp} {s : Shared} (I : Inv X pins σ H s) : ∀ {zs : List (V × β)} {its : List Value}, (∀ z ∈ zs, Dp X.K H z.1 (enc z.2)) → EachIs (fun v (z : V × β) => RelV z.1 v) its zs → EachIs (fun v (z : V × β) => ∃ as, Reads s.heap v (enc z.2) as) its zs
  | [], _, _, .nil => .nil
  | z :: zs, _, h, .cons r t => .cons (Dp.reads I _ _ _ (h z List.mem_cons_self) r) (each_reads I (fun y hy => h y (List.mem_cons_of_mem _ hy)) t)
theorem cr_sortedD {k : Nat} (hr : Room k X.A) : CallR X (.builtin "sorted") (rSortedD X.K) := by
  intro pins s σ H vs us Q I r h
  obtain ⟨a, β, enc, zs, rfl, hs, hd, hal, hk, hz, hdep, q⟩ := h
  obtain ⟨its, rv, hl, _⟩ := I.list hs
  rw [Vals.ref1 r]
  have e := each_vals rv
  have hu := hr.units
  refine PySem.W.sorted_data (enc := fun z : V × β => enc z.2) hl.isList e (each_reads I hd e) hal hk (sz_of hz) (fun z hz => ?_) fun out ho eo => ?_
  · have := hdep z hz
    omega
  · obtain ⟨ep, he'⟩ := PyProof.Rows.sortedAll_at s.heap its out.toArray
    have hlen : ((zs.mergeSort (dataLe false fun z => enc z.2)).map Prod.fst).length ≤ sizeLine := by rw [List.length_map, List.length_mergeSort]; exact sz_of hz
    exact ⟨.ref _, upd H (s.heap.objs.size + 1) (.lst ((zs.mergeSort (dataLe false fun z => enc z.2)).map Prod.fst)), I.laid (t' := s.toks) (fun _ _ => PyProof.Rows.sortedAll_old) (Nat.le_succ _) ⟨hlen, out, ep, vals_each eo, he'⟩, rfl, q _ (I.hok.fresh (Nat.le_succ _))⟩
/-- a sign times a number -/
def rMulS : R2 := fun x y H Q => ∃ (c n : Nat), x = .str ⟨#[c]⟩ ∧ y = .int (n : Int) ∧ 1 ≤ n ∧ n ≤ 1000 ∧ Q (.str ⟨(List.replicate n c).toArray⟩) H
theorem rep_fold (c : Nat) : ∀ (n : Nat) (acc : Array Nat), (List.replicate n #[c]).foldl (· ++ ·) acc = acc ++ (List.replicate n c).toArray
  | 0, acc => by simp
  | n + 1, acc => by
    rw [List.replicate_succ, List.foldl_cons, rep_fold c n, List.replicate_succ]
    apply Array.ext'
    simp
theorem op_mul_str : OpR X (binaryOp .Mult) rMulS := by
  intro pins s σ H x y v u Q I rx ry h
  obtain ⟨c, n, rfl, rfl, h1, h2, q⟩ := h
  obtain ⟨t, rfl⟩ := rx
  obtain ⟨t', rfl⟩ := ry
  have ex : Txt.mul ⟨#[c]⟩ (n : Int) = ⟨(List.replicate n c).toArray⟩ := by
    unfold Txt.mul
    rw [if_neg (by omega)]
    by_cases hn : n = 1
    · subst hn
      rfl
    · rw [if_neg (by
        have l1 : ((⟨#[c]⟩ : Str).length == 0) = false := rfl
        rw [l1, Bool.or_false]
        simp
        omega)]
      show (⟨(List.replicate ((n : Int)).toNat #[c]).foldl (· ++ ·) #[]⟩ : Str) = _
      rw [rep_fold]
      simp
  refine SB.mul ⟨by simp; omega, fun _ _ => ?_, fun _ _ => ?_⟩ fun t k => ⟨.str ⟨(List.replicate n c).toArray⟩, H, I.tok _, ⟨t, by rw [ex]⟩, q⟩
  · show ¬ ((1 : Nat) : Int) > (2 ^ 63 - 1) / (n : Int)
    have : (1 : Int) ≤ (2 ^ 63 - 1) / (n : Int) := Int.le_ediv_of_mul_le (by omega) (by omega)
    omega
  · show Builtin.Str.tooLong (1 * (n : Int).toNat) = false
    rw [Nat.one_mul, Int.toNat_natCast]
    unfold Builtin.Str.tooLong
    simp
    rw [sizeLine_eq]
    omega
/-- xs[i], by values, ahead of xs[i] op= e -/
def rGetL (K : PySem.W.Frag) : V → V → Hp → VK → Prop := fun o i H Q => ∃ p xs v, ∃ k : Nat, o = .ref p ∧ i = .int (k : Int) ∧ SqL K H p xs ∧ xs[k]? = some v ∧ Q v H
theorem get_list : PGet X (rGetL X.K) := by
  intro pins s σ H o i ov iv Q I ro ri h
  obtain ⟨p, xs, v, k, rfl, rfl, hs, hv, q⟩ := h
  obtain rfl : ov = Value.ref p := ro
  obtain ⟨t, rfl⟩ := ri
  obtain ⟨its, r, pl, hz⟩ := I.list hs
  obtain ⟨w, ew, rw'⟩ := r.get hv
  have hl := r.length
  have hk := (List.getElem?_eq_some_iff.mp hv).1
  rw [sizeLine_eq] at hz
  exact wpAny_getItem_list pl.isList (by omega) (by omega) (by simpa using ew) ⟨v, H, I, rw', q⟩
end
/-! ### what they give -/
theorem dec_eq {p : Prop} (i j : Decidable p) : @decide p i = @decide p j := by congr
theorem filt_tt {α : Type} (l : List α) : (l.filter fun _ => true) = l := List.filter_eq_self.mpr fun _ _ => rfl
section
variable {K : PySem.W.Frag} {σ : L2.St} {H : Hp} {te ta tb : TE} {b : Bool} {v : V}
theorem pe_gi {X : Cx} {x : Str} {pos : Pos} {i : Int} (h : ∃ t, X.mg x = some (.int i t)) (hg : Gl X x := by rfl) (hd : (x == ("__debug__" : Str)) = false := by decide) : PE X (.Name x pos) (tC (.int i)) := by
  obtain ⟨t, h⟩ := h
  exact pe_glob hg h ⟨t, rfl⟩ hd
theorem pe_gs {X : Cx} {x : Str} {pos : Pos} {z : Str} (h : ∃ t, X.mg x = some (.str z t)) (hg : Gl X x := by rfl) (hd : (x == ("__debug__" : Str)) = false := by decide) : PE X (.Name x pos) (tC (.str z)) := by
  obtain ⟨t, h⟩ := h
  exact pe_glob hg h ⟨t, rfl⟩ hd
theorem ev_fld {a C dx : Addr} {fs : List (Str × V)} {f : Str} (ha : Ev ta σ H (.ref a)) (ho : H a = some (.ins C dx fs)) (hc : Cls K C) (hn : NoAttr K C f) (hl : fs.lookup f = some v) : Ev (tFld K ta f) σ H v := fun H1 e Q q =>
  ha H1 e _ fun H2 e2 => ⟨a, C, dx, fs, v, rfl, (e.trans e2) _ _ ho, hc, hn, hl, q H2 e2⟩
theorem ev_any {α : Type} {ys : List α} {g : α → Bool} (h : EvL te σ H ((ys.filter fun _ => true).map fun y => V.bl (g y))) : Ev (tCB (rAny K) (tCons te tNil)) σ H (.bl (ys.any g)) := fun H1 e Q q =>
  h H1 e _ fun p H2 hp e2 h2 => ⟨p, ys.map g, rfl, sq_of (by rw [h2, filt_tt, List.map_map]; rfl), by rw [List.any_map]; exact q H2 e2⟩
theorem ev_all {α : Type} {ys : List α} {g : α → Bool} (h : EvL te σ H ((ys.filter fun _ => true).map fun y => V.bl (g y))) : Ev (tCB (rAll K) (tCons te tNil)) σ H (.bl (ys.all g)) := fun H1 e Q q =>
  h H1 e _ fun p H2 hp e2 h2 => ⟨p, ys.map g, rfl, sq_of (by rw [h2, filt_tt, List.map_map]; rfl), by rw [List.all_map]; exact q H2 e2⟩
theorem et_er (h : EvR te σ H (RV (.bl b))) : EvT (tTest te) σ H b := et_test (ev_of h)
/-- a text in a list of texts -/
theorem inV_svs (x : Str) (xs : List Str) : inV (.str x) (svs xs) = decide (x ∈ xs) := by
  unfold inV
  rw [Bool.eq_iff_iff, List.any_eq_true, decide_eq_true_eq]
  constructor
  · rintro ⟨y, hy, e⟩
    obtain ⟨z, hz, rfl⟩ := List.mem_map.mp hy
    have e' : decide (z = x) = true := by
      first
        | exact e
        | simpa [eqV] using e
    rw [← of_decide_eq_true e']
    exact hz
  · intro hx
    refine ⟨.str x, List.mem_map.mpr ⟨x, hx, rfl⟩, ?_⟩
    simp [eqV]
theorem flat_svs (xs : List Str) : (svs xs).all flatV = true := by
  rw [List.all_eq_true]
  intro y hy
  obtain ⟨z, _, rfl⟩ := List.mem_map.mp hy
  rfl
theorem ev_inS {x : Str} {xs : List Str} {p : Addr} (ha : Ev ta σ H (.str x)) (hb : Ev tb σ H (.ref p)) (h : SqL K H p (svs xs)) : Ev (tOp (rIn K false) ta tb) σ H (.bl (decide (x ∈ xs))) :=
  ev_is (ev_op ha hb (rv_isL h rfl (flat_svs xs))) (by rw [inV_svs])
theorem ev_niS {x : Str} {xs : List Str} {p : Addr} (ha : Ev ta σ H (.str x)) (hb : Ev tb σ H (.ref p)) (h : SqL K H p (svs xs)) : Ev (tOp (rIn K true) ta tb) σ H (.bl (!decide (x ∈ xs))) :=
  ev_is (ev_op ha hb (rv_niL h rfl (flat_svs xs))) (by rw [inV_svs])
/-- d[k], d a dict of text keys -/
theorem ev_dget {d : Addr} {kvs : List (Key × V)} {k : Str} (hd : Ev ta σ H (.ref d)) (hk : Ev tb σ H (.str k)) (h : H d = some (.dK kvs)) (hv : valV kvs (Sum.inr k) = some v) : Ev (tDGet ta tb) σ H v := fun H1 e Q q =>
  hd H1 e _ fun H2 e2 => hk H2 (e.trans e2) _ fun H3 e3 => ⟨d, v, rfl, by
    have g := DGet.k (k := Sum.inr k) (((e.trans e2).trans e3) _ _ h)
    rw [hv] at g
    exact g, q H3 (e2.trans e3)⟩
theorem valV_map {α : Type} (f : α → Str) (g : α → V) : ∀ {l : List α} {x : α}, (∀ a ∈ l, ∀ b ∈ l, f a = f b → a = b) → x ∈ l → valV (l.map fun a => ((Sum.inr (f a) : Key), g a)) (Sum.inr (f x)) = some (g x)
  | [], _, _, h => by cases h
  | a :: l, x, inj, h => by
    by_cases e : f a = f x
    · have ea : a = x := inj a List.mem_cons_self x h e
      subst ea
      simp [valV]
    · have hx : x ∈ l := by
        rcases List.mem_cons.mp h with q | q
        · rw [q] at e
          exact absurd rfl e
        · exact q
      have ih := valV_map f g (fun a ha b hb => inj a (List.mem_cons_of_mem _ ha) b (List.mem_cons_of_mem _ hb)) hx
      unfold valV at ih ⊢
      rw [List.map_cons, List.find?_cons_of_neg (by simpa using e)]
      exact ih
theorem Su.mate {S : Addr} {d : Kd} {k p m dx : Addr} {ma : Str → Addr} {pa : List Addr} (s : SuAt K H S d k p m dx ma pa) {x : Str} (hx : x ∈ d.sk) : valV (d.sk.map fun x => ((Sum.inr x : Key), V.ref (ma x))) (Sum.inr x) = some (.ref (ma x)) := valV_map (fun a => a) (fun a => .ref (ma a)) (fun _ _ _ _ e => e) hx
theorem dp_pair {a : Addr} {p : Str × Str} (h : PairAt H a p) : Dp K H (.ref a) (Datum.toD p) := Dp.tup (st_of h) (.cons (.str _) (.cons (.str _) .nil))
theorem dp_pairs : ∀ {pa : List Addr} {ps : List (Str × Str)}, Paired (PairAt H) pa ps → DpAll K H (rvs pa) (ps.map Datum.toD)
  | _, _, .nil => .nil
  | _, _, .cons r t => .cons (dp_pair r) (dp_pairs t)
theorem dp_svs : ∀ xs : List Str, DpAll K H (svs xs) (xs.map Datum.toD)
  | [] => .nil
  | x :: xs => .cons (.str x) (dp_svs xs)
theorem dp_list {a : Addr} {xs : List Str} (h : SqL K H a (svs xs)) : Dp K H (.ref a) (Datum.toD xs) := Dp.lst h (dp_svs xs)
end
/-! ### the layer's rules with the written part as a letter of its own (within a comprehension's block too) -/
section
variable {X : Cx} {K : PySem.W.Frag} {k : Nat}
theorem k_fld {e : Expr} {f : Str} {pos : Pos} {ta : TE} (hK : X.K = K) (he : PE X e ta) (hb : attributeBase e f X.env (eval e X.env) = eval e X.env) : PE X (.Attribute e f pos) (tFld K ta f) := by
  subst hK
  exact pe_fld he hb
theorem k_in (hK : X.K = K) : OpR X (compareOp .In) (rIn K false) := by
  subst hK
  exact op_in_seq
theorem k_notIn (hK : X.K = K) : OpR X (compareOp .NotIn) (rIn K true) := by
  subst hK
  exact op_notIn_seq
theorem k_inD (hK : X.K = K) (hr : Room k X.A) : OpR X (compareOp .In) (rInD K false) := by
  subst hK
  exact op_inD hr
theorem k_notInD (hK : X.K = K) (hr : Room k X.A) : OpR X (compareOp .NotIn) (rInD K true) := by
  subst hK
  exact op_notinD hr
theorem k_eqD (hK : X.K = K) (hr : Room k X.A) : OpR X (compareOp .Eq) (rEqD K) := by
  subst hK
  exact op_eqD hr.units
theorem k_neD (hK : X.K = K) (hr : Room k X.A) : OpR X (compareOp .NotEq) (rNeD K) := by
  subst hK
  exact op_neD hr.units
theorem k_ixL (hK : X.K = K) : IxR X (rIxL K) := by
  subst hK
  exact ix_list
theorem k_ixT (hK : X.K = K) : IxR X (rIxT K) := by
  subst hK
  exact ix_tup
theorem k_any (hK : X.K = K) (hc : X.calm = true) : CallR X (.builtin "any") (rAny K) := by
  subst hK
  exact cr_any hc
theorem k_all (hK : X.K = K) (hc : X.calm = true) : CallR X (.builtin "all") (rAll K) := by
  subst hK
  exact cr_all hc
theorem k_min (hK : X.K = K) (hc : X.calm = true) : CallR X (.builtin "min") (rMin K) := by
  subst hK
  exact cr_min hc
theorem k_sortedS (hK : X.K = K) : CallR X (.builtin "sorted") (rSortedS K) := by
  subst hK
  exact cr_sortedS
theorem k_sortedD (hK : X.K = K) (hr : Room k X.A) : CallR X (.builtin "sorted") (rSortedD K) := by
  subst hK
  exact cr_sortedD hr
theorem k_len (hK : X.K = K) : CallR X (.builtin "len") (rLenS K) := by
  subst hK
  exact call_len_seq
theorem k_list (hK : X.K = K) : CallR X (.type "list") (rListS K) := by
  subst hK
  exact call_list_of
def rTupS (K : PySem.W.Frag) : List V → Hp → VK → Prop := fun xs H Q => ∃ p ys, xs = [.ref p] ∧ ((SqL K H p ys ∧ ∀ l, H l = none → Q (.ref l) (upd H l (.tup ys))) ∨ (SqT K H p ys ∧ Q (.ref p) H))
theorem k_tuple (hK : X.K = K) : CallR X (.type "tuple") (rTupS K) := by
  subst hK
  exact call_tuple_of
theorem k_isi (hK : X.K = K) : CallR X (.builtin "isinstance") (rIsi K) := by
  subst hK
  exact call_isi
theorem k_isiT (hK : X.K = K) : CallR X (.builtin "isinstance") (rIsiT K) := by
  subst hK
  exact call_isiT
theorem k_slL (hK : X.K = K) : SlR X (rSlL K) := by
  subst hK
  exact sl_list
theorem k_piList {tg l : Expr} {tl : TE} (hK : X.K = K) (hl : PE X l tl) : PI X tg l (iList K tl) := by
  subst hK
  exact pi_list hl
theorem k_piTup {tg l : Expr} {tl : TE} (hK : X.K = K) (hl : PE X l tl) : PI X tg l (iTup K tl) := by
  subst hK
  exact pi_tup hl
theorem k_piEnum {e : Expr} {ta : TA} {p pos tpos : Pos} {elts : List Expr} {kk : Nat} (hK : X.K = K) (hg : Gl X "enumerate") (hm : X.mg "enumerate" = none) (ha : PA X [e] ta) (hs : starEach [e] X.env = [(false, eval e X.env)] := by rfl) :
    PI X (.Tuple elts kk tpos) (.Call (.Name "enumerate" p) [e] [] pos) (iEnum K ta) := by
  subst hK
  exact pi_enum hg hm ha hs
theorem k_piZip {e e2 : Expr} {ta : TA} {p pos tpos : Pos} {elts : List Expr} {kk : Nat} (hK : X.K = K) (hg : Gl X "zip") (hm : X.mg "zip" = none) (ha : PA X [e, e2] ta)
    (hs : starEach [e, e2] X.env = (false, eval e X.env) :: starEach [e2] X.env := by rfl) (hpl : (backTo pos (starEach [e2] X.env)).any (·.1) = false := by rfl) : PI X (.Tuple elts kk tpos) (.Call (.Name "zip" p) [e, e2] [] pos) (iZip K ta) := by
  subst hK
  exact pi_zip hg hm ha hs hpl
theorem k_pgTup {es : List Expr} {kk : Nat} {pos : Pos} {t : TGs} {n : Nat} (hK : X.K = K) (hc : X.calm = true) (h : PGs X es t) (hn : (assignEach es X.env).length = n := by rfl) (hst : (assignEach es X.env).findIdx? (·.1) = none := by rfl) : PG X (.Tuple es kk pos) (gTup K n t) := by
  subst hK
  exact pg_tup hc h hn hst
theorem k_bm {id T : String} {r : V → List V → Hp → VK → Prop} {o e : Expr} {es : List Expr} {name : Str} {apos cpos : Pos} {to : TE} {t : TA} (hK : X.K = K) (pa : PlainAttrs T) (slot : Slot T name id) (hty : typeOf (.builtin id) = pure (.type "method_descriptor")) (hm : MtR X id r) (ho : PE X o to) (ha : PA X (e :: es) t)
    (hbase : attributeBase o name X.env (eval o X.env) = eval o X.env := by rfl)
    (hfew : ((backTo cpos (starEach (e :: es) X.env)).all (fun x => !x.1) && (backToKw cpos (keywordEach [] X.env)).all (fun x => x.1.isSome)
      && decide ((e :: es).length + ([] : List Keyword).length + (if ([] : List Keyword).isEmpty then 0 else 1) < 30)) = true := by rfl)
    (hline : (apos.endLine == cpos.line) = true := by rfl) (hs : starEach (e :: es) X.env = (false, eval e X.env) :: starEach es X.env := by rfl) (hplain : (backTo cpos (starEach es X.env)).any (·.1) = false := by rfl) :
    PE X (.Call (.Attribute o name apos) (e :: es) [] cpos) (tBM K T r to t) := by
  subst hK
  exact pe_bm pa slot hty hm ho ha hbase hfew hline hs hplain
theorem k_revL {e : Expr} {te : TE} {kk : Nat} {p1 p2 p3 pos : Pos} (hK : X.K = K) (he : PE X e te) : PE X (.Subscript e (.Slice none none (some (.UnaryOp .USub (.Constant (.int 1) kk p1) p2)) p3) pos) (tRevL K te) := by
  subst hK
  exact pe_revL he
def rJoin (K : PySem.W.Frag) : V → List V → Hp → VK → Prop := fun x xs H Q => ∃ a p, ∃ ys : List Str, x = .str a ∧ xs = [.ref p] ∧ (SqL K H p (ys.map V.str) ∨ SqT K H p (ys.map V.str)) ∧ (ys.map (·.length)).sum + ys.length * a.length ≤ 16777216 ∧ Q (.str (Txt.join a ys)) H
theorem k_join {o e : Expr} {to te : TE} {apos pos : Pos} (hK : X.K = K) (ho : PE X o to) (he : PE X e te) (hs : starEach [e] X.env = [(false, eval e X.env)] := by rfl) (hbase : attributeBase o "join" X.env (eval o X.env) = eval o X.env := by rfl) (hline : (apos.endLine == pos.line) = true := by rfl) :
    PE X (.Call (.Attribute o "join" apos) [e] [] pos) (tM1 (rJoin K) to te) := by
  subst hK
  exact pe_join ho he hs hbase hline
theorem k_star {e : Expr} {es : List Expr} {p : Pos} {te : TE} {t : TA} (hK : X.K = K) (he : PE X e te) (hr : PA X es t) (hs : starEach (.Starred e p :: es) X.env = (true, eval e X.env) :: starEach es X.env := by rfl) : PA X (.Starred e p :: es) (StX.tStar K te t) := by
  subst hK
  exact StX.pa_star he hr hs
theorem k_get (hK : X.K = K) : PGet X (rGetL K) := by
  subst hK
  exact get_list
end
end K64
set_option Elab.async false
set_option linter.all false
set_option maxRecDepth 100000
set_option maxHeartbeats 4000000
/-! The small defs of suits.py. -/
namespace K64
open PySem PySem.Spec PyProof.Rows L2 Evl
section
variable {P : Program} {w : World} {K : PySem.W.Frag} {mg : Str → Option Value} {base : Heap}
/-! ### in_order -/
def spIn_order : Sp := pur fun vs _ R => ∃ a b, vs = [.str a, .str b] ∧ R = RU [.str (ord2 a b).1, .str (ord2 a b).2]
theorem sc_in_order : FnScope ["one", "other"] ["one", "other"] (defScope s_in_order) := C8.fnScope_by (by decide +kernel)
theorem ok_in_order (T : Tp K mg) (F : FD K d_in_order) : C8.Cal P w K mg base 1 "in_order" spIn_order [] := by
  refine cal_k F T.g_in_order sc_in_order (fun _ _ _ _ _ _ us hl => match us, hl with | [_, _], _ => rfl) (fun vs H Q E h => ?_) (fun cdv A outer s H vs Q E hr h => ?_)
  · obtain ⟨R, ⟨a, b, rfl, _⟩, _⟩ := h
    rfl
  · obtain ⟨R, ⟨a, b, rfl, rfl⟩, q⟩ := h
    refine ⟨_, (pss_one (ps_ret (pe_ifExp (pt_cmpR op_le_str (pv 0) (pv 1) (nomark _)) (pe_tup (pa_cons (pv 0) (pa_cons (pv 1) pa_nil))) (pe_tup (pa_cons (pv 1) (pa_cons (pv 0) pa_nil)))))), ?_⟩
    refine ⟨_, rfl, _, rfl, a, b, rfl, rfl, _, rfl, ?_⟩
    unfold ord2 at q
    by_cases h : a.cps.toList ≤ b.cps.toList
    · rw [PySem.W.not_lt_str, decide_eq_true h]
      rw [if_pos h] at q
      refine iteT ?_
      exact s_retR (D := { nx := fun _ H' => Q .non H', rt := Q }) (er_u (eu_tup (ea_cons (ev_var rfl) (ea_cons (ev_var rfl) ea_nil)) (by simp))) q
    · rw [PySem.W.not_lt_str, decide_eq_false h]
      rw [if_neg h] at q
      refine iteF ?_
      exact s_retR (D := { nx := fun _ H' => Q .non H', rt := Q }) (er_u (eu_tup (ea_cons (ev_var rfl) (ea_cons (ev_var rfl) ea_nil)) (by simp))) q
/-! ### Suits.kinds, Suits.pairs -/
def spKinds (K : PySem.W.Frag) : Sp := pur fun vs H R => ∃ S d, vs = [.ref S] ∧ Su K H S d ∧ R = RL (svs d.sk)
theorem sc_S_kinds : FnScope ["self"] ["self"] (defScope s_S_kinds) := C8.fnScope_by (by decide +kernel)
theorem ok_S_kinds (T : Tp K mg) (F : FD K d_S_kinds) : C8.Met P w K mg base 1 (He.ga K "Suits") "kinds" (spKinds K) [] := by
  refine met_k T.cl T.m_kinds F sc_S_kinds (fun _ _ _ _ _ _ us hl => match us, hl with | [_], _ => rfl) (fun vs H Q E h => ?_) (fun cdv A outer s H vs Q E hr h => ?_)
  · obtain ⟨R, ⟨S, d, rfl, _⟩, _⟩ := h
    rfl
  · obtain ⟨R, ⟨S, d, rfl, ⟨k, p, m, dx, ma, pa, hS⟩, rfl⟩, q⟩ := h
    refine ⟨_, (pss_one (ps_ret (pe_callTy (k_list (K := K) rfl) (by rfl) T.f_list PyProof.Rows.boot_list (pa_cons (k_fld (K := K) rfl (pv 0) rfl) pa_nil)))), ?_⟩
    exact s_retR (er_l (el_list (ev_fld (ev_var rfl) hS.ins T.cl T.n_its_kinds rfl) (SqL.of hS.kinds))) q
/-! ### Suits.mates_in -/
def spMates_in (K : PySem.W.Frag) : Sp := pur fun vs H R => ∃ (S dx k l : Addr) (fs : List (Str × V)) (sk : List Str) (found : List (Str × Str)) (pa : List Addr) (kind : Str), vs = [.ref S, .ref l, .str kind] ∧ H S = some (.ins (He.ga K "Suits") dx fs) ∧ fs.lookup ("its_kinds" : Str) = some (.ref k) ∧ H k = some (.lst (svs sk)) ∧ sk.length ≤ 100 ∧
  H l = some (.lst (rvs pa)) ∧ Paired (PairAt H) pa found ∧ R = RL (svs (sk.filter fun o => decide (ord2 kind o ∈ found)))
theorem sc_S_mates_in : FnScope ["self", "pairs", "kind", "other"] ["self", "pairs", "kind"] (defScope s_S_mates_in) := C8.fnScope_by (by decide +kernel)
theorem ok_S_mates_in (T : Tp K mg) (F : FD K d_S_mates_in) (c_in_order : C8.Cal P w K mg base 1 "in_order" spIn_order []) : C8.Met P w K mg base 2 (He.ga K "Suits") "mates_in" (spMates_in K) [] := by
  refine met_k T.cl T.m_mates_in F sc_S_mates_in (fun _ _ _ _ _ _ us hl => match us, hl with | [_, _, _], _ => rfl) (fun vs H Q E h => ?_) (fun cdv A outer s H vs Q E hr h => ?_)
  · obtain ⟨R, ⟨S, dx, k, l, fs, sk, found, pa, kind, rfl, _⟩, _⟩ := h
    rfl
  · obtain ⟨R, ⟨S, dx, k, l, fs, sk, found, pa, kind, rfl, hS, hk, hsk, hlen, hl, hpa, rfl⟩, q⟩ := h
    refine ⟨_, (pss_one (ps_ret (pe_lc (own := [("other", 3)]) (g := (gName 3)) (by rfl) (sc_S_mates_in).nd (k_piList (K := K) rfl (k_fld (K := K) rfl (pv 0) rfl)) (blkOk_by (own := [("other", 3)]) (N := ["self", "pairs", "kind", "other"]) (sc := defScope s_S_mates_in) (by decide +kernel)) (fun _ _ _ _ _ => (pg_name (i := 3) (sc_S_mates_in).nd rfl (by first | exact .inl rfl | exact .inr rfl))) (fun _ _ _ _ _ => (pts_one (pt_cmpR (k_inD (K := K) rfl hr) (C8.pe_c c_in_order hr (by decide) (by rfl) (pa_cons (pv 2) (pa_cons (pv 3) pa_nil))) (pv 1) (by rfl)))) (fun _ _ _ _ _ => (pv 3))))), ?_⟩
    refine s_retR (er_l (el_compN (α := Str) V.str (ei_list (ev_fld (ev_var rfl) hS T.cl T.n_its_kinds hk) (SqL.of hsk)) rfl (by omega) (fun o => decide (ord2 kind o ∈ found)) V.str (fun _ => rfl) (fun y hy H1 e => ?_) (fun y hy _ H1 e => ev_var rfl))) q
    refine et_er (er_op (A := RU [.str (ord2 kind y).1, .str (ord2 kind y).2]) (B := RV (.ref l)) (er_callA (ea_cons (ev_var rfl) (ea_cons (ev_var rfl) ea_nil)) (fun H2 _ => ⟨kind, y, rfl, rfl⟩) bk_u) (er_v (ev_var rfl)) fun x z H2 H3 H4 e2 e3 e4 hx hz Q q => ?_)
    obtain ⟨t, rfl, _, ht⟩ := hx
    obtain rfl : z = .ref l := hz
    have ee := ((e.trans e2).trans e3).trans e4
    exact ⟨l, rvs pa, _, rfl, SqL.of (ee _ _ hl), .mk (α := Str × Str) (ord2 kind y) found (dp_pair (e4 _ _ ht)) (dp_pairs (Paired.mapP hpa fun a b h => ee _ _ h)) (by decide), q _ H4 (Ex.refl H4) (by
      show V.bl _ = V.bl _
      rw [if_neg Bool.false_ne_true]
      exact congrArg V.bl (dec_eq _ _))⟩
/-! ### Suits.mates -/
def Kd.matesAll (d : Kd) (ks : List Str) : List Str := d.sk.filter fun k => (d.mates k).any fun o => decide (o ∈ ks)
def spMates (K : PySem.W.Frag) : Sp := pur fun vs H R => ∃ S d l ks, vs = [.ref S, .ref l] ∧ Su K H S d ∧ d.sk.length ≤ 100 ∧ H l = some (.lst (svs ks)) ∧ R = RL (svs (d.matesAll ks))
theorem sc_S_mates : FnScope ["self", "kinds", "kind", "other"] ["self", "kinds"] (defScope s_S_mates) := C8.fnScope_by (by decide +kernel)
theorem mates_len (d : Kd) (x : Str) : (d.mates x).length ≤ d.sk.length := List.length_filter_le _ _
theorem ok_S_mates (T : Tp K mg) (F : FD K d_S_mates) : C8.Met P w K mg base 1 (He.ga K "Suits") "mates" (spMates K) [] := by
  refine met_k T.cl T.m_mates F sc_S_mates (fun _ _ _ _ _ _ us hl => match us, hl with | [_, _], _ => rfl) (fun vs H Q E h => ?_) (fun cdv A outer s H vs Q E hr h => ?_)
  · obtain ⟨R, ⟨S, d, l, ks, rfl, _⟩, _⟩ := h
    rfl
  · obtain ⟨R, ⟨S, d, l, ks, rfl, ⟨k, p, m, dx, ma, pa, hS⟩, hlen, hl, rfl⟩, q⟩ := h
    refine ⟨_, (pss_one (ps_ret (pe_lc (own := [("kind", 2)]) (g := (gName 2)) (by rfl) (sc_S_mates).nd (k_piList (K := K) rfl (k_fld (K := K) rfl (pv 0) rfl)) (blkOk_by (own := [("kind", 2)]) (N := ["self", "kinds", "kind", "other"]) (sc := defScope s_S_mates) (by decide +kernel)) (fun _ _ _ _ _ => (pg_name (i := 2) (sc_S_mates).nd rfl (by first | exact .inl rfl | exact .inr rfl))) (fun _ _ _ _ _ => (pts_one (pt_val (pe_callB (k_any (K := K) rfl rfl) (by rfl) T.f_any boot_any (pa_cons (pe_lc (own := [("other", 3)]) (g := (gName 3)) (by rfl) (sc_S_mates).nd (k_piList (K := K) rfl (pe_dget (hu_of hr) (k_fld (K := K) rfl (pv 0) rfl) (pv 2) (fun _ _ => rfl))) (blkOk_by (own := [("other", 3)]) (by kernel_rfl)) (fun _ _ _ _ _ => (pg_name (i := 3) (sc_S_mates).nd rfl (by first | exact .inl rfl | exact .inr rfl))) (fun _ _ _ _ _ => pts_nil) (fun _ _ _ _ _ => (pe_cmpR (k_in (K := K) rfl) (pv 3) (pv 1) (by rfl)))) pa_nil))))) (fun _ _ _ _ _ => (pv 2))))), ?_⟩
    refine s_retR (er_l (el_compN (α := Str) V.str (ei_list (ev_fld (ev_var rfl) hS.ins T.cl T.n_its_kinds rfl) (SqL.of hS.kinds)) rfl (by omega) (fun k => (d.mates k).any fun o => decide (o ∈ ks)) V.str (fun _ => rfl) (fun y hy H1 e => ?_) (fun y hy _ H1 e => ev_var rfl))) q
    have hS1 := hS.ex e
    refine et_B (ev_any (α := Str) (el_compN V.str (ei_list (ev_dget (ev_fld (ev_var rfl) hS1.ins T.cl T.n_its_mates rfl) (ev_var rfl) hS1.mates (Su.mate hS1 hy)) (SqL.of (hS1.mate y hy))) rfl (by have := mates_len d y; omega) (fun _ => true) _ (fun _ => rfl) (fun _ _ _ _ => et_yes)
      (fun z hz _ H2 e2 => ev_inS (ev_var rfl) (ev_var rfl) (SqL.of (e2 _ _ (e _ _ hl))))))
end
end K64
set_option Elab.async false
set_option linter.all false
set_option maxRecDepth 100000
set_option maxHeartbeats 4000000
/-! More words; defs of suits.py and tables.py. -/
namespace K64
open PySem PySem.Spec PyProof.Rows L2 Evl
/-! ### cuts -/
theorem cut_to (xs : List V) (i : Nat) : cutV xs none (some (i : Int)) = xs.take i := by
  unfold cutV
  rw [HT.sIx_none, HT.sIx_nat, Nat.sub_zero, List.drop_zero]
  by_cases h : i ≤ xs.length
  · rw [Nat.min_eq_left h]
  · rw [Nat.min_eq_right (by omega), List.take_length, List.take_of_length_le (by omega)]
theorem cut_from (xs : List V) (i : Nat) : cutV xs (some (i : Int)) none = xs.drop i := by
  unfold cutV
  rw [HT.sIx_none, HT.sIx_nat]
  by_cases h : i ≤ xs.length
  · rw [Nat.min_eq_left h, List.take_of_length_le (by rw [List.length_drop]; omega)]
  · rw [Nat.min_eq_right (by omega), Nat.sub_self, List.take_zero, List.drop_of_length_le (by omega)]
theorem cut_mid (xs : List V) (i j : Nat) : cutV xs (some (i : Int)) (some ((i + j : Nat) : Int)) = (xs.drop i).take j := by
  unfold cutV
  rw [HT.sIx_nat, HT.sIx_nat]
  by_cases h : i ≤ xs.length
  · rw [Nat.min_eq_left h]
    by_cases h2 : i + j ≤ xs.length
    · rw [Nat.min_eq_left h2, Nat.add_sub_cancel_left]
    · rw [Nat.min_eq_right (by omega), List.take_of_length_le (by rw [List.length_drop]; omega), List.take_of_length_le (by rw [List.length_drop]; omega)]
  · rw [Nat.min_eq_right (by omega), Nat.min_eq_right (by omega), Nat.sub_self, List.take_zero, List.drop_of_length_le (by omega), List.take_nil]
/-! ### a loop that changes nothing that stood -/
section
variable {σ : L2.St} {H : Hp} {wi : TI} {g : TG} {tu tz : TS} {n : Nat} {Y : Nat → Hp → V → Hp → Prop} {D : Ends}
theorem s_forE (hI : EvI wi σ H n Y) (Pv : Nat → L2.St → Hp → Prop) (h0 : ∀ H1, Ex H H1 → Pv 0 σ H1)
    (turn : ∀ Hs i x σ' H1 H2, i < n → Ex H Hs → Ex Hs H1 → Pv i σ' H1 → Y i H1 x H2 → g x σ' H2 fun σ2 H3 => tu { D with nx := fun σ4 H4 => Ex Hs H4 ∧ Pv (i + 1) σ4 H4, ct := fun σ4 H4 => Ex Hs H4 ∧ Pv (i + 1) σ4 H4, bk := D.nx } σ2 H3)
    (done : ∀ σ' H1, Ex H H1 → Pv n σ' H1 → D.nx σ' H1) : tFor wi g tu D σ H := hI H (Ex.refl H) _ fun J G H1 e1 hw hG hm =>
  for_it hw (fun i σ' H' => Ex H1 H' ∧ Pv i σ' H') ⟨Ex.refl _, h0 H1 e1⟩ (fun i σ' H' _ h => hm _ _ h.1 hG) (fun i x σ' H2 H3 hi h y => turn H1 i x σ' H2 H3 hi e1 h.1 h.2 y) fun σ' H' h => done σ' H' (e1.trans h.1) h.2
theorem q_forE (hI : EvI wi σ H n Y) (Pv : Nat → L2.St → Hp → Prop) (h0 : ∀ H1, Ex H H1 → Pv 0 σ H1)
    (turn : ∀ Hs i x σ' H1 H2, i < n → Ex H Hs → Ex Hs H1 → Pv i σ' H1 → Y i H1 x H2 → g x σ' H2 fun σ2 H3 => tu { D with nx := fun σ4 H4 => Ex Hs H4 ∧ Pv (i + 1) σ4 H4, ct := fun σ4 H4 => Ex Hs H4 ∧ Pv (i + 1) σ4 H4, bk := tz D } σ2 H3)
    (done : ∀ σ' H1, Ex H H1 → Pv n σ' H1 → tz D σ' H1) : tSeq (tFor wi g tu) tz D σ H := s_forE (D := { D with nx := tz D }) hI Pv h0 turn done
end
/-! ### instances called -/
structure Ins1 (P : Program) (w : World) (K : PySem.W.Frag) (mg : Str → Option Value) (base : Heap) (k : Nat) (C : Addr) (sp : Sp) : Prop where
  ex : ∃ g, StX.CallO K C g ∧ FnR P w K mg base C8.CX0 k g sp
section
variable {P : Program} {w : World} {K : PySem.W.Frag} {mg : Str → Option Value} {base : Heap}
theorem ins_of {k : Nat} {C : Addr} {sp : Sp} {m qual : Str} {params : Arguments} {body : List Stmt} {scope : Scope} {f : Addr} (me : Meth K C "__call__" f) (F : ∃ fd, FunD K m qual params body scope [] [] f fd) {ps : List Str}
    (hb : ∀ (kV doc pm : Value) (an : Option Addr) (cdv ct : Value) (us : List Value), us.length = ps.length → bindArgs (PySem.W.fnOf m qual params body scope .none kV doc pm an cdv ct) ⟨us, []⟩ = pure (ps.zip us))
    (h : ∀ fd, FunD K m qual params body scope [] [] f fd → FnOk P w K mg base C8.CX0 k f fd ps sp) : Ins1 P w K mg base k C sp := by
  obtain ⟨fd, F⟩ := F
  have ok := h fd F
  have b := F.bindsN hb
  refine ⟨f, ⟨me.at_, me.fn, ?_⟩, fun A outer s H us vs Q E hr e0 r hs => ?_⟩
  · obtain ⟨oc, od, dV, kV, doc, pm, an, cdv, ct, osl, rfl, lk, _⟩ := F.ex
    unfold PySem.W.fnIn
    rw [lk]
  · have hl : us.length = ps.length := by rw [← r.length]; exact ok.len _ _ _ _ hs
    have b1 := b s us (e0.mod.kin.keeps fun b o e => (e0.bs b o e).1) (by rw [List.append_nil]; exact hl)
    rw [List.append_nil] at b1
    exact ok.run A outer s H ⟨us, []⟩ us vs Q E hr e0 b1 r hs
theorem fnr_mono {j k : Nat} {g : Addr} {sp : Sp} (F : FnR P w K mg base C8.CX0 j g sp) (h : j ≤ k) : FnR P w K mg base C8.CX0 k g sp := fun A outer s H us vs Q E hr => F A outer s H us vs Q E (hr.mono h)
/-! ### Suits.__call__ -/
def spCallS (K : PySem.W.Frag) : Sp := pur fun vs H R => ∃ (S : Addr) (d : Kd) (a b : Str), vs = [.ref S, .str a, .str b] ∧ Su K H S d ∧ a ∈ d.sk ∧ b ∈ d.sk ∧ R = RV (.bl (d.fit a b))
theorem sc_S_call : FnScope ["self", "one", "other", "kind"] ["self", "one", "other"] (defScope s_S_call) := C8.fnScope_by (by decide +kernel)
theorem ok_S_call (T : Tp K mg) (F : FD K d_S_call) : Ins1 P w K mg base 1 (He.ga K "Suits") (spCallS K) := by
  refine ins_of T.m_call F (ps := ["self", "one", "other"]) (fun _ _ _ _ _ _ us hl => match us, hl with | [_, _, _], _ => rfl) fun fd F => fn_k F sc_S_call (fun vs H Q E h => ?_) (fun cdv A outer s H vs Q E hr h => ?_)
  · obtain ⟨R, ⟨S, d, a, b, rfl, _⟩, _⟩ := h
    rfl
  · obtain ⟨R, ⟨S, d, a, b, rfl, ⟨k, p, m, dx, ma, pa, hS⟩, ha, hb, rfl⟩, q⟩ := h
    refine ⟨_, (pss_cons (ps_for PassesOwn.never rfl (k_piTup (K := K) rfl (pe_tup (pa_cons (pv 1) (pa_cons (pv 2) pa_nil)))) (pg_name (i := 3) (sc_S_call).nd rfl (.inl rfl))
  (pss_one (ps_if (pt_cmpR (k_notIn (K := K) rfl) (pv 3) (k_fld (K := K) rfl (pv 0) rfl) (by rfl))
  (pss_one ps_never)
  pss_nil)))
  (pss_one (ps_ret (pe_cmpR (k_in (K := K) rfl) (pv 2) (pe_dget (hu_of hr) (k_fld (K := K) rfl (pv 0) rfl) (pv 1) (fun _ _ => rfl)) (by rfl))))), ?_⟩
    refine q_forE (n := 2) (ei_tupN (eu_tup (ea_cons (ev_var rfl) (ea_cons (ev_var rfl) ea_nil)) (by simp))) (fun i σ' H' => ∃ y, σ' = [some (.ref S), some (.str a), some (.str b), y]) (fun H1 e1 => ⟨_, rfl⟩) ?_ ?_
    · rintro Hs i x σ' H1 H2 hi e1 e2 ⟨y, rfl⟩ ⟨rfl, hx⟩
      obtain ⟨z, rfl, hz⟩ : ∃ z, x = V.str z ∧ z ∈ d.sk := by
        match i, hi, hx with
        | 0, _, hx => exact ⟨a, (Option.some.inj hx).symm, ha⟩
        | 1, _, hx => exact ⟨b, (Option.some.inj hx).symm, hb⟩
      have hS1 := (hS.ex e1).ex e2
      refine s_if (b := false) (et_is (et_test (ev_niS (ev_var rfl) (ev_fld (ev_var rfl) hS1.ins T.cl T.n_its_kinds rfl) (SqL.of hS1.kinds))) (by simp [hz])) (fun h => nomatch h) fun _ H3 e3 => ⟨e2.trans e3, _, rfl⟩
    · rintro σ' H1 e1 ⟨y, rfl⟩
      have hS1 := hS.ex e1
      refine s_ret (v := .bl (d.fit a b)) (ev_is (ev_inS (ev_var rfl) (ev_dget (ev_fld (ev_var rfl) hS1.ins T.cl T.n_its_mates rfl) (ev_var rfl) hS1.mates (Su.mate hS1 ha)) (SqL.of (hS1.mate a ha))) ?_) fun H2 e2 => q _ H2 (e1.trans e2) rfl
      congr 1
      unfold Kd.mates
      simp [hb]
end
end K64
set_option Elab.async false
set_option linter.all false
set_option maxRecDepth 100000
set_option maxHeartbeats 4000000
/-! Small defs of tables.py. -/
namespace K64
open PySem PySem.Spec PyProof.Rows L2 Evl
/-- a node: a rest, a rest, a set -/
abbrev Nd := List Str × List Str × List Str
structure NdA (H : Hp) (t a b c : Addr) (n : Nd) : Prop where
  tup : H t = some (.tup [.ref a, .ref b, .ref c])
  one : H a = some (.lst (svs n.1))
  two : H b = some (.lst (svs n.2.1))
  set : H c = some (.lst (svs n.2.2))
def NdAt (H : Hp) (t : Addr) (n : Nd) : Prop := ∃ a b c, NdA H t a b c n
theorem NdA.ex {H H' : Hp} {t a b c : Addr} {n : Nd} (h : NdA H t a b c n) (e : Ex H H') : NdA H' t a b c n := ⟨e _ _ h.tup, e _ _ h.one, e _ _ h.two, e _ _ h.set⟩
theorem NdAt.ex {H H' : Hp} {t : Addr} {n : Nd} (h : NdAt H t n) (e : Ex H H') : NdAt H' t n := by
  obtain ⟨a, b, c, h⟩ := h
  exact ⟨a, b, c, h.ex e⟩
/-- t[i] of a tuple -/
theorem ev_ixT {K : PySem.W.Frag} {σ : L2.St} {H : Hp} {ta tb : TE} {t : Addr} {xs : List V} {v : V} {i : Nat} (ha : Ev ta σ H (.ref t)) (hb : Ev tb σ H (.int (i : Int))) (h : H t = some (.tup xs)) (hv : xs[i]? = some v) : Ev (tOp (rIxT K) ta tb) σ H v :=
  ev_op ha hb (rv_ixT (st_of h) (atI_nat hv))
theorem ev_ixL {K : PySem.W.Frag} {σ : L2.St} {H : Hp} {ta tb : TE} {t : Addr} {xs : List V} {v : V} {i : Nat} (ha : Ev ta σ H (.ref t)) (hb : Ev tb σ H (.int (i : Int))) (h : SqL K H t xs) (hv : xs[i]? = some v) : Ev (tOp (rIxL K) ta tb) σ H v :=
  ev_op ha hb (rv_ixL h (atI_nat hv))
/-- tuple(xs) of a list -/
theorem eu_tuple {K : PySem.W.Frag} {σ : L2.St} {H : Hp} {ta : TE} {p : Addr} {xs : List V} (ha : Ev ta σ H (.ref p)) (h : SqL K H p xs) : EvU (tCB (rTupS K) (tCons ta tNil)) σ H xs := fun H1 e Q q =>
  ha H1 e _ fun H2 e2 => ⟨p, xs, rfl, .inl ⟨ex_l (e.trans e2) h, fun l hl => q l _ (fresh_back e2 hl) (e2.trans (Ex.new hl)) upd_same⟩⟩
/-- a tuple of three new things -/
theorem er_tup3 {σ : L2.St} {H : Hp} {ta tb tc : TE} {A B C : Rel} (ha : EvR ta σ H A) (hb : EvR tb σ H B) (hc : EvR tc σ H C) :
    EvR (tTup (tCons ta (tCons tb (tCons tc tNil)))) σ H (fun v H1 H5 => ∃ t x y z H2 H3 H4, v = .ref t ∧ Ex H1 H2 ∧ Ex H2 H3 ∧ Ex H3 H4 ∧ Ex H4 H5 ∧ A x H1 H2 ∧ B y H2 H3 ∧ C z H3 H4 ∧ H4 t = none ∧ H5 t = some (.tup [x, y, z])) := fun H1 e Q q =>
  ha H1 e _ fun x H2 e2 rx => hb H2 (e.trans e2) _ fun y H3 e3 ry => hc H3 ((e.trans e2).trans e3) _ fun z H4 e4 rz => ⟨by simp [sizeLine_eq], fun t ht => q (.ref t) _ (((e2.trans e3).trans e4).trans (Ex.new ht)) ⟨t, x, y, z, H2, H3, H4, rfl, e2, e3, e4, Ex.new ht, rx, ry, rz, ht, upd_same⟩⟩
theorem er_tup2 {σ : L2.St} {H : Hp} {ta tb : TE} {A B : Rel} (ha : EvR ta σ H A) (hb : EvR tb σ H B) :
    EvR (tTup (tCons ta (tCons tb tNil))) σ H (fun v H1 H4 => ∃ t x y H2 H3, v = .ref t ∧ Ex H1 H2 ∧ Ex H2 H3 ∧ Ex H3 H4 ∧ A x H1 H2 ∧ B y H2 H3 ∧ H3 t = none ∧ H4 t = some (.tup [x, y])) := fun H1 e Q q =>
  ha H1 e _ fun x H2 e2 rx => hb H2 (e.trans e2) _ fun y H3 e3 ry => ⟨by simp [sizeLine_eq], fun t ht => q (.ref t) _ ((e2.trans e3).trans (Ex.new ht)) ⟨t, x, y, H2, H3, rfl, e2, e3, Ex.new ht, rx, ry, ht, upd_same⟩⟩
/-- the result of read -/
def RRead (b : Bool) (r : List Str) : Rel := fun v H1 H2 => ∃ t l, v = .ref t ∧ H1 l = none ∧ H1 t = none ∧ H2 t = some (.tup [.bl b, .ref l]) ∧ H2 l = some (.lst (svs r))
theorem bk_read {b : Bool} {r : List Str} : Bk (RRead b r) := fun _ _ _ _ e h => by
  obtain ⟨t, l, h1, h2, h3, h4⟩ := h
  exact ⟨t, l, h1, fresh_back e h2, fresh_back e h3, h4⟩
def readR (fit : Str → Str → Bool) (rest : List Str) (k : Str) : Bool × List Str := match rest.findIdx? fun n => fit n k with
  | some i => (false, rest.eraseIdx i)
  | none => (true, rest)
theorem el_cat {σ : L2.St} {H : Hp} {ta tb : TE} {xs ys : List V} (ha : EvL ta σ H xs) (hb : EvL tb σ H ys) (hz : xs.length + ys.length ≤ 100000) : EvL (tOp rCat ta tb) σ H (xs ++ ys) := fun H1 e Q q =>
  ha H1 e _ fun p H2 hp e2 h2 => hb H2 (e.trans e2) _ fun p' H3 hp' e3 h3 => ⟨p, p', xs, ys, rfl, rfl, e3 _ _ h2, h3, sz_of hz, fun l hl => q l _ (fresh_back (e2.trans e3) hl) ((e2.trans e3).trans (Ex.new hl)) upd_same⟩
theorem el_catV {σ : L2.St} {H : Hp} {ta tb : TE} {xs ys : List V} {p : Addr} (ha : Ev ta σ H (.ref p)) (hx : H p = some (.lst xs)) (hb : EvL tb σ H ys) (hz : xs.length + ys.length ≤ 100000) : EvL (tOp rCat ta tb) σ H (xs ++ ys) := fun H1 e Q q =>
  ha H1 e _ fun H2 e2 => hb H2 (e.trans e2) _ fun p' H3 hp' e3 h3 => ⟨p, p', xs, ys, rfl, rfl, ((e.trans e2).trans e3) _ _ hx, h3, sz_of hz, fun l hl => q l _ (fresh_back (e2.trans e3) hl) ((e2.trans e3).trans (Ex.new hl)) upd_same⟩
theorem el_catVV {σ : L2.St} {H : Hp} {ta tb : TE} {xs ys : List V} {p r : Addr} (ha : Ev ta σ H (.ref p)) (hx : H p = some (.lst xs)) (hb : Ev tb σ H (.ref r)) (hy : H r = some (.lst ys)) (hz : xs.length + ys.length ≤ 100000) : EvL (tOp rCat ta tb) σ H (xs ++ ys) := fun H1 e Q q =>
  ha H1 e _ fun H2 e2 => hb H2 (e.trans e2) _ fun H3 e3 => ⟨p, r, xs, ys, rfl, rfl, ((e.trans e2).trans e3) _ _ hx, ((e.trans e2).trans e3) _ _ hy, sz_of hz, fun l hl => q l _ (fresh_back (e2.trans e3) hl) ((e2.trans e3).trans (Ex.new hl)) upd_same⟩
theorem el_is {σ : L2.St} {H : Hp} {te : TE} {xs ys : List V} (h : EvL te σ H xs) (e : xs = ys) : EvL te σ H ys := e ▸ h
theorem ev_callS {K : PySem.W.Frag} {X : Cx} {σ : L2.St} {H : Hp} {E : XK} {tf : TE} {t : TA} {S : Addr} {d : Kd} {a b : Str} (hf : Ev tf σ H (.ref S)) (ht : EvA t σ H [.str a, .str b]) (hS : Su K H S d) (ha : a ∈ d.sk) (hb : b ∈ d.sk) : Ev (StX.tCallO X (He.ga K "Suits") (spCallS K) E tf t) σ H (.bl (d.fit a b)) := fun H1 e Q q =>
  hf H1 e _ fun H2 e2 => ⟨S, rfl, ht H2 (e.trans e2) _ fun H3 e3 => ⟨by
    obtain ⟨_, _, _, _, _, _, hS⟩ := hS.ex ((e.trans e2).trans e3)
    exact .inr ⟨_, _, hS.ins⟩, _, ⟨S, d, a, b, rfl, hS.ex ((e.trans e2).trans e3), ha, hb, rfl⟩, fun v H4 e4 r => by
    have r' : v = .bl (d.fit a b) := r
    subst r'
    exact q H4 ((e2.trans e3).trans e4)⟩⟩
theorem svs_len (xs : List Str) : (svs xs).length = xs.length := List.length_map ..
section
variable {P : Program} {w : World} {K : PySem.W.Frag} {mg : Str → Option Value} {base : Heap}
/-! ### read -/
def spRead (K : PySem.W.Frag) : Sp := pur fun vs H R => ∃ (S l : Addr) (d : Kd) (rest : List Str) (k : Str), vs = [.ref S, .ref l, .str k] ∧ Su K H S d ∧ H l = some (.lst (svs rest)) ∧ rest.length ≤ 1000 ∧ (∀ x ∈ rest, x ∈ d.sk) ∧ k ∈ d.sk ∧ R = RRead (readR d.fit rest k).1 (readR d.fit rest k).2
theorem sc_read : FnScope ["suits", "rest", "kind", "index", "newcomer"] ["suits", "rest", "kind"] (defScope s_read) := C8.fnScope_by (by decide +kernel)
theorem ok_read (T : Tp K mg) (F : FD K d_read) (c_S_call : Ins1 P w K mg base 1 (He.ga K "Suits") (spCallS K)) : C8.Cal P w K mg base 2 "read" (spRead K) [] := by
  obtain ⟨g, hc, hF⟩ := c_S_call.ex
  refine cal_k F T.g_read sc_read (fun _ _ _ _ _ _ us hl => match us, hl with | [_, _, _], _ => rfl) (fun vs H Q E h => ?_) (fun cdv A outer s H vs Q E hr h => ?_)
  · obtain ⟨R, ⟨S, l, d, rest, kind, rfl, _⟩, _⟩ := h
    rfl
  · obtain ⟨R, ⟨S, l, d, rest, kind, rfl, hSu, hl, hlen, hin, hk, rfl⟩, q⟩ := h
    refine ⟨_, (pss_cons (ps_for PassesOwn.never rfl (k_piEnum (K := K) rfl (by rfl) T.f_enumerate (pa_cons (pv 1) pa_nil)) (k_pgTup (K := K) rfl rfl (pgs_cons (pg_name (i := 3) (sc_read).nd rfl (.inl rfl)) (pgs_cons (pg_name (i := 4) (sc_read).nd rfl (.inl rfl)) pgs_nil)))
  (pss_one (ps_if (pt_val (StX.pe_callO (E := C8.E0) (pv 0) hc (fnr_mono hF (by decide)) hr C8.pass0 (pa_cons (pv 4) (pa_cons (pv 2) pa_nil))))
  (pss_one (ps_ret (pe_tup (pa_cons pe_bl (pa_cons (pe_op op_cat (pe_slice (k_slL (K := K) rfl) (pv 1) po_none (po_some (pv 3))) (pe_slice (k_slL (K := K) rfl) (pv 1) (po_some (pe_op op_add (pv 3) pe_int)) po_none)) pa_nil)))))
  pss_nil)))
  (pss_one (ps_ret (pe_tup (pa_cons pe_bl (pa_cons (pe_callTy (k_list (K := K) rfl) (by rfl) T.f_list PyProof.Rows.boot_list (pa_cons (pv 1) pa_nil)) pa_nil)))))), ?_⟩
    refine q_forE (ei_enumA (ea_cons (ev_var rfl) ea_nil) (SqL.of hl)) (fun i σ' H' => ∃ y z, σ' = [some (.ref S), some (.ref l), some (.str kind), y, z] ∧ ∀ j, j < i → ∀ x, rest[j]? = some x → d.fit x kind = false) (fun H1 e1 => ⟨_, _, rfl, fun j hj => absurd hj (by omega)⟩) ?_ ?_
    · rintro Hs i x σ' H1 H2 hi e1 e2 ⟨y, z, rfl, hno⟩ ⟨t, u, v, rfl, ht, rfl, hu, hv⟩
      have hu : V.int (i : Int) = u := Option.some.inj hu
      subst hu
      have hi' : i < rest.length := by rw [svs_len] at hi; exact hi
      have hv : V.str rest[i] = v := by
        have hv : (svs rest)[i]? = some v := hv
        rw [List.getElem?_map, List.getElem?_eq_getElem hi'] at hv
        exact Option.some.inj hv
      subst hv
      have e3 : Ex H1 (upd H1 t (.tup [.int (i : Int), .str rest[i]])) := Ex.new ht
      have e13 := (e1.trans e2).trans e3
      have hm : rest[i] ∈ d.sk := hin _ (List.getElem_mem hi')
      refine ⟨t, _, rfl, st_of upd_same, rfl, _, _, rfl, _, _, rfl, ⟨rfl, ?_⟩⟩
      have hSu1 := hSu.ex e13
      refine s_when (et_B (ev_callS (ev_var rfl) (ea_cons (ev_var rfl) (ea_cons (ev_var rfl) ea_nil)) hSu1 hm hk)) (fun hf H4 e4 => ?_) (fun hf H4 e4 => ⟨(e2.trans e3).trans e4, _, _, rfl, fun j hj x hx => ?_⟩)
      · have er : readR d.fit rest kind = (false, rest.eraseIdx i) := by
          unfold readR
          have : rest.findIdx? (fun n => d.fit n kind) = some i := List.findIdx?_eq_some_iff_getElem.mpr ⟨hi', hf, fun j hj => by
            have := hno j hj rest[j] (List.getElem?_eq_getElem (by omega))
            simp [this]⟩
          rw [this]
        have hl4 : H4 l = some (.lst (svs rest)) := e4 _ _ (e13 _ _ hl)
        refine s_retR (er_tup2 (er_v ev_c) (er_l (el_is (el_cat (el_sl (ev_var rfl) eo_none (eo_some (ev_var rfl)) (SqL.of hl4)) (el_sl (ev_var rfl) (eo_some (ev_op (ev_var rfl) ev_c rv_I0)) eo_none (SqL.of hl4)) ?_) (ys := svs (rest.eraseIdx i)) ?_))) fun v H5 e5 r => ?_
        · rw [cut_to, show ((i : Int) + 1) = ((i + 1 : Nat) : Int) by omega, cut_from, List.length_take, List.length_drop, svs_len]
          omega
        · rw [cut_to, show ((i : Int) + 1) = ((i + 1 : Nat) : Int) by omega, cut_from, List.eraseIdx_eq_take_drop_succ, ← List.map_take, ← List.map_drop, ← List.map_append]
        · obtain ⟨t', x, y', H6, H7, rfl, e6, e7, e8, rx, ⟨l', rfl, hl', hl''⟩, ht', ht''⟩ := r
          have rx : x = .bl false := rx
          subst rx
          refine q _ H5 ((e13.trans e4).trans e5) ⟨t', l', rfl, fresh_back ((e13.trans e4).trans e6) hl', fresh_back (((e13.trans e4).trans e6).trans e7) ht', ?_, ?_⟩
          · rw [er]
            exact ht''
          · rw [er]
            exact e8 _ _ hl''
      · rcases Nat.lt_succ_iff_lt_or_eq.mp hj with hj | hj
        · exact hno j hj x hx
        · subst hj
          rw [List.getElem?_eq_getElem hi'] at hx
          rw [← Option.some.inj hx]
          exact hf
    · rintro σ' H1 e1 ⟨y, z, rfl, hno⟩
      have er : readR d.fit rest kind = (true, rest) := by
        unfold readR
        have : rest.findIdx? (fun n => d.fit n kind) = none := List.findIdx?_eq_none_iff.mpr fun x hx => by
          obtain ⟨j, hj, ej⟩ := List.getElem_of_mem hx
          exact hno j (by rw [svs_len]; exact hj) x (by rw [List.getElem?_eq_getElem hj, ej])
        rw [this]
      refine s_retR (er_tup2 (er_v ev_c) (er_l (el_list (ev_var rfl) (SqL.of (e1 _ _ hl))))) fun v H5 e5 r => ?_
      obtain ⟨t', x, y', H6, H7, rfl, e6, e7, e8, rx, ⟨l', rfl, hl', hl''⟩, ht', ht''⟩ := r
      have rx : x = .bl true := rx
      subst rx
      refine q _ H5 (e1.trans e5) ⟨t', l', rfl, fresh_back (e1.trans e6) hl', fresh_back ((e1.trans e6).trans e7) ht', ?_, ?_⟩
      · rw [er]
        exact ht''
      · rw [er]
        exact e8 _ _ hl''
end
end K64
set_option Elab.async false
set_option linter.all false
set_option maxRecDepth 100000
set_option maxHeartbeats 4000000
/-! shortened, next_kinds, key_of, is_kind, are_kinds. -/
namespace K64
open PySem PySem.Spec PyProof.Rows L2 Evl
/-- a gap: a line, a line -/
abbrev Gp := List Str × List Str
def GapAt (H : Hp) (t : Addr) (g : Gp) : Prop := ∃ a b, H t = some (.tup [.ref a, .ref b]) ∧ H a = some (.lst (svs g.1)) ∧ H b = some (.lst (svs g.2))
theorem GapAt.ex {H H' : Hp} {t : Addr} {g : Gp} (h : GapAt H t g) (e : Ex H H') : GapAt H' t g := by
  obtain ⟨a, b, h1, h2, h3⟩ := h
  exact ⟨a, b, e _ _ h1, e _ _ h2, e _ _ h3⟩
def RGap (g : Gp) : Rel := fun v _ H2 => ∃ t, v = .ref t ∧ GapAt H2 t g
theorem bk_gap {g : Gp} : Bk (RGap g) := fun _ _ _ _ _ h => h
theorem er_gap {σ : L2.St} {H : Hp} {ta tb : TE} {xs ys : List Str} (ha : EvL ta σ H (svs xs)) (hb : EvL tb σ H (svs ys)) : EvR (tTup (tCons ta (tCons tb tNil))) σ H (RGap (xs, ys)) :=
  EvR.imp (er_tup2 (er_l ha) (er_l hb)) fun v H1 H2 _ _ r => by
    obtain ⟨t, x, y, H3, H4, rfl, e3, e4, e5, ⟨p, rfl, hp, hp'⟩, ⟨p2, rfl, hp2, hp2'⟩, ht, ht'⟩ := r
    exact ⟨t, rfl, p, p2, ht', e5 _ _ (e4 _ _ hp'), e5 _ _ hp2'⟩
section
variable {P : Program} {w : World} {K : PySem.W.Frag} {mg : Str → Option Value} {base : Heap}
/-! ### shortened -/
def spShort : Sp := pur fun vs H R => ∃ (a b : Addr) (f l : List Str), vs = [.ref a, .ref b] ∧ H a = some (.lst (svs f)) ∧ H b = some (.lst (svs l)) ∧ R = RGap (strip f l)
theorem sc_shortened : FnScope ["first", "last", "at"] ["first", "last"] (defScope s_shortened) := C8.fnScope_by (by decide +kernel)
theorem svs_get {xs : List Str} {n : Nat} {x : Str} (h : xs[n]? = some x) : (svs xs)[n]? = some (.str x) := by
  rw [List.getElem?_map, h]
  rfl
theorem ok_shortened (T : Tp K mg) (F : FD K d_shortened) : C8.Cal P w K mg base 1 "shortened" spShort [] := by
  refine cal_k F T.g_shortened sc_shortened (fun _ _ _ _ _ _ us hl => match us, hl with | [_, _], _ => rfl) (fun vs H Q E h => ?_) (fun cdv A outer s H vs Q E hr h => ?_)
  · obtain ⟨R, ⟨a, b, f, l, rfl, _⟩, _⟩ := h
    rfl
  · obtain ⟨R, ⟨a, b, f, l, rfl, ha, hb, rfl⟩, q⟩ := h
    refine ⟨_, (pss_cons (ps_set (i := 2) (sc_shortened).nd rfl (.inl rfl) pe_int)
  (pss_cons (ps_while PassesOwn.never (PW.pt (pw_and (pt_cmpR op_lt (pv 2) (pe_callB (k_len (K := K) rfl) (by rfl) T.f_len PySem.boot_len (pa_cons (pv 0) pa_nil)) (nomark _)) (pw_and (pt_cmpR op_lt (pv 2) (pe_callB (k_len (K := K) rfl) (by rfl) T.f_len PySem.boot_len (pa_cons (pv 1) pa_nil)) (nomark _)) (pw_and1 (pt_cmpR op_eq (pe_ix (k_ixL (K := K) rfl) (pv 0) (pv 2) (fun _ _ => rfl)) (pe_ix (k_ixL (K := K) rfl) (pv 1) (pv 2) (fun _ _ => rfl)) (nomark _))))))
  (pss_one (ps_aug (i := 2) (sc_shortened).nd rfl (.inl rfl) pe_int ip_add)))
  (pss_one (ps_ret (pe_tup (pa_cons (pe_slice (k_slL (K := K) rfl) (pv 0) (po_some (pv 2)) po_none) (pa_cons (pe_slice (k_slL (K := K) rfl) (pv 1) (po_some (pv 2)) po_none) pa_nil))))))), ?_⟩
    refine q_asg ev_c fun H1 e1 => ?_
    refine q_while (fun m σ' H' => ∃ n : Nat, m = f.length - n ∧ Ex H H' ∧ σ' = [some (.ref a), some (.ref b), some (.int (n : Int))] ∧ strip f l = strip (f.drop n) (l.drop n)) _ ⟨0, rfl, e1, rfl, rfl⟩ ?_
    rintro m σ' H' ⟨n, rfl, e, rfl, es⟩
    have hla := SqL.of (K := K) (e _ _ ha)
    have hlb := SqL.of (K := K) (e _ _ hb)
    refine ⟨decide (n < f.length) && (decide (n < l.length) && decide (f[n]? = l[n]?)), ?_, fun hc H2 e2 => ?_, fun hc H2 e2 => ?_⟩
    · refine et_and (et_is (et_B (ev_op (ev_var rfl) (ev_len (ev_var rfl) hla) rv_I0)) (by simp [svs_len])) fun h1 => et_and (et_is (et_B (ev_op (ev_var rfl) (ev_len (ev_var rfl) hlb) rv_I0)) (by simp [svs_len])) fun h2 => ?_
      have h1 := of_decide_eq_true h1
      have h2 := of_decide_eq_true h2
      refine et_is (et_B (ev_op (ev_ixL (ev_var rfl) (ev_var rfl) hla (svs_get (List.getElem?_eq_getElem h1))) (ev_ixL (ev_var rfl) (ev_var rfl) hlb (svs_get (List.getElem?_eq_getElem h2))) (rv_eq rfl))) ?_
      rw [List.getElem?_eq_getElem h1, List.getElem?_eq_getElem h2]
      simp
    · simp only [Bool.and_eq_true, decide_eq_true_eq] at hc
      obtain ⟨h1, h2, h3⟩ := hc
      rw [List.getElem?_eq_getElem h1, List.getElem?_eq_getElem h2] at h3
      exact ⟨fun σ' H' => ∃ m', m' < f.length - n ∧ ∃ n : Nat, m' = f.length - n ∧ Ex H H' ∧ σ' = [some (.ref a), some (.ref b), some (.int (n : Int))] ∧ strip f l = strip (f.drop n) (l.drop n), fun _ _ h => h, s_aug rfl ev_c fun H3 e3 => ⟨f.length - (n + 1), by omega, n + 1, rfl, (e.trans e2).trans e3, rfl, es.trans (strip_drop h1 h2 (Option.some.inj h3))⟩⟩
    · have e12 := e.trans e2
      refine s_retR (er_gap (xs := (strip f l).1) (ys := (strip f l).2) (el_is (el_sl (ev_var rfl) (eo_some (ev_var rfl)) eo_none (SqL.of (e12 _ _ ha))) ?_) (el_is (el_sl (ev_var rfl) (eo_some (ev_var rfl)) eo_none (SqL.of (e12 _ _ hb))) ?_)) fun v H3 e3 r => q v H3 (e12.trans e3) r
      all_goals
        rw [cut_from, es, strip_stop fun h1 h2 h3 => by
          rw [List.getElem?_eq_getElem h1, List.getElem?_eq_getElem h2, h3] at hc
          simp [h1, h2] at hc]
        simp
/-! ### next_kinds -/
def nextK (d : Kd) (ks : List Str) : List Str := d.sk.filter fun k => !decide (k ∈ d.matesAll ks)
def spNextKinds (K : PySem.W.Frag) : Sp := pur fun vs H R => ∃ S d t n, vs = [.ref S, .ref t] ∧ Su K H S d ∧ d.sk.length ≤ 100 ∧ NdAt H t n ∧ R = RL (svs (nextK d n.2.2))
theorem sc_next_kinds : FnScope ["suits", "node", "barred", "kind"] ["suits", "node"] (defScope s_next_kinds) := C8.fnScope_by (by decide +kernel)
theorem Su.ref {H : Hp} {S : Addr} {d : Kd} (h : Su K H S d) : ∃ dx fs, H S = some (.ins (He.ga K "Suits") dx fs) ∧ ∀ m : Str, m ≠ "its_kinds" → m ≠ "its_pairs" → m ≠ "its_mates" → fs.lookup m = none := by
  obtain ⟨k, p, m, dx, ma, pa, h⟩ := h
  refine ⟨dx, _, h.ins, fun m h1 h2 h3 => ?_⟩
  simp [List.lookup, beq_false_of_ne h1, beq_false_of_ne h2, beq_false_of_ne h3]
/-- suits.kinds() -/
theorem el_kinds {σ : L2.St} {H : Hp} {te : TE} {E : XK} {S : Addr} {d : Kd} (h : Ev te σ H (.ref S)) (hS : Su K H S d) : EvL (tMeth (He.ga K "Suits") "kinds" (spKinds K) [] E te tNil) σ H (svs d.sk) := by
  obtain ⟨dx, fs, h1, h2⟩ := hS.ref
  exact el_of (er_methA h h1 (h2 _ (by decide) (by decide) (by decide)) ea_nil (fun H1 e => ⟨S, d, rfl, hS.ex e, rfl⟩) bk_l)
theorem el_mates {σ : L2.St} {H : Hp} {te ta : TE} {E : XK} {S l : Addr} {d : Kd} {ks : List Str} (h : Ev te σ H (.ref S)) (hS : Su K H S d) (hd : d.sk.length ≤ 100) (ha : Ev ta σ H (.ref l)) (hl : H l = some (.lst (svs ks))) :
    EvL (tMeth (He.ga K "Suits") "mates" (spMates K) [] E te (tCons ta tNil)) σ H (svs (d.matesAll ks)) := by
  obtain ⟨dx, fs, h1, h2⟩ := hS.ref
  exact el_of (er_methA h h1 (h2 _ (by decide) (by decide) (by decide)) (ea_cons ha ea_nil) (fun H1 e => ⟨S, d, l, ks, rfl, hS.ex e, hd, e _ _ hl, rfl⟩) bk_l)
theorem ok_next_kinds (T : Tp K mg) (F : FD K d_next_kinds) (c_S_mates : C8.Met P w K mg base 1 (He.ga K "Suits") "mates" (spMates K) []) (c_S_kinds : C8.Met P w K mg base 1 (He.ga K "Suits") "kinds" (spKinds K) []) : C8.Cal P w K mg base 2 "next_kinds" (spNextKinds K) [] := by
  refine cal_k F T.g_next_kinds sc_next_kinds (fun _ _ _ _ _ _ us hl => match us, hl with | [_, _], _ => rfl) (fun vs H Q E h => ?_) (fun cdv A outer s H vs Q E hr h => ?_)
  · obtain ⟨R, ⟨S, d, t, n, rfl, _⟩, _⟩ := h
    rfl
  · obtain ⟨R, ⟨S, d, t, n, rfl, hS, hd, ⟨a, b, c, hn⟩, rfl⟩, q⟩ := h
    refine ⟨_, (pss_cons (ps_set (i := 2) (sc_next_kinds).nd rfl (.inr rfl) (C8.pe_mt c_S_mates hr (by decide) (pv 0) (pa_cons (pe_ix (k_ixT (K := K) rfl) (pv 1) pe_int (fun _ _ => rfl)) pa_nil)))
  (pss_one (ps_ret (pe_lc (own := [("kind", 3)]) (g := (gName 3)) (by rfl) (sc_next_kinds).nd (k_piList (K := K) rfl (C8.pe_mt0 c_S_kinds hr (by decide) (pv 0))) (blkOk_by (own := [("kind", 3)]) (N := ["suits", "node", "barred", "kind"]) (sc := defScope s_next_kinds) (by decide +kernel)) (fun _ _ _ _ _ => (pg_name (i := 3) (sc_next_kinds).nd rfl (by first | exact .inl rfl | exact .inr rfl))) (fun _ _ _ _ _ => (pts_one (pt_cmpR (k_notIn (K := K) rfl) (pv 3) (pv 2) (by rfl)))) (fun _ _ _ _ _ => (pv 3)))))), ?_⟩
    refine q_asgL (el_mates (ev_var rfl) hS hd (ev_ixT (ev_var rfl) ev_c hn.tup rfl) hn.set) fun p H1 hp e1 h1 => ?_
    refine s_retR (er_l (el_is (el_compN (α := Str) V.str (ei_listN (el_kinds (ev_var rfl) (hS.ex e1))) rfl (by omega) (fun k => !decide (k ∈ d.matesAll n.2.2)) V.str (fun _ => rfl) (fun y hy H2 e => ?_) fun y hy _ H2 e => ev_var rfl) rfl)) fun v H2 e2 r => q v H2 (e1.trans e2) (bk_l _ _ _ _ e1 r)
    exact et_B (ev_niS (ev_var rfl) (ev_var rfl) (SqL.of (e _ _ h1)))
/-! ### key_of -/
/-- a node's key stands: three tuples of texts in a tuple -/
def KeyAt (H : Hp) (t : Addr) (n : Nd) : Prop := ∃ a b c, H t = some (.tup [.ref a, .ref b, .ref c]) ∧ H a = some (.tup (svs n.1)) ∧ H b = some (.tup (svs n.2.1)) ∧ H c = some (.tup (svs n.2.2))
def RKey (n : Nd) : Rel := fun v _ H2 => ∃ t, v = .ref t ∧ KeyAt H2 t n
theorem bk_key {n : Nd} : Bk (RKey n) := fun _ _ _ _ _ h => h
theorem KeyAt.ex {H H' : Hp} {t : Addr} {n : Nd} (h : KeyAt H t n) (e : Ex H H') : KeyAt H' t n := by
  obtain ⟨a, b, c, h1, h2, h3, h4⟩ := h
  exact ⟨a, b, c, e _ _ h1, e _ _ h2, e _ _ h3, e _ _ h4⟩
def spKey : Sp := pur fun vs H R => ∃ t n, vs = [.ref t] ∧ NdAt H t n ∧ R = RKey n
theorem sc_key_of : FnScope ["node"] ["node"] (defScope s_key_of) := C8.fnScope_by (by decide +kernel)
theorem ok_key_of (T : Tp K mg) (F : FD K d_key_of) : C8.Cal P w K mg base 1 "key_of" spKey [] := by
  refine cal_k F T.g_key_of sc_key_of (fun _ _ _ _ _ _ us hl => match us, hl with | [_], _ => rfl) (fun vs H Q E h => ?_) (fun cdv A outer s H vs Q E hr h => ?_)
  · obtain ⟨R, ⟨t, n, rfl, _⟩, _⟩ := h
    rfl
  · obtain ⟨R, ⟨t, n, rfl, ⟨a, b, c, hn⟩, rfl⟩, q⟩ := h
    refine ⟨_, (pss_one (ps_ret (pe_tup (pa_cons (pe_callTy (k_tuple (K := K) rfl) (by rfl) T.f_tuple PyProof.Rows.boot_tuple (pa_cons (pe_ix (k_ixT (K := K) rfl) (pv 0) pe_int (fun _ _ => rfl)) pa_nil)) (pa_cons (pe_callTy (k_tuple (K := K) rfl) (by rfl) T.f_tuple PyProof.Rows.boot_tuple (pa_cons (pe_ix (k_ixT (K := K) rfl) (pv 0) pe_int (fun _ _ => rfl)) pa_nil)) (pa_cons (pe_callTy (k_tuple (K := K) rfl) (by rfl) T.f_tuple PyProof.Rows.boot_tuple (pa_cons (pe_ix (k_ixT (K := K) rfl) (pv 0) pe_int (fun _ _ => rfl)) pa_nil)) pa_nil)))))), ?_⟩
    refine s_retR (er_tup3 (er_u (eu_tuple (ev_ixT (ev_var rfl) ev_c hn.tup rfl) (SqL.of hn.one))) (er_u (eu_tuple (ev_ixT (ev_var rfl) ev_c hn.tup rfl) (SqL.of hn.two))) (er_u (eu_tuple (ev_ixT (ev_var rfl) ev_c hn.tup rfl) (SqL.of hn.set)))) fun v H1 e1 r => q v H1 e1 ?_
    obtain ⟨t', x, y, z, H2, H3, H4, rfl, e2, e3, e4, e5, ⟨p1, rfl, _, h1⟩, ⟨p2, rfl, _, h2⟩, ⟨p3, rfl, _, h3⟩, _, ht⟩ := r
    exact ⟨t', rfl, p1, p2, p3, ht, e5 _ _ (e4 _ _ (e3 _ _ h1)), e5 _ _ (e4 _ _ h2), e5 _ _ h3⟩
end
end K64
set_option Elab.async false
set_option linter.all false
set_option maxRecDepth 100000
set_option maxHeartbeats 4000000
/-! is_kind, are_kinds, is_rest, is_set, is_node. -/
namespace K64
open PySem PySem.Spec PyProof.Rows L2 Evl
section
variable {P : Program} {w : World} {K : PySem.W.Frag} {mg : Str → Option Value} {base : Heap}
/-! ### is_kind, are_kinds -/
def GoodK (z : Str) : Prop := 1 ≤ z.cps.size ∧ z.cps.size ≤ 8 ∧ ∀ c ∈ z.cps.toList, 97 ≤ c ∧ c ≤ 122
theorem ev_isi {σ : L2.St} {H : Hp} {ta : TE} {x : V} {t c : String} {b : Bool} (hx : Ev ta σ H x) (ty : ∀ H1, Ex H H1 → TyX K H1 x (.type t)) (h : kitB t c = some b) : Ev (tCB (rIsi K) (tCons ta (tCons (tC (.ty c)) tNil))) σ H (.bl b) :=
  ev_cb (ea_cons hx (ea_cons ev_c ea_nil)) fun H1 e Q q => ⟨x, .ty c, _, _, b, rfl, .ty c, ty H1 e, kit_ty h, q H1 (Ex.refl H1)⟩
theorem ev_chain {σ : L2.St} {H : Hp} {ta tb tc : TE} {r r' : R2} {x y z : V} {a : Bool} {v : V} (ha : Ev ta σ H x) (hb : Ev tb σ H y) (hc : Ev tc σ H z) (h1 : Evl.RV r x y H (.bl a)) (h2 : Evl.RV r' y z H v) : Ev (tChain r r' ta tb tc) σ H (if a then v else .bl false) := fun H1 e Q q =>
  ha H1 e _ fun H2 e2 => hb H2 (e.trans e2) _ fun H3 e3 => h1 H3 ((e.trans e2).trans e3) _ fun H4 e4 => ⟨a, rfl, by
    cases a with
    | true => exact hc H4 (((e.trans e2).trans e3).trans e4) _ fun H5 e5 => h2 H5 ((((e.trans e2).trans e3).trans e4).trans e5) Q fun H6 e6 => q H6 ((((e2.trans e3).trans e4).trans e5).trans e6)
    | false => exact q H4 ((e2.trans e3).trans e4)⟩
theorem ev_lenS {σ : L2.St} {H : Hp} {ta : TE} {z : Str} (ha : Ev ta σ H (.str z)) (hz : z.cps.size ≤ 100000) : Ev (tCB (fun xs H Q => ∃ z : Str, xs = [.str z] ∧ z.length ≤ sizeLine ∧ Q (.int z.length) H) (tCons ta tNil)) σ H (.int (z.cps.size : Int)) :=
  ev_cb (ea_cons ha ea_nil) fun H1 e Q q => ⟨z, rfl, sz_of hz, q H1 (Ex.refl H1)⟩
theorem ev_inSign {σ : L2.St} {H : Hp} {ta tb : TE} {c : Nat} {z : Str} (ha : Ev ta σ H (.str ⟨#[c]⟩)) (hb : Ev tb σ H (.str z)) : Ev (tOp (fun x y H Q => ∃ (c : Nat) (z : Str), x = .str ⟨#[c]⟩ ∧ y = .str z ∧ Q (.bl (decide (c ∈ z.cps.toList))) H) ta tb) σ H (.bl (decide (c ∈ z.cps.toList))) :=
  ev_op ha hb fun H1 e Q q => ⟨c, z, rfl, rfl, q H1 (Ex.refl H1)⟩
theorem greedy_snoc {α : Type} [DecidableEq α] (th : List α) (k : α) : ∀ (row : List α) (n : Nat), greedy th (row ++ [k]) n = if th[greedy th row n]? = some k then greedy th row n + 1 else greedy th row n
  | [], n => rfl
  | a :: r, n => by
    show greedy th (a :: (r ++ [k])) n = _
    unfold greedy
    exact greedy_snoc th k r _
theorem el_compS {σ : L2.St} {H : Hp} {te tb : TE} {z : Str} {j : Nat} {vs : List Nat} (hs : Ev te σ H (.str z)) (hz : z.cps.size ≤ 100000) (f : Nat → V) (hw : ∀ x, wipe ((wipe σ vs).set j (some x)) vs = wipe σ vs)
    (he : ∀ c ∈ z.cps.toList, ∀ H1, Ex H H1 → Ev tb ((wipe σ vs).set j (some (.str ⟨#[c]⟩))) H1 (f c)) : EvL (tLc (iStr te) (gName j) tYes tb vs) σ H ((z.cps.toList.filter fun _ => true).map f) := by
  refine el_comp (ei_str hs) z.cps.toList (by simp) hz (fun _ => true) f fun i y x H1 H2 hy e yy => ?_
  obtain ⟨rfl, c, hc, rfl⟩ := yy
  have hy' : z.cps[i]? = some y := by rw [← Array.getElem?_toList]; exact hy
  rw [hc] at hy'
  have ec : y = c := (Option.some.inj hy').symm
  subst ec
  exact ⟨Ex.refl _, fun Qg k => k _ _ (Ex.refl _) (hw _) et_yes fun _ => he y (List.mem_of_getElem? hy) _ e⟩
def spIsKind : Sp := pur fun vs _ R => ∃ z, vs = [.str z] ∧ GoodK z ∧ R = RV (.bl true)
theorem sc_is_kind : FnScope ["thing", "letter"] ["thing"] (defScope s_is_kind) := C8.fnScope_by (by decide +kernel)
theorem mem_letters : ∀ c : Nat, 97 ≤ c → c ≤ 122 → c ∈ ("abcdefghijklmnopqrstuvwxyz" : Str).cps.toList := by
  intro c h1 h2
  have : ∀ k : Fin 26, 97 + k.val ∈ ("abcdefghijklmnopqrstuvwxyz" : Str).cps.toList := by decide +kernel
  have := this ⟨c - 97, by omega⟩
  simpa [show 97 + (c - 97) = c by omega] using this
theorem ok_is_kind (T : Tp K mg) (F : FD K d_is_kind) : C8.Cal P w K mg base 1 "is_kind" spIsKind [] := by
  refine cal_k F T.g_is_kind sc_is_kind (fun _ _ _ _ _ _ us hl => match us, hl with | [_], _ => rfl) (fun vs H Q E h => ?_) (fun cdv A outer s H vs Q E hr h => ?_)
  · obtain ⟨R, ⟨z, rfl, _⟩, _⟩ := h
    rfl
  · obtain ⟨R, ⟨z, rfl, ⟨hz1, hz2, hz3⟩, rfl⟩, q⟩ := h
    refine ⟨_, (pss_cons (ps_if (PW.pt (pw_or (pt_not (pt_val (pe_callB (k_isi (K := K) rfl) (by rfl) T.f_isinstance boot_isinstance (pa_cons (pv 0) (pa_cons (pe_bltn (by rfl) T.f_str (by decide +kernel) (v := .ty "str") rfl) pa_nil))))) (pw_or1 (pt_not (pt_chain op_le op_le pe_int (pe_callB call_len_str (by rfl) T.f_len PySem.boot_len (pa_cons (pv 0) pa_nil)) (pe_gi T.i_MOST_LETTERS))))))
  (pss_one (ps_ret pe_bl))
  pss_nil)
  (pss_one (ps_ret (pe_callB (k_all (K := K) rfl rfl) (by rfl) T.f_all boot_all (pa_cons (pe_lc (own := [("letter", 1)]) (g := (gName 1)) (by rfl) (sc_is_kind).nd (pi_str (pv 0)) (blkOk_by (own := [("letter", 1)]) (N := ["thing", "letter"]) (sc := defScope s_is_kind) (by decide +kernel)) (fun _ _ _ _ _ => (pg_name (i := 1) (sc_is_kind).nd rfl (by first | exact .inl rfl | exact .inr rfl))) (fun _ _ _ _ _ => pts_nil) (fun _ _ _ _ _ => (pe_cmpR op_in_sign (pv 1) (pe_gs T.s_LETTERS) (by rfl)))) pa_nil))))), ?_⟩
    have c2 : EvT (tTest (tChain _ _ _ _ _)) [some (.str z), none] H true := et_test (ev_is (ev_chain (a := decide ((1 : Int) ≤ (z.cps.size : Int))) ev_c (ev_lenS (z := z) (ev_var (i := 0) rfl) (by omega)) (ev_c (v := .int 8)) (rv_I0 (g := fun i j => .bl (decide (i ≤ j)))) (rv_I0 (g := fun i j => .bl (decide (i ≤ j))))) (by rw [decide_eq_true (by omega), if_pos rfl, decide_eq_true (by omega)]))
    refine q_when (b := false) (et_is (et_or (a := false) (b := false) (et_is (et_not (et_test (ev_isi (b := true) (ev_var rfl) (fun _ _ => .base (.str _)) (by decide +kernel)))) rfl) fun _ => et_is (et_not (a := true) c2) rfl) rfl) (fun h => nomatch h) fun _ H1 e1 => ?_
    refine s_ret (ev_is (ev_all (ys := z.cps.toList) (g := fun _ => true) (el_compS (ev_var rfl) (by omega) _ (fun _ => rfl) fun c hc H2 e2 => ev_is (ev_inSign (ev_var rfl) ev_c) (by rw [decide_eq_true (mem_letters c (hz3 c hc).1 (hz3 c hc).2)]))) (by simp)) fun H2 e2 => q _ H2 (e1.trans e2) rfl
/-! ### are_kinds -/
def spAreKinds : Sp := pur fun vs H R => ∃ l ks, vs = [.ref l] ∧ H l = some (.lst (svs ks)) ∧ ks.length ≤ 1000 ∧ (∀ k ∈ ks, GoodK k) ∧ R = RV (.bl true)
theorem sc_are_kinds : FnScope ["thing", "item"] ["thing"] (defScope s_are_kinds) := C8.fnScope_by (by decide +kernel)
theorem tyx_lst {H : Hp} {l : Addr} {xs : List V} (h : H l = some (.lst xs)) : TyX K H (.ref l) (.type "list") := .base (.lst h)
theorem tyx_tup {H : Hp} {l : Addr} {xs : List V} (h : H l = some (.tup xs)) : TyX K H (.ref l) (.type "tuple") := .base (.tup h)
theorem ok_are_kinds (T : Tp K mg) (F : FD K d_are_kinds) (c_is_kind : C8.Cal P w K mg base 1 "is_kind" spIsKind []) : C8.Cal P w K mg base 2 "are_kinds" spAreKinds [] := by
  refine cal_k F T.g_are_kinds sc_are_kinds (fun _ _ _ _ _ _ us hl => match us, hl with | [_], _ => rfl) (fun vs H Q E h => ?_) (fun cdv A outer s H vs Q E hr h => ?_)
  · obtain ⟨R, ⟨l, ks, rfl, _⟩, _⟩ := h
    rfl
  · obtain ⟨R, ⟨l, ks, rfl, hl, hz, hk, rfl⟩, q⟩ := h
    refine ⟨_, (pss_one (ps_ret (pe_and (pe_callB (k_isi (K := K) rfl) (by rfl) T.f_isinstance boot_isinstance (pa_cons (pv 0) (pa_cons (pe_bltn (by rfl) T.f_list (by decide +kernel) (v := .ty "list") rfl) pa_nil))) (pe_one (pe_callB (k_all (K := K) rfl rfl) (by rfl) T.f_all boot_all (pa_cons (pe_lc (own := [("item", 1)]) (g := (gName 1)) (by rfl) (sc_are_kinds).nd (k_piList (K := K) rfl (pv 0)) (blkOk_by (own := [("item", 1)]) (N := ["thing", "item"]) (sc := defScope s_are_kinds) (by decide +kernel)) (fun _ _ _ _ _ => (pg_name (i := 1) (sc_are_kinds).nd rfl (by first | exact .inl rfl | exact .inr rfl))) (fun _ _ _ _ _ => pts_nil) (fun _ _ _ _ _ => (C8.pe_c c_is_kind hr (by decide) (by rfl) (pa_cons (pv 1) pa_nil)))) pa_nil)))))), ?_⟩
    refine s_ret (ev_is (ev_andV (a := true) (b := true) (ev_isi (ev_var rfl) (fun _ e => tyx_lst (e _ _ hl)) (by decide +kernel)) fun _ => ev_is (ev_all (ys := ks) (g := fun _ => true) (el_compN (α := Str) V.str (ei_list (ev_var rfl) (SqL.of hl)) rfl (by omega) (fun _ => true) _ (fun _ => rfl) (fun _ _ _ _ => et_yes) fun y hy _ H2 e2 => ?_)) (by simp)) rfl) fun H2 e2 => q _ H2 e2 rfl
    exact ev_of (er_callA (ea_cons (ev_var rfl) ea_nil) (fun H3 e3 => ⟨y, rfl, hk y hy, rfl⟩) bk_v)
theorem ev_areKinds {σ : L2.St} {H : Hp} {te : TE} {E : XK} {l : Addr} {ks : List Str} (h : Ev te σ H (.ref l)) (hl : H l = some (.lst (svs ks))) (hz : ks.length ≤ 1000) (hk : ∀ k ∈ ks, GoodK k) : Ev (tCall spAreKinds [] E (tCons te tNil)) σ H (.bl true) :=
  ev_of (er_callA (ea_cons h ea_nil) (fun H1 e => ⟨l, ks, rfl, e _ _ hl, hz, hk, rfl⟩) bk_v)
/-! ### is_rest -/
def spIsRest : Sp := pur fun vs H R => ∃ r l row th, vs = [.ref r, .ref l] ∧ H r = some (.lst (svs row)) ∧ H l = some (.lst (svs th)) ∧ row.length ≤ 1000 ∧ (∀ k ∈ row, GoodK k) ∧ th.Sublist row ∧ R = RV (.bl true)
theorem sc_is_rest : FnScope ["row", "thing", "at", "kind"] ["row", "thing"] (defScope s_is_rest) := C8.fnScope_by (by decide +kernel)
theorem ok_is_rest (T : Tp K mg) (F : FD K d_is_rest) (c_are_kinds : C8.Cal P w K mg base 2 "are_kinds" spAreKinds []) : C8.Cal P w K mg base 3 "is_rest" spIsRest [] := by
  refine cal_k F T.g_is_rest sc_is_rest (fun _ _ _ _ _ _ us hl => match us, hl with | [_, _], _ => rfl) (fun vs H Q E h => ?_) (fun cdv A outer s H vs Q E hr h => ?_)
  · obtain ⟨R, ⟨r, l, row, th, rfl, _⟩, _⟩ := h
    rfl
  · obtain ⟨R, ⟨r, l, row, th, rfl, hr', hl, hz, hk, hsub, rfl⟩, q⟩ := h
    refine ⟨_, (pss_cons (ps_if (pt_not (pt_val (C8.pe_c c_are_kinds hr (by decide) (by rfl) (pa_cons (pv 1) pa_nil))))
  (pss_one (ps_ret pe_bl))
  pss_nil)
  (pss_cons (ps_set (i := 2) (sc_is_rest).nd rfl (.inl rfl) pe_int)
  (pss_cons (ps_for PassesOwn.never rfl (k_piList (K := K) rfl (pv 0)) (pg_name (i := 3) (sc_is_rest).nd rfl (.inl rfl))
  (pss_one (ps_if (PW.pt (pw_and (pt_cmpR op_lt (pv 2) (pe_callB (k_len (K := K) rfl) (by rfl) T.f_len PySem.boot_len (pa_cons (pv 1) pa_nil)) (nomark _)) (pw_and1 (pt_cmpR op_eq (pe_ix (k_ixL (K := K) rfl) (pv 1) (pv 2) (fun _ _ => rfl)) (pv 3) (nomark _)))))
  (pss_one (ps_aug (i := 2) (sc_is_rest).nd rfl (.inl rfl) pe_int ip_add))
  pss_nil)))
  (pss_one (ps_ret (pe_cmpR op_eq (pv 2) (pe_callB (k_len (K := K) rfl) (by rfl) T.f_len PySem.boot_len (pa_cons (pv 1) pa_nil)) (nomark _))))))), ?_⟩
    have hth : th.length ≤ 1000 := Nat.le_trans hsub.length_le hz
    refine q_when (b := false) (et_is (et_not (et_test (ev_areKinds (ev_var rfl) hl hth fun k hkk => hk k (hsub.subset hkk)))) rfl) (fun h => nomatch h) fun _ H1 e1 => ?_
    refine q_asg ev_c fun H2 e2 => ?_
    have e12 := e1.trans e2
    refine q_forE (ei_list (ev_var rfl) (SqL.of (e12 _ _ hr'))) (fun i σ' H' => ∃ (n : Nat) (y : Option V), σ' = [some (.ref r), some (.ref l), some (.int (n : Int)), y] ∧ greedy th (row.take i) 0 = n) (fun H3 e3 => ⟨0, none, rfl, rfl⟩) ?_ ?_
    · rintro Hs i x σ' H3 H4 hi e3 e4 ⟨n, y, rfl, hn⟩ ⟨rfl, hx⟩
      have hi' : i < row.length := by rw [svs_len] at hi; exact hi
      have hx : (svs row)[i]? = some x := hx
      rw [List.getElem?_map, List.getElem?_eq_getElem hi'] at hx
      have hx := Option.some.inj hx
      subst hx
      have hll := SqL.of (K := K) (((e12.trans e3).trans e4) _ _ hl)
      have key : greedy th (row.take (i + 1)) 0 = if th[n]? = some row[i] then n + 1 else n := by
        rw [List.take_add_one, List.getElem?_eq_getElem hi', Option.toList_some, greedy_snoc, hn]
      refine s_when (b := decide (th[n]? = some row[i])) ?_ (fun hc H5 e5 => ?_) fun hc H5 e5 => ?_
      · refine et_is (et_and (et_is (et_B (ev_op (ev_var rfl) (ev_len (ev_var rfl) hll) rv_I0)) (b := decide (n < th.length)) (by simp [svs_len])) (b := decide (th[n]? = some row[i])) fun h1 => ?_) ?_
        · have h1 := of_decide_eq_true h1
          refine et_is (et_B (ev_op (ev_ixL (ev_var rfl) (ev_var rfl) hll (svs_get (List.getElem?_eq_getElem h1))) (ev_var rfl) (rv_eq rfl))) ?_
          rw [List.getElem?_eq_getElem h1]
          simp
        · by_cases h1 : n < th.length
          · simp [h1]
          · simp [h1]
      · have hc := of_decide_eq_true hc
        exact s_aug rfl ev_c fun H6 e6 => ⟨(e4.trans e5).trans e6, n + 1, _, rfl, by rw [key, if_pos hc]⟩
      · have hc := of_decide_eq_false hc
        exact ⟨e4.trans e5, n, _, rfl, by rw [key, if_neg hc]⟩
    · rintro σ' H3 e3 ⟨n, y, rfl, hn⟩
      rw [svs_len, List.take_length, greedy_all th row 0 (Nat.zero_le _) (by simpa using hsub)] at hn
      exact s_ret (ev_is (ev_op (ev_var rfl) (ev_len (ev_var rfl) (SqL.of ((e12.trans e3) _ _ hl))) (rv_eq rfl)) (by rw [← hn, svs_len]; simp)) fun H4 e4 => q _ H4 ((e12.trans e3).trans e4) rfl
end
end K64
set_option Elab.async false
set_option linter.all false
set_option maxRecDepth 100000
set_option maxHeartbeats 4000000
/-! More words: pairs walked, names in a row, sorted texts. -/
namespace K64
open PySem PySem.Spec PyProof.Rows L2 Evl
/-! ### sorted texts -/
def sle (a b : Str) : Bool := decide (a.cps.toList ≤ b.cps.toList)
def slt (a b : Str) : Prop := a.cps.toList < b.cps.toList
instance (a b : Str) : Decidable (slt a b) := inferInstanceAs (Decidable (a.cps.toList < b.cps.toList))
theorem str_ext {a b : Str} (h : a.cps.toList = b.cps.toList) : a = b := by
  cases a
  cases b
  congr 1
  exact Array.ext' h
theorem sle_total (a b : Str) : (sle a b || sle b a) = true := by
  unfold sle
  rw [Bool.or_eq_true, decide_eq_true_eq, decide_eq_true_eq]
  exact List.le_total _ _
theorem sle_trans (a b c : Str) (h1 : sle a b = true) (h2 : sle b c = true) : sle a c = true := by
  unfold sle at *
  rw [decide_eq_true_eq] at *
  exact List.le_trans h1 h2
theorem sle_anti {a b : Str} (h1 : sle a b = true) (h2 : sle b a = true) : a = b := by
  unfold sle at *
  rw [decide_eq_true_eq] at *
  exact str_ext (List.le_antisymm h1 h2)
def sortS (xs : List Str) : List Str := xs.mergeSort sle
theorem sortS_perm (xs : List Str) : (sortS xs).Perm xs := List.mergeSort_perm xs sle
theorem sortS_sorted (xs : List Str) : (sortS xs).Pairwise (fun a b => sle a b = true) := List.pairwise_mergeSort sle_trans sle_total xs
theorem sorted_uniq {xs ys : List Str} (p : xs.Perm ys) (h1 : xs.Pairwise fun a b => sle a b = true) (h2 : ys.Pairwise fun a b => sle a b = true) : xs = ys :=
  List.Perm.eq_of_pairwise (fun a b _ _ h1 h2 => sle_anti h1 h2) h1 h2 p
theorem rising_all : ∀ (p : Str) (l : List Str), risingS p l = true → (∀ x ∈ l, sle p x = true) ∧ l.Pairwise (fun a b => sle a b = true)
  | p, [], _ => ⟨(fun _ h => nomatch h), .nil⟩
  | p, x :: r, h => by
    unfold risingS at h
    rw [Bool.and_eq_true] at h
    obtain ⟨h1, h2⟩ := h
    obtain ⟨k1, k2⟩ := rising_all x r h2
    have px : sle p x = true := by
      unfold sle
      rw [ltCps_eq] at h1
      rw [decide_eq_true_eq]
      intro q
      simp [q] at h1
    refine ⟨fun y hy => ?_, List.pairwise_cons.mpr ⟨k1, k2⟩⟩
    rcases List.mem_cons.mp hy with e | hy
    · rw [e]
      exact px
    · exact sle_trans _ _ _ px (k1 y hy)
theorem sortedS_pw : ∀ (l : List Str), sortedS l = true → l.Pairwise (fun a b => sle a b = true)
  | [], _ => .nil
  | x :: r, h => by
    obtain ⟨k1, k2⟩ := rising_all x r h
    exact List.pairwise_cons.mpr ⟨k1, k2⟩
theorem sortedS_is {xs ys : List Str} (p : ys.Perm xs) (h : sortedS ys = true) : ys = sortS xs := sorted_uniq (p.trans (sortS_perm xs).symm) (sortedS_pw ys h) (sortS_sorted xs)
theorem sortS_id {xs : List Str} (h : xs.Pairwise fun a b => sle a b = true) : sortS xs = xs := sorted_uniq (sortS_perm xs) (sortS_sorted xs) h
theorem sortS_len (xs : List Str) : (sortS xs).length = xs.length := (sortS_perm xs).length_eq
theorem mem_sortS {xs : List Str} {x : Str} : x ∈ sortS xs ↔ x ∈ xs := (sortS_perm xs).mem_iff
section
variable {K : PySem.W.Frag} {σ : L2.St} {H : Hp} {ta tb te : TE} {tz : TS} {D : Ends}
/-- sorted(xs), xs a list of texts -/
theorem el_sorted {p : Addr} {xs : List Str} (h : Ev te σ H (.ref p)) (hp : H p = some (.lst (svs xs))) (hz : xs.length < 64) : EvL (tCB (rSortedS K) (tCons te tNil)) σ H (svs (sortS xs)) := fun H1 e Q q =>
  h H1 e _ fun H2 e2 => ⟨p, xs, rfl, SqL.of ((e.trans e2) _ _ hp), hz, fun ys l pm hs hl => by
    rw [sortedS_is pm hs]
    exact q l _ (fresh_back e2 hl) (e2.trans (Ex.new hl)) upd_same⟩
theorem el_sortedN {xs : List Str} (h : EvL te σ H (svs xs)) (hz : xs.length < 64) : EvL (tCB (rSortedS K) (tCons te tNil)) σ H (svs (sortS xs)) := fun H1 e Q q =>
  h H1 e _ fun p H2 hp e2 h2 => ⟨p, xs, rfl, SqL.of h2, hz, fun ys l pm hs hl => by
    rw [sortedS_is pm hs]
    exact q l _ (fresh_back e2 hl) (e2.trans (Ex.new hl)) upd_same⟩
/-- list(xs) of a new list -/
theorem el_listN {xs : List V} (h : EvL te σ H xs) : EvL (tCB (rListS K) (tCons te tNil)) σ H xs := fun H1 e Q q =>
  h H1 e _ fun p H2 hp e2 h2 => ⟨p, xs, rfl, Or.inl (sq_of h2), fun l hl => q l _ (fresh_back e2 hl) (e2.trans (Ex.new hl)) upd_same⟩
theorem ev_inSN {x : Str} {xs : List Str} (ha : Ev ta σ H (.str x)) (hb : EvL tb σ H (svs xs)) : Ev (tOp (rIn K false) ta tb) σ H (.bl (decide (x ∈ xs))) :=
  ev_is (ev_opL ha hb fun _ _ h _ => rv_isL (sq_of h) rfl (flat_svs xs)) (by rw [inV_svs])
theorem ev_niSN {x : Str} {xs : List Str} (ha : Ev ta σ H (.str x)) (hb : EvL tb σ H (svs xs)) : Ev (tOp (rIn K true) ta tb) σ H (.bl (!decide (x ∈ xs))) :=
  ev_is (ev_opL ha hb fun _ _ h _ => rv_niL (sq_of h) rfl (flat_svs xs)) (by rw [inV_svs])
theorem ev_ltS {x y : Str} (ha : Ev ta σ H (.str x)) (hb : Ev tb σ H (.str y)) : Ev (tOp (fun x y H Q => ∃ i j, x = .str i ∧ y = .str j ∧ Q (.bl (decide (i.cps.toList < j.cps.toList))) H) ta tb) σ H (.bl (decide (slt x y))) :=
  ev_op ha hb fun H1 _ Q q => ⟨x, y, rfl, rfl, q H1 (Ex.refl H1)⟩
/-- [..] * int(flag) -/
theorem el_times {b : Bool} {xs : List V} (ha : EvL ta σ H xs) (hz : xs.length ≤ 1000) (hb : Ev tb σ H (.bl b)) : EvL (tOp rRep ta (tCB (fun xs H Q => (∃ i, xs = [.int i] ∧ Q (.int i) H) ∨ ∃ k, xs = [.bl k] ∧ Q (.int (if k then 1 else 0)) H) (tCons tb tNil))) σ H (if b then xs else []) := fun H1 e Q q =>
  ha H1 e _ fun p H2 hp e2 h2 => hb H2 (e.trans e2) _ fun H3 e3 => .inr ⟨b, rfl, p, _, xs, rfl, rfl, e3 _ _ h2, by cases b <;> decide, by cases b <;> decide, by cases b <;> simp [sizeLine_eq] <;> omega, fun l hl => by
    refine q l _ (fresh_back (e2.trans e3) hl) ((e2.trans e3).trans (Ex.new hl)) ?_
    rw [upd_same]
    cases b <;> simp⟩
theorem ev_intB {b : Bool} (hb : Ev tb σ H (.bl b)) : Ev (tCB (fun xs H Q => (∃ i, xs = [.int i] ∧ Q (.int i) H) ∨ ∃ k, xs = [.bl k] ∧ Q (.int (if k then 1 else 0)) H) (tCons tb tNil)) σ H (.int (if b then 1 else 0)) :=
  ev_cb (ea_cons hb ea_nil) fun H1 _ Q q => .inr ⟨b, rfl, q H1 (Ex.refl H1)⟩
theorem ev_lenT {p : Addr} {xs : List V} (ha : Ev ta σ H (.ref p)) (h : H p = some (.tup xs)) : Ev (tCB (rLenS K) (tCons ta tNil)) σ H (.int (xs.length : Int)) := fun H1 e Q q =>
  ha H1 e _ fun H2 e2 => ⟨p, xs, rfl, Or.inr (st_of ((e.trans e2) _ _ h)), q H2 e2⟩
/-- a if t else b -/
theorem er_if {tt : TT} {b : Bool} {R : Rel} (h : EvT tt σ H b) (h1 : b = true → EvR ta σ H R) (h2 : b = false → EvR tb σ H R) (hb : Bk R := by first | exact bk_v | exact bk_l | exact bk_u | exact fun _ _ _ _ _ h => h) : EvR (tIf tt ta tb) σ H R := fun H1 e Q q => h H1 e _ fun H2 e2 => by
  cases b with
  | true => exact h1 rfl H2 (e.trans e2) Q fun v H3 e3 r => q v H3 (e2.trans e3) (hb _ _ _ _ e2 r)
  | false => exact h2 rfl H2 (e.trans e2) Q fun v H3 e3 r => q v H3 (e2.trans e3) (hb _ _ _ _ e2 r)
/-- [*xs, ..] -/
theorem el_starL {t : TA} {p : Addr} {xs ys : List V} (h : Ev te σ H (.ref p)) (hp : H p = some (.lst xs)) (ht : EvA t σ H ys) (hz : xs.length + ys.length ≤ 100000) : EvL (tLst (StX.tStar K te t)) σ H (xs ++ ys) := fun H1 e Q q =>
  h H1 e _ fun H2 e2 => ⟨p, xs, rfl, .inr (SqL.of ((e.trans e2) _ _ hp)), ht H2 (e.trans e2) _ fun H3 e3 => ⟨sz_of (by rw [List.length_append]; exact hz), fun l hl => q l _ (fresh_back (e2.trans e3) hl) ((e2.trans e3).trans (Ex.new hl)) upd_same⟩⟩
/-- x, y = e -/
theorem q_asg2 {i j : Nat} {R : Rel} {T : Addr → V → V → Hp → Hp → Prop} (h : EvR te σ H R) (hR : ∀ v H1, Ex H H1 → R v H H1 → ∃ t x y, v = .ref t ∧ SqT K H1 t [x, y] ∧ T t x y H H1) (k : ∀ t x y H1, Ex H H1 → T t x y H H1 → tz D ((σ.set i (some x)).set j (some y)) H1) :
    tSeq (tAsg te (gTup K 2 (gCons (gName i) (gCons (gName j) gNil)))) tz D σ H := h H (Ex.refl H) _ fun v H1 e r => by
  obtain ⟨t, x, y, rfl, ht, hT⟩ := hR v H1 e r
  exact ⟨t, _, rfl, ht, rfl, _, _, rfl, _, _, rfl, rfl, k t x y H1 e hT⟩
theorem q_asg2v {i j : Nat} {t : Addr} {x y : V} (h : Ev te σ H (.ref t)) (ht : SqT K H t [x, y]) (k : ∀ H1, Ex H H1 → tz D ((σ.set i (some x)).set j (some y)) H1) :
    tSeq (tAsg te (gTup K 2 (gCons (gName i) (gCons (gName j) gNil)))) tz D σ H := h H (Ex.refl H) _ fun H1 e => ⟨t, _, rfl, ex_t e ht, rfl, _, _, rfl, _, _, rfl, rfl, k H1 e⟩
/-- x, y = a, b -/
theorem q_par {i j : Nat} {ta : TA} {S : List V → Hp → Hp → Prop} {T : V → V → Hp → Hp → Prop} (h : EvAR ta σ H S) (hS : ∀ vs H1, Ex H H1 → S vs H H1 → ∃ x y, vs = [x, y] ∧ T x y H H1) (k : ∀ x y H1, Ex H H1 → T x y H H1 → tz D ((σ.set i (some x)).set j (some y)) H1) :
    tSeq (tPar i j ta) tz D σ H := h H (Ex.refl H) _ fun vs H1 e s => by
  obtain ⟨x, y, rfl, hT⟩ := hS vs H1 e s
  exact ⟨x, y, rfl, k x y H1 e hT⟩
end
/-! ### comprehensions over pairs, over names -/
section
variable {α : Type} {K : PySem.W.Frag} {σ : L2.St} {H : Hp} {wi : TI} {tt : TT} {te : TE} {vs : List Nat} {n : Nat}
theorem er_compP {A B : Nat → Option V} {j k : Nat} (c1 c2 : α → V) {ys : List α} (hI : EvI wi σ H n (YPair A B)) (hn : ys.length = n) (hA : ∀ i y, ys[i]? = some y → A i = some (c1 y)) (hB : ∀ i y, ys[i]? = some y → B i = some (c2 y)) (hz : n ≤ 100000) (p : α → Bool) (Rl : α → Rel) (F : α → V → Hp → Prop) (hF : ∀ y v A B, Ex A B → F y v A → F y v B) (hR : ∀ y v A B D, H D = none → Ex H A → A D ≠ none → Ex A B → Rl y v A B → F y v (hideA D B))
    (hw : ∀ x y, wipe (((wipe σ vs).set j (some x)).set k (some y)) vs = wipe σ vs)
    (ht : ∀ y ∈ ys, ∀ H1, Ex H H1 → EvT tt (((wipe σ vs).set j (some (c1 y))).set k (some (c2 y))) H1 (p y)) (he : ∀ y ∈ ys, p y = true → ∀ H1, Ex H H1 → EvR te (((wipe σ vs).set j (some (c1 y))).set k (some (c2 y))) H1 (Rl y)) :
    EvR (tLc wi (gTup K 2 (gCons (gName j) (gCons (gName k) gNil))) tt te vs) σ H (RComp (ys.filter p) F) := by
  refine er_comp hI ys hn hz p Rl F hF hR fun i y x H1 H2 hy e yy => ?_
  obtain ⟨T, u, v, rfl, hT, rfl, hu, hv⟩ := yy
  rw [hA i y hy] at hu
  rw [hB i y hy] at hv
  have eu := Option.some.inj hu
  have ev := Option.some.inj hv
  subst eu
  subst ev
  have hm := List.mem_of_getElem? hy
  have e2 : Ex H1 (upd H1 T (.tup [c1 y, c2 y])) := Ex.new hT
  exact ⟨e2, fun Qg q => ⟨T, _, rfl, st_of upd_same, rfl, _, _, rfl, _, _, rfl, rfl, q _ _ (Ex.refl _) (hw _ _) (ht y hm _ (e.trans e2)) fun hp => he y hm hp _ (e.trans e2)⟩⟩
theorem el_compP {A B : Nat → Option V} {j k : Nat} (c1 c2 : α → V) {ys : List α} (hI : EvI wi σ H n (YPair A B)) (hn : ys.length = n) (hA : ∀ i y, ys[i]? = some y → A i = some (c1 y)) (hB : ∀ i y, ys[i]? = some y → B i = some (c2 y)) (hz : n ≤ 100000) (p : α → Bool) (f : α → V)
    (hw : ∀ x y, wipe (((wipe σ vs).set j (some x)).set k (some y)) vs = wipe σ vs)
    (ht : ∀ y ∈ ys, ∀ H1, Ex H H1 → EvT tt (((wipe σ vs).set j (some (c1 y))).set k (some (c2 y))) H1 (p y)) (he : ∀ y ∈ ys, p y = true → ∀ H1, Ex H H1 → Ev te (((wipe σ vs).set j (some (c1 y))).set k (some (c2 y))) H1 (f y)) :
    EvL (tLc wi (gTup K 2 (gCons (gName j) (gCons (gName k) gNil))) tt te vs) σ H ((ys.filter p).map f) := by
  refine el_of (EvR.imp (er_compP c1 c2 hI hn hA hB hz p (fun y => RV (f y)) (fun y v _ => v = f y) (fun _ _ _ _ _ h => h) (fun _ _ _ _ _ _ _ _ _ h => h) hw ht fun y hy hp H1 e => er_v (he y hy hp H1 e)) fun v H1 H2 _ _ r => ?_)
  obtain ⟨p, vs, rfl, h1, h2, h3⟩ := r
  rw [paired_map h3] at h2
  exact ⟨p, rfl, h1, h2⟩
theorem er_compN {xs : List V} {j : Nat} (c : α → V) {ys : List α} (hI : EvI wi σ H xs.length (YAt xs)) (hx : xs = ys.map c) (hz : ys.length ≤ 100000) (p : α → Bool) (Rl : α → Rel) (F : α → V → Hp → Prop) (hF : ∀ y v A B, Ex A B → F y v A → F y v B) (hR : ∀ y v A B D, H D = none → Ex H A → A D ≠ none → Ex A B → Rl y v A B → F y v (hideA D B))
    (hw : ∀ x, wipe ((wipe σ vs).set j (some x)) vs = wipe σ vs)
    (ht : ∀ y ∈ ys, ∀ H1, Ex H H1 → EvT tt ((wipe σ vs).set j (some (c y))) H1 (p y)) (he : ∀ y ∈ ys, p y = true → ∀ H1, Ex H H1 → EvR te ((wipe σ vs).set j (some (c y))) H1 (Rl y)) : EvR (tLc wi (gName j) tt te vs) σ H (RComp (ys.filter p) F) := by
  subst hx
  refine er_comp hI ys (by rw [List.length_map]) (by rw [List.length_map]; exact hz) p Rl F hF hR fun i y x H1 H2 hy e yy => ?_
  obtain ⟨rfl, hx⟩ := yy
  rw [List.getElem?_map, hy] at hx
  have ex : c y = x := Option.some.inj hx
  subst ex
  have hm := List.mem_of_getElem? hy
  exact ⟨Ex.refl _, fun Qg k => k _ _ (Ex.refl _) (hw _) (ht y hm _ e) fun hp => he y hm hp _ e⟩
/-- over range(n) -/
theorem er_compR {j : Nat} (hI : EvI wi σ H n (YFn fun i => .int (i : Nat))) (hz : n ≤ 100000) (p : Nat → Bool) (Rl : Nat → Rel) (F : Nat → V → Hp → Prop) (hF : ∀ y v A B, Ex A B → F y v A → F y v B) (hR : ∀ y v A B D, H D = none → Ex H A → A D ≠ none → Ex A B → Rl y v A B → F y v (hideA D B))
    (hw : ∀ x, wipe ((wipe σ vs).set j (some x)) vs = wipe σ vs)
    (ht : ∀ i, i < n → ∀ H1, Ex H H1 → EvT tt ((wipe σ vs).set j (some (.int (i : Nat)))) H1 (p i)) (he : ∀ i, i < n → p i = true → ∀ H1, Ex H H1 → EvR te ((wipe σ vs).set j (some (.int (i : Nat)))) H1 (Rl i)) : EvR (tLc wi (gName j) tt te vs) σ H (RComp ((List.range n).filter p) F) := by
  refine er_comp hI (List.range n) (by simp) hz p Rl F hF hR fun i y x H1 H2 hy e yy => ?_
  obtain ⟨rfl, rfl⟩ := yy
  have hm := List.mem_of_getElem? hy
  have hi : y = i := by
    rw [List.getElem?_range] at hy
    · exact (Option.some.inj hy).symm
    · exact (List.getElem?_eq_some_iff.mp hy).1 |> fun h => by simpa using h
  subst hi
  have hl := List.mem_range.mp hm
  exact ⟨Ex.refl _, fun Qg k => k _ _ (Ex.refl _) (hw _) (ht y hl _ e) fun hp => he y hl hp _ e⟩
theorem el_compR {j : Nat} (hI : EvI wi σ H n (YFn fun i => .int (i : Nat))) (hz : n ≤ 100000) (p : Nat → Bool) (f : Nat → V)
    (hw : ∀ x, wipe ((wipe σ vs).set j (some x)) vs = wipe σ vs)
    (ht : ∀ i, i < n → ∀ H1, Ex H H1 → EvT tt ((wipe σ vs).set j (some (.int (i : Nat)))) H1 (p i)) (he : ∀ i, i < n → p i = true → ∀ H1, Ex H H1 → Ev te ((wipe σ vs).set j (some (.int (i : Nat)))) H1 (f i)) : EvL (tLc wi (gName j) tt te vs) σ H (((List.range n).filter p).map f) := by
  refine el_of (EvR.imp (er_compR hI hz p (fun y => RV (f y)) (fun y v _ => v = f y) (fun _ _ _ _ _ h => h) (fun _ _ _ _ _ _ _ _ _ h => h) hw ht fun y hy hp H1 e => er_v (he y hy hp H1 e)) fun v H1 H2 _ _ r => ?_)
  obtain ⟨p, vs, rfl, h1, h2, h3⟩ := r
  rw [paired_map h3] at h2
  exact ⟨p, rfl, h1, h2⟩
end
end K64
set_option Elab.async false
set_option linter.all false
set_option maxRecDepth 100000
set_option maxHeartbeats 4000000
/-! is_set, is_node, next_node. -/
namespace K64
open PySem PySem.Spec PyProof.Rows L2 Evl
section
variable {P : Program} {w : World} {K : PySem.W.Frag} {mg : Str → Option Value} {base : Heap}
/-! ### is_set -/
def spIsSet (K : PySem.W.Frag) : Sp := pur fun vs H R => ∃ S l d ks, vs = [.ref S, .ref l] ∧ Su K H S d ∧ H l = some (.lst (svs ks)) ∧ ks.length ≤ 1000 ∧ (∀ k ∈ ks, GoodK k) ∧ (∀ k ∈ ks, k ∈ d.sk) ∧ ks.Pairwise slt ∧ R = RV (.bl true)
theorem sc_is_set : FnScope ["suits", "thing", "kind", "one", "other"] ["suits", "thing"] (defScope s_is_set) := C8.fnScope_by (by decide +kernel)
theorem zip_get {α : Type} (xs : List α) : ∀ (i : Nat) (y : α × α), (xs.zip xs.tail)[i]? = some y → xs[i]? = some y.1 ∧ (xs.drop 1)[i]? = some y.2 := by
  intro i y h
  rw [List.getElem?_zip_eq_some] at h
  rw [List.drop_one]
  exact h
theorem ok_is_set (T : Tp K mg) (F : FD K d_is_set) (c_are_kinds : C8.Cal P w K mg base 2 "are_kinds" spAreKinds []) (c_S_kinds : C8.Met P w K mg base 1 (He.ga K "Suits") "kinds" (spKinds K) []) : C8.Cal P w K mg base 3 "is_set" (spIsSet K) [] := by
  refine cal_k F T.g_is_set sc_is_set (fun _ _ _ _ _ _ us hl => match us, hl with | [_, _], _ => rfl) (fun vs H Q E h => ?_) (fun cdv A outer s H vs Q E hr h => ?_)
  · obtain ⟨R, ⟨S, l, d, ks, rfl, _⟩, _⟩ := h
    rfl
  · obtain ⟨R, ⟨S, l, d, ks, rfl, hS, hl, hz, hg, hm, ha, rfl⟩, q⟩ := h
    refine ⟨_, (pss_cons (ps_if (PW.pt (pw_or (pt_not (pt_val (C8.pe_c c_are_kinds hr (by decide) (by rfl) (pa_cons (pv 1) pa_nil)))) (pw_or1 (pt_not (pt_val (pe_callB (k_all (K := K) rfl rfl) (by rfl) T.f_all boot_all (pa_cons (pe_lc (own := [("kind", 2)]) (g := (gName 2)) (by rfl) (sc_is_set).nd (k_piList (K := K) rfl (pv 1)) (blkOk_by (own := [("kind", 2)]) (N := ["suits", "thing", "kind", "one", "other"]) (sc := defScope s_is_set) (by decide +kernel)) (fun _ _ _ _ _ => (pg_name (i := 2) (sc_is_set).nd rfl (by first | exact .inl rfl | exact .inr rfl))) (fun _ _ _ _ _ => pts_nil) (fun _ _ _ _ _ => (pe_cmpR (k_in (K := K) rfl) (pv 2) (C8.pe_mt0 c_S_kinds hr (by decide) (pv 0)) (by rfl)))) pa_nil)))))))
  (pss_one (ps_ret pe_bl))
  pss_nil)
  (pss_one (ps_ret (pe_callB (k_all (K := K) rfl rfl) (by rfl) T.f_all boot_all (pa_cons (pe_lc (own := [("one", 3), ("other", 4)]) (g := (gTup K 2 (gCons (gName 3) (gCons (gName 4) gNil)))) (by rfl) (sc_is_set).nd (k_piZip (K := K) rfl (by rfl) T.f_zip (pa_cons (pv 1) (pa_cons (pe_slice (k_slL (K := K) rfl) (pv 1) (po_some pe_int) po_none) pa_nil))) (blkOk_by (own := [("one", 3), ("other", 4)]) (N := ["suits", "thing", "kind", "one", "other"]) (sc := defScope s_is_set) (by decide +kernel)) (fun _ _ _ _ _ => (k_pgTup (K := K) rfl rfl (pgs_cons (pg_name (i := 3) (sc_is_set).nd rfl (by first | exact .inl rfl | exact .inr rfl)) (pgs_cons (pg_name (i := 4) (sc_is_set).nd rfl (by first | exact .inl rfl | exact .inr rfl)) pgs_nil)))) (fun _ _ _ _ _ => pts_nil) (fun _ _ _ _ _ => (pe_cmpR op_lt_str (pv 3) (pv 4) (nomark _)))) pa_nil))))), ?_⟩
    refine q_when (b := false) (et_is (et_or (a := false) (b := false) (et_is (et_not (et_test (ev_areKinds (ev_var rfl) hl hz hg))) rfl) fun _ => et_is (et_not (a := true) (et_test (ev_is (ev_all (ys := ks) (g := fun _ => true) (el_compN (α := Str) V.str (ei_list (ev_var rfl) (SqL.of hl)) rfl (by omega) (fun _ => true) _ (fun _ => rfl) (fun _ _ _ _ => et_yes) fun y hy _ H2 e2 => ?_)) (by simp)))) rfl) rfl) (fun h => nomatch h) fun _ H1 e1 => ?_
    · exact ev_is (ev_inSN (ev_var rfl) (el_kinds (ev_var rfl) (hS.ex e2))) (by rw [decide_eq_true (hm y hy)])
    have hl1 := SqL.of (K := K) (e1 _ _ hl)
    have hal : (ks.zip ks.tail).all (fun p => decide (slt p.1 p.2)) = true := by
      rw [List.all_eq_true]
      intro p hp
      obtain ⟨i, hi, e⟩ := List.getElem_of_mem hp
      have hh : (ks.zip ks.tail)[i]? = some p := by rw [List.getElem?_eq_getElem hi, e]
      obtain ⟨h1, h2⟩ := zip_get ks i p hh
      rw [List.getElem?_drop] at h2
      have l2 := (List.getElem?_eq_some_iff.mp h2)
      have l1 := (List.getElem?_eq_some_iff.mp h1)
      obtain ⟨a2, b2⟩ := l2
      obtain ⟨a1, b1⟩ := l1
      have := List.pairwise_iff_getElem.mp ha i (1 + i) a1 a2 (by omega)
      rw [b1, b2] at this
      exact decide_eq_true this
    refine s_ret (ev_is (ev_all (ys := ks.zip ks.tail) (g := fun p => decide (slt p.1 p.2)) (el_compP (α := Str × Str) (fun p => .str p.1) (fun p => .str p.2)
      (ei_zip (xs := svs ks) (ys := svs (ks.drop 1)) (n := min ks.length (ks.length - 1)) (ear_cons (er_v (ev_var rfl)) (ear_cons (er_l (el_is (el_sl (ev_var rfl) (eo_some ev_c) eo_none hl1) (ys := svs (ks.drop 1)) ?_)) ear_nil)) ?_ ?_) (by simp) (fun i y h => svs_get (zip_get ks i y h).1) (fun i y h => svs_get (zip_get ks i y h).2) (by omega) (fun _ => true) _ (fun _ _ => rfl) (fun _ _ _ _ => et_yes) (fun y hy _ H2 e2 => ev_ltS (ev_var rfl) (ev_var rfl)))) (by rw [hal])) fun H2 e2 => q _ H2 (e1.trans e2) rfl
    · rw [show ((1 : Int)) = ((1 : Nat) : Int) from rfl, cut_from]
      show _ = List.map _ _
      rw [List.map_drop]
    · rw [svs_len, svs_len, List.length_drop]
    · rintro vs H3 H4 e3 e4 ⟨x, r, H5, rfl, e5, e6, rfl, y, r2, H6, rfl, e7, e8, ⟨p, rfl, _, hp⟩, rfl⟩
      exact ⟨l, p, rfl, ex_l (e3.trans e4) hl1, SqL.of (e8 _ _ hp)⟩
/-! ### is_node -/
/-- a node of the rows a, b -/
structure NodeOk (d : Kd) (a b : List Str) (n : Nd) : Prop where
  one : n.1.Sublist a
  two : n.2.1.Sublist b
  set : n.2.2.Pairwise slt
  kinds : ∀ k ∈ n.2.2, k ∈ d.sk
structure RowOk (d : Kd) (a : List Str) : Prop where
  len : a.length ≤ 100
  kinds : ∀ k ∈ a, k ∈ d.sk
structure KdOk (d : Kd) : Prop where
  good : ∀ k ∈ d.sk, GoodK k
  asc : d.sk.Pairwise slt
  len : d.sk.length ≤ 8
def spIsNode (K : PySem.W.Frag) : Sp := pur fun vs H R => ∃ S p r t d a b n, vs = [.ref S, .ref p, .ref r, .ref t] ∧ Su K H S d ∧ KdOk d ∧ RowOk d a ∧ RowOk d b ∧ H p = some (.lst (svs a)) ∧ H r = some (.lst (svs b)) ∧ NdAt H t n ∧ NodeOk d a b n ∧ R = RV (.bl true)
theorem slt_irrefl (a : Str) : ¬ slt a a := List.lt_irrefl _
theorem slt_ne {a b : Str} (h : slt a b) : a ≠ b := fun e => slt_irrefl a (by rw [← e] at h; exact h)
theorem asc_nd {ks : List Str} (h : ks.Pairwise slt) : ks.Nodup := h.imp fun h => slt_ne h
theorem sub_len {α : Type} [DecidableEq α] : ∀ {xs ys : List α}, xs.Nodup → (∀ x ∈ xs, x ∈ ys) → xs.length ≤ ys.length
  | [], _, _, _ => Nat.zero_le _
  | x :: xs, ys, h, hs => by
    have h' := List.nodup_cons.mp h
    have hx := hs x List.mem_cons_self
    have := sub_len (xs := xs) (ys := ys.erase x) h'.2 fun y hy => (List.mem_erase_of_ne (fun e => h'.1 (by rw [← e]; exact hy))).mpr (hs y (List.mem_cons_of_mem _ hy))
    rw [List.length_erase_of_mem hx] at this
    have hpos : 0 < ys.length := List.length_pos_of_mem hx
    rw [List.length_cons]
    omega
theorem NodeOk.len {d : Kd} {a b : List Str} {n : Nd} (h : NodeOk d a b n) : n.2.2.length ≤ d.sk.length := sub_len (asc_nd h.set) h.kinds
theorem sc_is_node : FnScope ["suits", "one", "other", "thing"] ["suits", "one", "other", "thing"] (defScope s_is_node) := C8.fnScope_by (by decide +kernel)
theorem ok_is_node (T : Tp K mg) (F : FD K d_is_node) (c_is_rest : C8.Cal P w K mg base 3 "is_rest" spIsRest []) (c_is_set : C8.Cal P w K mg base 3 "is_set" (spIsSet K) []) : C8.Cal P w K mg base 4 "is_node" (spIsNode K) [] := by
  refine cal_k F T.g_is_node sc_is_node (fun _ _ _ _ _ _ us hl => match us, hl with | [_, _, _, _], _ => rfl) (fun vs H Q E h => ?_) (fun cdv A outer s H vs Q E hr h => ?_)
  · obtain ⟨R, ⟨S, p, r, t, d, a, b, n, rfl, _⟩, _⟩ := h
    rfl
  · obtain ⟨R, ⟨S, p, r, t, d, a, b, n, rfl, hS, hd, hA, hB, hp, hr', ⟨x, y, z, hn⟩, hk, rfl⟩, q⟩ := h
    refine ⟨_, (pss_cons (ps_if (PW.pt (pw_or (pt_not (pt_val (pe_callB (k_isi (K := K) rfl) (by rfl) T.f_isinstance boot_isinstance (pa_cons (pv 3) (pa_cons (pe_bltn (by rfl) T.f_tuple (by decide +kernel) (v := .ty "tuple") rfl) pa_nil))))) (pw_or1 (pt_cmpR op_ne (pe_callB (k_len (K := K) rfl) (by rfl) T.f_len PySem.boot_len (pa_cons (pv 3) pa_nil)) pe_int (nomark _)))))
  (pss_one (ps_ret pe_bl))
  pss_nil)
  (pss_one (ps_ret (pe_and (C8.pe_c c_is_rest hr (by decide) (by rfl) (pa_cons (pv 1) (pa_cons (pe_ix (k_ixT (K := K) rfl) (pv 3) pe_int (fun _ _ => rfl)) pa_nil))) (pe_and (C8.pe_c c_is_rest hr (by decide) (by rfl) (pa_cons (pv 2) (pa_cons (pe_ix (k_ixT (K := K) rfl) (pv 3) pe_int (fun _ _ => rfl)) pa_nil))) (pe_one (C8.pe_c c_is_set hr (by decide) (by rfl) (pa_cons (pv 0) (pa_cons (pe_ix (k_ixT (K := K) rfl) (pv 3) pe_int (fun _ _ => rfl)) pa_nil))))))))), ?_⟩
    refine q_when (b := false) (et_is (et_or (a := false) (b := false) (et_is (et_not (et_test (ev_isi (b := true) (ev_var rfl) (fun _ e => tyx_tup (e _ _ hn.tup)) (by decide +kernel)))) rfl) fun _ => et_is (et_B (ev_op (ev_lenT (ev_var rfl) hn.tup) ev_c (rv_ne rfl))) rfl) rfl) (fun h => nomatch h) fun _ H1 e1 => ?_
    have hn1 := hn.ex e1
    refine s_ret (ev_is (ev_andV (a := true) (b := true) ?_ fun _ => ev_is (ev_andV (a := true) (b := true) ?_ fun _ => ?_) rfl) rfl) fun H2 e2 => q _ H2 (e1.trans e2) rfl
    · exact ev_of (er_callA (ea_cons (ev_var rfl) (ea_cons (ev_ixT (ev_var rfl) ev_c hn1.tup rfl) ea_nil)) (fun H3 e3 => ⟨_, _, a, n.1, rfl, (e1.trans e3) _ _ hp, (e1.trans e3) _ _ hn.one, by have := hA.len; omega, fun k hkk => hd.good k (hA.kinds k hkk), hk.one, rfl⟩) bk_v)
    · exact ev_of (er_callA (ea_cons (ev_var rfl) (ea_cons (ev_ixT (ev_var rfl) ev_c hn1.tup rfl) ea_nil)) (fun H3 e3 => ⟨_, _, b, n.2.1, rfl, (e1.trans e3) _ _ hr', (e1.trans e3) _ _ hn.two, by have := hB.len; omega, fun k hkk => hd.good k (hB.kinds k hkk), hk.two, rfl⟩) bk_v)
    · exact ev_of (er_callA (ea_cons (ev_var rfl) (ea_cons (ev_ixT (ev_var rfl) ev_c hn1.tup rfl) ea_nil)) (fun H3 e3 => ⟨_, _, d, n.2.2, rfl, hS.ex (e1.trans e3), (e1.trans e3) _ _ hn.set, by have := hk.len; have := hd.len; omega, fun k hkk => hd.good k (hk.kinds k hkk), hk.kinds, hk.set, rfl⟩) bk_v)
/-! ### next_node -/
def addK (ks : List Str) (k : Str) : List Str := if k ∈ ks then ks else sortS (ks ++ [k])
def stepP (d : Kd) (n : Nd) (g : Gp) (k : Str) : Nd × Gp :=
  (((readR d.fit n.1 k).2, (readR d.fit n.2.1 k).2, addK n.2.2 k), strip (g.1 ++ if (readR d.fit n.1 k).1 then [k] else []) (g.2 ++ if (readR d.fit n.2.1 k).1 then [k] else []))
/-- a new node whose lists are new, apart -/
def NewNd (H1 H2 : Hp) (t : Addr) (n : Nd) : Prop := ∃ a b c, NdA H2 t a b c n ∧ H1 a = none ∧ H1 b = none ∧ H1 c = none ∧ H1 t = none ∧ a ≠ b ∧ a ≠ c ∧ b ≠ c
theorem NewNd.at_ {H1 H2 : Hp} {t : Addr} {n : Nd} (h : NewNd H1 H2 t n) : NdAt H2 t n := by
  obtain ⟨a, b, c, h, _⟩ := h
  exact ⟨a, b, c, h⟩
def RStep (n : Nd) (g : Gp) : Rel := fun v H1 H2 => ∃ t u p, v = .ref t ∧ H2 t = some (.tup [.ref u, .ref p]) ∧ NewNd H1 H2 u n ∧ GapAt H2 p g
def spNextNode (K : PySem.W.Frag) : Sp := pur fun vs H R => ∃ S t p d n g k, vs = [.ref S, .ref t, .ref p, .str k] ∧ Su K H S d ∧ NdAt H t n ∧ GapAt H p g ∧ n.1.length ≤ 1000 ∧ n.2.1.length ≤ 1000 ∧ n.2.2.length ≤ 50 ∧ (∀ x ∈ n.1, x ∈ d.sk) ∧ (∀ x ∈ n.2.1, x ∈ d.sk) ∧ k ∈ d.sk ∧ g.1.length ≤ 1000 ∧ g.2.length ≤ 1000 ∧ R = RStep (stepP d n g k).1 (stepP d n g k).2
theorem sc_next_node : FnScope ["suits", "node", "gap", "kind", "is_first", "one", "is_last", "other", "first", "last", "kinds", "due"] ["suits", "node", "gap", "kind"] (defScope s_next_node) := C8.fnScope_by (by decide +kernel)
theorem er_read {σ : L2.St} {H : Hp} {t1 t2 t3 : TE} {E : XK} {S l : Addr} {d : Kd} {rest : List Str} {k : Str} (h1 : Ev t1 σ H (.ref S)) (h2 : Ev t2 σ H (.ref l)) (h3 : Ev t3 σ H (.str k)) (hS : Su K H S d) (hl : H l = some (.lst (svs rest))) (hz : rest.length ≤ 1000) (hr : ∀ x ∈ rest, x ∈ d.sk) (hk : k ∈ d.sk) :
    EvR (tCall (spRead K) [] E (tCons t1 (tCons t2 (tCons t3 tNil)))) σ H (RRead (readR d.fit rest k).1 (readR d.fit rest k).2) := er_callA (ea_cons h1 (ea_cons h2 (ea_cons h3 ea_nil))) (fun H1 e => ⟨S, l, d, rest, k, rfl, hS.ex e, e _ _ hl, hz, hr, hk, rfl⟩) bk_read
theorem readR_len (fit : Str → Str → Bool) (rest : List Str) (k : Str) : (readR fit rest k).2.length ≤ rest.length := by
  unfold readR
  split
  · exact List.length_eraseIdx_le _ _
  · exact Nat.le_refl _
theorem readR_sub (fit : Str → Str → Bool) (rest : List Str) (k : Str) : (readR fit rest k).2.Sublist rest := by
  unfold readR
  split
  · exact List.eraseIdx_sublist _ _
  · exact List.Sublist.refl _
theorem addK_len (ks : List Str) (k : Str) : (addK ks k).length ≤ ks.length + 1 := by
  unfold addK
  split
  · omega
  · rw [sortS_len]
    simp
theorem ok_next_node (T : Tp K mg) (F : FD K d_next_node) (c_read : C8.Cal P w K mg base 2 "read" (spRead K) []) (c_shortened : C8.Cal P w K mg base 1 "shortened" spShort []) : C8.Cal P w K mg base 3 "next_node" (spNextNode K) [] := by
  refine cal_k F T.g_next_node sc_next_node (fun _ _ _ _ _ _ us hl => match us, hl with | [_, _, _, _], _ => rfl) (fun vs H Q E h => ?_) (fun cdv A outer s H vs Q E hr h => ?_)
  · obtain ⟨R, ⟨S, t, p, d, n, g, k, rfl, _⟩, _⟩ := h
    rfl
  · obtain ⟨R, ⟨S, t, p, d, n, g, k, rfl, hS, ⟨a, b, c, hn⟩, ⟨ga, gb, hg1, hg2, hg3⟩, hz1, hz2, hz3, hk1, hk2, hk, hy1, hy2, rfl⟩, q⟩ := h
    refine ⟨_, (pss_cons (ps_asg (C8.pe_c c_read hr (by decide) (by rfl) (pa_cons (pv 0) (pa_cons (pe_ix (k_ixT (K := K) rfl) (pv 1) pe_int (fun _ _ => rfl)) (pa_cons (pv 3) pa_nil)))) (k_pgTup (K := K) rfl rfl (pgs_cons (pg_name (i := 4) (sc_next_node).nd rfl (.inl rfl)) (pgs_cons (pg_name (i := 5) (sc_next_node).nd rfl (.inl rfl)) pgs_nil))))
  (pss_cons (ps_asg (C8.pe_c c_read hr (by decide) (by rfl) (pa_cons (pv 0) (pa_cons (pe_ix (k_ixT (K := K) rfl) (pv 1) pe_int (fun _ _ => rfl)) (pa_cons (pv 3) pa_nil)))) (k_pgTup (K := K) rfl rfl (pgs_cons (pg_name (i := 6) (sc_next_node).nd rfl (.inl rfl)) (pgs_cons (pg_name (i := 7) (sc_next_node).nd rfl (.inl rfl)) pgs_nil))))
  (pss_cons (ps_asg (pv 2) (k_pgTup (K := K) rfl rfl (pgs_cons (pg_name (i := 8) (sc_next_node).nd rfl (.inl rfl)) (pgs_cons (pg_name (i := 9) (sc_next_node).nd rfl (.inl rfl)) pgs_nil))))
  (pss_cons (ps_set (i := 10) (sc_next_node).nd rfl (.inl rfl) (pe_ifExp (pt_cmpR (k_in (K := K) rfl) (pv 3) (pe_ix (k_ixT (K := K) rfl) (pv 1) pe_int (fun _ _ => rfl)) (by rfl)) (pe_ix (k_ixT (K := K) rfl) (pv 1) pe_int (fun _ _ => rfl)) (pe_callB (k_sortedS (K := K) rfl) (by rfl) T.f_sorted boot_sorted (pa_cons (pe_lst (k_star (K := K) rfl (pe_ix (k_ixT (K := K) rfl) (pv 1) pe_int (fun _ _ => rfl)) (pa_cons (pv 3) pa_nil))) pa_nil))))
  (pss_cons (ps_set (i := 11) (sc_next_node).nd rfl (.inl rfl) (C8.pe_c c_shortened hr (by decide) (by rfl) (pa_cons (pe_op op_cat (pv 8) (pe_op op_rep (pe_lst (pa_cons (pv 3) pa_nil)) (pe_callTy call_int1 (by rfl) T.f_int PyProof.Rows.boot_int (pa_cons (pv 4) pa_nil)))) (pa_cons (pe_op op_cat (pv 9) (pe_op op_rep (pe_lst (pa_cons (pv 3) pa_nil)) (pe_callTy call_int1 (by rfl) T.f_int PyProof.Rows.boot_int (pa_cons (pv 6) pa_nil)))) pa_nil))))
  (pss_one (ps_ret (pe_tup (pa_cons (pe_tup (pa_cons (pv 5) (pa_cons (pv 7) (pa_cons (pe_callTy (k_list (K := K) rfl) (by rfl) T.f_list PyProof.Rows.boot_list (pa_cons (pv 10) pa_nil)) pa_nil)))) (pa_cons (pv 11) pa_nil)))))))))), ?_⟩
    refine q_asg2 (T := fun t x y _ H2 => ∃ l, x = .bl (readR d.fit n.1 k).1 ∧ y = .ref l ∧ H l = none ∧ H2 l = some (.lst (svs (readR d.fit n.1 k).2))) (er_read (ev_var rfl) (ev_ixT (ev_var rfl) ev_c hn.tup rfl) (ev_var rfl) hS hn.one hz1 hk1 hk) (fun v H1 e ⟨t, l, h1, h2, h3, h4, h5⟩ => ⟨t, _, _, h1, st_of h4, l, rfl, rfl, h2, h5⟩) ?_
    rintro t1 x1 y1 H1 e1 ⟨l1, rfl, rfl, hl1, hl1'⟩
    have hn1 := hn.ex e1
    refine q_asg2 (T := fun t x y H1 H2 => ∃ l, x = .bl (readR d.fit n.2.1 k).1 ∧ y = .ref l ∧ H1 l = none ∧ H2 l = some (.lst (svs (readR d.fit n.2.1 k).2))) (er_read (ev_var rfl) (ev_ixT (ev_var rfl) ev_c hn1.tup rfl) (ev_var rfl) (hS.ex e1) hn1.two hz2 hk2 hk) (fun v H1 e ⟨t, l, h1, h2, h3, h4, h5⟩ => ⟨t, _, _, h1, st_of h4, l, rfl, rfl, h2, h5⟩) ?_
    rintro t2 x2 y2 H2 e2 ⟨l2, rfl, rfl, hl2, hl2'⟩
    have e12 := e1.trans e2
    have hn2 := hn.ex e12
    refine q_asg2v (ev_var rfl) (st_of (e12 _ _ hg1)) fun H3 e3 => ?_
    have e13 := e12.trans e3
    have hn3 := hn.ex e13
    have hadd : EvR _ _ H3 (fun v _ H' => ∃ l, v = .ref l ∧ H' l = some (.lst (svs (addK n.2.2 k)))) := er_if (b := decide (k ∈ n.2.2)) (et_B (ev_inS (K := K) (ev_var (i := 3) rfl) (ev_ixT (K := K) (i := 2) (ev_var (i := 1) (σ := [some (.ref S), some (.ref t), some (.ref p), some (.str k), some (.bl (readR d.fit n.1 k).1), some (.ref l1), some (.bl (readR d.fit n.2.1 k).1), some (.ref l2), some (.ref ga), some (.ref gb), none, none]) rfl) ev_c hn3.tup rfl) (SqL.of hn3.set)))
      (fun hb => EvR.imp (er_v (ev_ixT (i := 2) (K := K) (ev_var (i := 1) rfl) ev_c hn3.tup rfl)) fun v Ha Hb ea eb r => ⟨c, r, (ea.trans eb) _ _ (by unfold addK; rw [if_pos (of_decide_eq_true hb)]; exact hn3.set)⟩)
      (fun hb => EvR.imp (er_l (el_sortedN (K := K) (xs := n.2.2 ++ [k]) (el_is (el_starL (K := K) (ev_ixT (i := 2) (K := K) (ev_var (i := 1) rfl) ev_c hn3.tup rfl) hn3.set (ea_cons (ev_var (i := 3) rfl) ea_nil) (by rw [svs_len]; simp; omega)) (by simp)) (by simp; omega))) fun v Ha Hb ea eb ⟨l, h1, h2, h3⟩ => ⟨l, h1, by unfold addK; rw [if_neg (of_decide_eq_false hb)]; exact h3⟩)
    refine q_asgR hadd fun v H4 e4 ⟨kl, hv, hkl⟩ => ?_
    subst hv
    have e14 := e13.trans e4
    refine q_asgR (R := RGap (stepP d n g k).2) (er_call (ear_cons (er_l (el_catV (ev_var rfl) (e14 _ _ hg2) (el_times (el_lst (ea_cons (ev_var rfl) ea_nil) (by simp)) (by simp) (ev_var rfl)) ?_)) (ear_cons (er_l (el_catV (ev_var rfl) (e14 _ _ hg3) (el_times (el_lst (ea_cons (ev_var rfl) ea_nil) (by simp)) (by simp) (ev_var rfl)) ?_)) ear_nil)) ?_) fun v H5 e5 ⟨pg, hv, hpg⟩ => ?_
    · rw [svs_len]; split <;> simp <;> omega
    · rw [svs_len]; split <;> simp <;> omega
    · rintro vs Ha Hb ea eb ⟨x, r, Hc, rfl, ec, ed, ⟨pa, rfl, _, hpa⟩, y, r2, Hd, rfl, ee, ef, ⟨pb, rfl, _, hpb⟩, rfl⟩
      refine ⟨_, ⟨pa, pb, g.1 ++ (if (readR d.fit n.1 k).1 then [k] else []), g.2 ++ (if (readR d.fit n.2.1 k).1 then [k] else []), rfl, ?_, ?_, rfl⟩, fun v H3 e r => r⟩
      · rw [ed _ _ hpa]; split <;> simp
      · rw [ef _ _ hpb]; split <;> simp
    subst hv
    have e15 := e14.trans e5
    have hl1a : H2 l1 = _ := e2 _ _ hl1'
    refine s_retR (er_tup2 (A := fun v Ha Hb => ∃ u, v = .ref u ∧ NewNd H Hb u (stepP d n g k).1) (B := RV (.ref pg)) (EvR.imp (er_tup3 (er_v (ev_var rfl)) (er_v (ev_var rfl)) (er_l (el_list (ev_var rfl) (SqL.of (e5 _ _ hkl))))) ?_) (er_v (ev_var rfl))) fun v H6 e6 r => q v H6 (e15.trans e6) ?_
    · rintro v Ha Hb ea eb ⟨u, x, y, z, Hc, Hd, He, rfl, ec, ed, ee, ef, hx, hy, ⟨l3, rfl, hl3, hl3'⟩, hu, hu'⟩
      have hx : x = .ref l1 := hx
      have hy : y = .ref l2 := hy
      subst hx
      subst hy
      have u1 := ((e3.trans e4).trans e5).trans ea
      have el3 : Ha l3 = none := fresh_back (ec.trans ed) hl3
      have p1 : Ha l1 = some (.lst (svs (readR d.fit n.1 k).2)) := u1 _ _ hl1a
      have p2 : Ha l2 = some (.lst (svs (readR d.fit n.2.1 k).2)) := u1 _ _ hl2'
      exact ⟨u, rfl, l1, l2, l3, ⟨hu', eb _ _ p1, eb _ _ p2, ef _ _ hl3'⟩, hl1, fresh_back e1 hl2, fresh_back (e15.trans ea) el3, fresh_back (e15.trans ((ea.trans ec).trans (ed.trans ee))) hu, ne_of_none hl1' hl2, ne_of_none p1 el3, ne_of_none p2 el3⟩
    · obtain ⟨tt, x, y, Hc, Hd, rfl, ec, ed, ee, ⟨u, rfl, a1, b1, c1, hu, z1, z2, z3, z4, z5, z6, z7⟩, hy, ht, ht'⟩ := r
      have hy : y = .ref pg := hy
      subst hy
      exact ⟨tt, u, pg, rfl, ht', ⟨a1, b1, c1, hu.ex (ed.trans ee), z1, z2, z3, z4, z5, z6, z7⟩, hpg.ex e6⟩
end
end K64
set_option Elab.async false
set_option linter.all false
set_option maxRecDepth 100000
set_option maxHeartbeats 4000000
/-! Dict comprehensions, loops over what changes. -/
namespace K64
open PySem PySem.Spec PyProof.Rows L2 Evl
theorem nd_inj {α : Type} {l : List α} (h : l.Nodup) {i j : Nat} (hi : i < l.length) (hj : j < l.length) (e : l[i] = l[j]) : i = j := by
  have p := List.pairwise_iff_getElem.mp h
  rcases Nat.lt_trichotomy i j with q | q | q
  · exact absurd e (p i j hi hj q)
  · exact q
  · exact absurd e.symm (p j i hj hi q)
theorem lookup_of {κ : Type} [DecidableEq κ] : ∀ {l : List (κ × V)} {ks : List κ}, l.map Prod.fst = ks → ks.Nodup → l = ks.map fun k => (k, (l.lookup k).getD .non)
  | [], _, rfl, _ => rfl
  | (a, v) :: r, _, rfl, h => by
    have h' := List.nodup_cons.mp h
    have ih := lookup_of (l := r) rfl h'.2
    rw [List.map_cons]
    show (a, v) :: r = (a, _) :: _
    have e1 : (List.lookup a ((a, v) :: r)).getD .non = v := by simp [List.lookup]
    rw [e1]
    congr 1
    conv => lhs; rw [ih]
    refine List.map_congr_left fun k hk => ?_
    have ne : k ≠ a := fun e => h'.1 (by rw [← e]; exact hk)
    simp [List.lookup, beq_false_of_ne ne]
abbrev kvOf (l : List (Str × V)) : List (Key × V) := l.map fun p => (Sum.inr p.1, p.2)
theorem valV_absent {l : List (Str × V)} {k : Str} (h : k ∉ l.map Prod.fst) : valV (kvOf l) (Sum.inr k) = none := by
  unfold valV
  rw [Option.map_eq_none_iff, List.find?_eq_none]
  intro p hp q
  obtain ⟨a, ha, rfl⟩ := List.mem_map.mp hp
  have q' := of_decide_eq_true q
  exact h (List.mem_map.mpr ⟨a, ha, Sum.inr.inj q'⟩)
section
variable {σ : L2.St} {H : Hp} {wi : TI} {g : TG} {tk tv : TE} {vs : List Nat} {n : Nat} {Y : Nat → Hp → V → Hp → Prop}
/-- what walks the texts ks -/
def YKey (ks : List Str) : Nat → Hp → V → Hp → Prop := fun i H x H' => H' = H ∧ ∃ k, ks[i]? = some k ∧ x = .str k
theorem ei_keyOf {ks : List Str} (h : EvI wi σ H (svs ks).length (YAt (svs ks))) : EvI wi σ H ks.length (YKey ks) := fun H1 e R k =>
  h H1 e R fun J G H2 e2 w hG hm => k J G H2 e2 (by
    rw [svs_len] at w
    exact w.mono (fun _ h => h) fun i H x H' hi _ y => by
      obtain ⟨h1, h2⟩ := y
      rw [List.getElem?_map] at h2
      cases hh : ks[i]? with
      | none =>
        rw [hh] at h2
        cases h2
      | some k =>
        rw [hh] at h2
        exact ⟨h1, k, hh, (Option.some.inj h2).symm⟩) hG hm
theorem fun_yes {σ : L2.St} {H : Hp} {Q : Hp → Prop} {P : Hp → Prop} (h : P H) : tYes σ H (fun b H3 => if b = true then P H3 else Q H3) := by
  show (if true = true then P H else Q H)
  rw [if_pos rfl]
  exact h
/-- {k: e for k in ..}, keys that differ; Inv, a word of what has been given so far -/
theorem er_dcomp {j : Nat} {ks : List Str} (hI : EvI wi σ H ks.length (YKey ks)) (hnd : ks.Nodup) (hz : ks.length ≤ 1000) (Inv : Hp → List (Str × V) → Hp → Prop) (h0 : ∀ H1 A, Ex H H1 → Inv H1 [] A) (hmono : ∀ H1 l A B, Ex A B → Inv H1 l A → Inv H1 l B) (Rl : Str → Rel)
    (step : ∀ H1 D l k v A B, Ex H H1 → Ex H1 (hideA D A) → A D ≠ none → Ex A B → Inv H1 l (hideA D A) → Rl k v A B → Inv H1 (l ++ [(k, v)]) (hideA D B))
    (hw : ∀ x, wipe ((wipe σ vs).set j (some x)) vs = wipe σ vs)
    (hk : ∀ k ∈ ks, ∀ H1, Ex H H1 → Ev tk ((wipe σ vs).set j (some (.str k))) H1 (.str k)) (he : ∀ k ∈ ks, ∀ H1, Ex H H1 → EvR tv ((wipe σ vs).set j (some (.str k))) H1 (Rl k)) :
    EvR (tDc wi (gName j) tYes tk tv vs) σ H (fun v H1 H2 => ∃ D l, v = .ref D ∧ H1 D = none ∧ l.map Prod.fst = ks ∧ H2 D = some (.dK (kvOf l)) ∧ ∃ H1', Ex H1 H1' ∧ H1' D = none ∧ Inv H1' l (hideA D H2)) := fun H0 e0 Q q => hI H0 e0 _ fun J G H1 e1 wk hg hgm D hD => by
  let Pv : Nat → Hp → Prop := fun i H' => Ex H1 H' ∧ ∃ l : List (Str × V), l.map Prod.fst = ks.take i ∧ H' D = some (.dK (kvOf l)) ∧ Inv H1 l (hideA D H')
  refine ⟨fun i m H => m = ks.length - i ∧ i ≤ ks.length ∧ Pv i H, ⟨ks.length, by simp, Nat.zero_le _, Ex.new hD, [], rfl, upd_same, h0 _ _ (e0.trans e1)⟩, ?_⟩
  rintro i m H' ⟨rfl, hi, e2, l, hl, hd, hinv⟩
  have hgi := hgm _ _ e2 hg
  by_cases hlt : i < ks.length
  · refine .inr ⟨wk.goes i H' hlt hgi, Pv (i + 1), fun H'' p' => ⟨ks.length - (i + 1), by omega, rfl, hlt, p'⟩, fun x H2 y => ?_⟩
    obtain ⟨rfl, k, hik, rfl⟩ := wk.yields i H' x H2 hlt hgi y
    have hkm := List.mem_of_getElem? hik
    refine ⟨hw _, fun_yes ?_⟩
    refine hk k hkm H2 ((e0.trans e1).trans e2) H2 (Ex.refl H2) _ fun H3 e3 => he k hkm H3 (((e0.trans e1).trans e2).trans e3) H3 (Ex.refl H3) _ fun v H4 e4 r => ?_
    have hd4 : H4 D = some (.dK (kvOf l)) := e4 _ _ (e3 _ _ hd)
    have hnot : k ∉ l.map Prod.fst := by
      rw [hl]
      intro hm
      obtain ⟨a, ha, ea⟩ := List.getElem_of_mem hm
      rw [List.getElem_take] at ea
      have h1 := (List.getElem?_eq_some_iff.mp hik)
      obtain ⟨h1a, h1b⟩ := h1
      have ha' : a < i := by rw [List.length_take] at ha; omega
      exact absurd (ea.trans h1b.symm) fun e => by
        have := nd_inj hnd _ _ e
        omega
    have llen : l.length ≤ ks.length := by
      have := congrArg List.length hl
      rw [List.length_map, List.length_take] at this
      omega
    refine ⟨kvOf l, Sum.inr k, rfl, hd4, sz_lt (by rw [List.length_map]; omega), Ex.mut ((e2.trans e3).trans e4) hD, l ++ [(k, v)], ?_, ?_, ?_⟩
    · rw [List.map_append, hl, List.take_add_one, hik]
      rfl
    · rw [upd_same, putK_new v (valV_absent hnot)]
      simp
    · rw [hideA_upd]
      have hex : Ex H1 (hideA D H3) := fun b o hb => by
        rw [hideA_ne (ne_of_none hb hD)]
        exact (e2.trans e3) _ _ hb
      exact step H1 D l k v H3 H4 (e0.trans e1) hex (by rw [e3 _ _ hd]; simp) e4 (hmono _ _ _ _ (hideA_mono e3) hinv) r
  · have ei : i = ks.length := by omega
    subst ei
    rw [List.take_length] at hl
    exact .inl ⟨wk.stops H' hgi, q _ H' (e1.trans e2) ⟨D, l, rfl, fresh_back e1 hD, hl, hd, H1, e1, hD, hinv⟩⟩
end
/-- a new dict of new lists, all apart -/
def RDictL (ks : List Str) (f : Str → List V) : Rel := fun v H1 H2 => ∃ (D : Addr) (wa : Str → Addr), v = .ref D ∧ H1 D = none ∧ H2 D = some (.dK (ks.map fun k => (Sum.inr k, V.ref (wa k)))) ∧ (∀ k ∈ ks, H1 (wa k) = none ∧ H2 (wa k) = some (.lst (f k))) ∧ ∀ k ∈ ks, ∀ k' ∈ ks, wa k = wa k' → k = k'
theorem bk_dictL {ks : List Str} {f : Str → List V} : Bk (RDictL ks f) := fun _ _ _ _ e ⟨D, wa, h1, h2, h3, h4, h5⟩ => ⟨D, wa, h1, fresh_back e h2, h3, fun k hk => ⟨fresh_back e (h4 k hk).1, (h4 k hk).2⟩, h5⟩
def RDictV (ks : List Str) (f : Str → V) : Rel := fun v H1 H2 => ∃ D, v = .ref D ∧ H1 D = none ∧ H2 D = some (.dK (ks.map fun k => (Sum.inr k, f k)))
section
variable {σ : L2.St} {H : Hp} {wi : TI} {g : TG} {tk tv : TE} {vs : List Nat} {n : Nat} {Y : Nat → Hp → V → Hp → Prop}
theorem er_dcompL {j : Nat} {ks : List Str} (f : Str → List V) (hI : EvI wi σ H ks.length (YKey ks)) (hnd : ks.Nodup) (hz : ks.length ≤ 1000) (hw : ∀ x, wipe ((wipe σ vs).set j (some x)) vs = wipe σ vs)
    (hk : ∀ k ∈ ks, ∀ H1, Ex H H1 → Ev tk ((wipe σ vs).set j (some (.str k))) H1 (.str k)) (he : ∀ k ∈ ks, ∀ H1, Ex H H1 → EvL tv ((wipe σ vs).set j (some (.str k))) H1 (f k)) : EvR (tDc wi (gName j) tYes tk tv vs) σ H (RDictL ks f) := by
  refine EvR.imp (er_dcomp hI hnd hz (fun H1 l A => (∀ p ∈ l, ∃ a, p.2 = .ref a ∧ H1 a = none ∧ A a = some (.lst (f p.1))) ∧ (l.map Prod.snd).Nodup) (fun _ _ _ => ⟨fun p hp => (nomatch hp), by simp⟩) (fun H1 l A B e h => ⟨fun p hp => by
    obtain ⟨a, h1, h2, h3⟩ := h.1 p hp
    exact ⟨a, h1, h2, e _ _ h3⟩, h.2⟩) (fun k => RL (f k)) ?_ hw hk fun k hk H1 e => er_l (he k hk H1 e)) ?_
  · rintro H1 D l k v A B e eA hD eB ⟨h1, h2⟩ ⟨a, rfl, ha, ha'⟩
    have aD : a ≠ D := fun q => hD (by rw [← q]; exact ha)
    refine ⟨fun p hp => ?_, ?_⟩
    · rcases List.mem_append.mp hp with hp | hp
      · obtain ⟨b, q1, q2, q3⟩ := h1 p hp
        exact ⟨b, q1, q2, hideA_mono eB _ _ q3⟩
      · have ep : p = (k, .ref a) := by simpa using hp
        subst ep
        refine ⟨a, rfl, fresh_back eA (by rw [hideA_ne aD]; exact ha), ?_⟩
        rw [hideA_ne aD]
        exact ha'
    · rw [List.map_append, List.nodup_append]
      refine ⟨h2, by simp, fun x hx y hy e => ?_⟩
      obtain ⟨p, hp, rfl⟩ := List.mem_map.mp hx
      have ey : y = .ref a := by simpa using hy
      obtain ⟨b, q1, q2, q3⟩ := h1 p hp
      rw [ey, q1] at e
      cases e
      rw [hideA_ne aD, ha] at q3
      cases q3
  · rintro v H1 H2 e1 e2 ⟨D, l, rfl, hD, hl, hd, H1', e1', hD', h1, h2⟩
    let wa : Str → Addr := fun k => match (l.lookup k).getD .non with | .ref a => a | _ => 0
    have el := lookup_of hl hnd
    have hv : ∀ k ∈ ks, (l.lookup k).getD .non = .ref (wa k) ∧ H1' (wa k) = none ∧ hideA D H2 (wa k) = some (.lst (f k)) := fun k hk => by
      have hm : (k, (l.lookup k).getD .non) ∈ l := (congrArg (fun z => (k, (l.lookup k).getD .non) ∈ z) el).mpr (List.mem_map.mpr ⟨k, hk, rfl⟩)
      obtain ⟨a, q1, q2, q3⟩ := h1 _ hm
      have q1 : (l.lookup k).getD .non = .ref a := q1
      have ea : wa k = a := by
        show (match (l.lookup k).getD .non with | .ref a => a | _ => 0) = a
        rw [q1]
      rw [ea]
      exact ⟨q1, q2, q3⟩
    refine ⟨D, wa, rfl, hD, ?_, fun k hk => ⟨fresh_back e1' (hv k hk).2.1, hideA_ex _ _ _ _ (hv k hk).2.2⟩, fun k hk k' hk' e => ?_⟩
    · rw [hd]
      congr 2
      unfold kvOf
      conv => lhs; rw [el]
      rw [List.map_map]
      refine List.map_congr_left fun k hk => ?_
      show (Sum.inr k, (l.lookup k).getD .non) = _
      rw [(hv k hk).1]
    · have hm : (l.map Prod.snd) = ks.map fun k => (l.lookup k).getD .non := by
        conv => lhs; rw [el]
        rw [List.map_map]
        rfl
      rw [hm] at h2
      obtain ⟨i, hi, rfl⟩ := List.getElem_of_mem hk
      obtain ⟨i', hi', rfl⟩ := List.getElem_of_mem hk'
      have q := nd_inj h2 (i := i) (j := i') (by simpa using hi) (by simpa using hi')
      rw [List.getElem_map, List.getElem_map, (hv _ hk).1, (hv _ hk').1, e] at q
      have := q rfl
      subst this
      rfl
theorem er_dcompV {j : Nat} {ks : List Str} (f : Str → V) (hI : EvI wi σ H ks.length (YKey ks)) (hnd : ks.Nodup) (hz : ks.length ≤ 1000) (hw : ∀ x, wipe ((wipe σ vs).set j (some x)) vs = wipe σ vs)
    (hk : ∀ k ∈ ks, ∀ H1, Ex H H1 → Ev tk ((wipe σ vs).set j (some (.str k))) H1 (.str k)) (he : ∀ k ∈ ks, ∀ H1, Ex H H1 → Ev tv ((wipe σ vs).set j (some (.str k))) H1 (f k)) : EvR (tDc wi (gName j) tYes tk tv vs) σ H (RDictV ks f) := by
  refine EvR.imp (er_dcomp hI hnd hz (fun H1 l A => l = (l.map Prod.fst).map fun k => (k, f k)) (fun _ _ _ => rfl) (fun H1 l A B e h => h) (fun k => RV (f k)) ?_ hw hk fun k hk H1 e => er_v (he k hk H1 e)) ?_
  · rintro H1 D l k v A B e eA hD eB h1 r
    have r : v = f k := r
    subst r
    rw [List.map_append, List.map_append, ← h1]
    rfl
  · rintro v H1 H2 e1 e2 ⟨D, l, rfl, hD, hl, hd, H1', e1', hD', h1⟩
    refine ⟨D, rfl, hD, ?_⟩
    rw [hd, ← hl]
    congr 2
    unfold kvOf
    conv => lhs; rw [h1]
    rw [List.map_map]
    rfl
/-- a dict locked while its keys are walked -/
theorem er_lock {te : TE} {d : Addr} {u : HO} {R R' : Rel} (hd : H d = some u) (hu : Mut (some u)) (h : ∀ od H1, Ex H H1 → EvR te σ (upd H1 d (.frz od u)) R) (hR : ∀ od v H1 H2, H1 d = some u → R v (upd H1 d (.frz od u)) H2 → H2 d = some (.frz od u) → R' v H1 (upd H2 d u)) : EvR (tLockE te) σ H R' := fun H1 e Q q =>
  ⟨d, u, e _ _ hd, hu, fun od => h od H1 e _ (Ex.refl _) _ fun v H2 e2 r => by
    have hf : H2 d = some (.frz od u) := e2 _ _ upd_same
    refine ⟨hf, q v _ (fun b o hb => ?_) (hR od v H1 H2 (e _ _ hd) r hf)⟩
    by_cases q : b = d
    · subst q
      rw [e _ _ hd] at hb
      cases hb
      exact upd_same
    · rw [upd_ne q]
      exact e2 _ _ (by rw [upd_ne q]; exact hb)⟩
theorem ei_keys {td : TE} {d : Addr} {od : Obj} {ks : List Str} {f : Str → V} (h : Ev td σ H (.ref d)) (hd : H d = some (.frz od (.dK (ks.map fun k => (Sum.inr k, f k))))) : EvI (iKeys td) σ H ks.length (YKey ks) := fun H1 e R k =>
  h H1 e _ fun H2 e2 => ⟨d, od, rfl, .inl ⟨_, (e.trans e2) _ _ hd, k _ _ H2 e2 (by
    have w := walk_keys (d := d) (o := od) (kvs := ks.map fun k => ((Sum.inr k : Key), f k))
    rw [List.length_map] at w
    exact w.mono (fun _ h => h) fun i H x H' hi _ y => by
      obtain ⟨h1, k, v, h2, h3⟩ := y
      rw [List.getElem?_map] at h2
      cases hh : ks[i]? with
      | none =>
        rw [hh] at h2
        cases h2
      | some z =>
        rw [hh] at h2
        cases h2
        exact ⟨h1, z, hh, h3⟩) ((e.trans e2) _ _ hd) fun A B e3 g => e3 _ _ g⟩⟩
end
/-- the first operand a value, the second a new list -/
theorem ev_opL1' {σ : L2.St} {H : Hp} {ta tb : TE} {r : R2} {x z : V} {xs : List V} (ha : Ev ta σ H x) (hb : EvL tb σ H xs) (hr : ∀ p H1, H1 p = some (.lst xs) → Ex H H1 → Evl.RV r x (.ref p) H1 z) : Ev (tOp r ta tb) σ H z := ev_opL ha hb hr
theorem canLay_ints : ∀ fs : List Int, PyData.canLayAll0 (fs.map PySem.W.Datum.toD) = true
  | [] => rfl
  | x :: r => by
    rw [List.map_cons, PyData.canLayAll0, canLay_ints r]
    rfl
theorem shaped_ints (fs : List Nat) : SeqAt.shaped (.list ((fs.map fun n : Nat => (n : Int)).map PySem.W.Datum.toD)) = true := by
  unfold SeqAt.shaped
  rw [Bool.and_eq_true]
  refine ⟨?_, decide_eq_true ?_⟩
  · rw [PyData.canLay0]
    exact canLay_ints _
  · have := PySem.W.Datum.depth_le (fs.map fun n : Nat => (n : Int))
    exact Nat.le_trans this (by decide)
theorem fun_asg2 {σ : L2.St} {H : Hp} {te : TE} {g : TG} {tz : TS} {D : Ends} {xs : List V} (h : EvU te σ H xs) (k : ∀ p H1, H p = none → Ex H H1 → H1 p = some (.tup xs) → g (.ref p) σ H1 (tz D)) : tSeq (tAsg te g) tz D σ H := h H (Ex.refl H) _ fun p H1 hp e h1 => k p H1 hp e h1
section
variable {X : Cx}
/-- name = {..} on one line, the name a local -/
theorem ps_setDc {i : Nat} {y : Str} {py : Pos} {kx vx tg iter : Expr} {ifs : List Expr} {scope : Scope} {own : List (Str × Nat)} {pos spos : Pos} {wi : TI} {g : TG} {tt : TT} {tk tv : TE} (hc : X.calm = true) (hN : X.N.Nodup) (hy : X.N[i]? = some y) (hyl : X.env.scope.names.lookup y = some .local)
    (hsw : swapsWith (.DictComp kx vx [⟨tg, iter, ifs, 0⟩] scope pos) (some (.Name y py)) spos.line X.env = pure true) (hi : PI X tg iter wi) (ok : BlkOk X.N X.env.scope scope own)
    (hg : ∀ (s : Shared) (H : Hp) (C : Addr) (cl : List (Str × Addr)) (fp : List Addr), PG (X.blk s H scope (compEnvC scope cl C X.env) fp) tg g) (ht : ∀ (s : Shared) (H : Hp) (C : Addr) (cl : List (Str × Addr)) (fp : List Addr), PTs (X.blk s H scope (compEnvC scope cl C X.env) fp) ifs tt)
    (hk : ∀ (s : Shared) (H : Hp) (C : Addr) (cl : List (Str × Addr)) (fp : List Addr), PE (X.blk s H scope (compEnvC scope cl C X.env) fp) kx tk)
    (he : ∀ (s : Shared) (H : Hp) (C : Addr) (cl : List (Str × Addr)) (fp : List Addr), PE (X.blk s H scope (compEnvC scope cl C X.env) fp) vx tv) (hs : ∀ x, foldedSetIterable iter X.env x = pure x := by intro _; rfl) :
    PS X (.Assign [.Name y py] (.DictComp kx vx [⟨tg, iter, ifs, 0⟩] scope pos) spos) (tAsg (tDc wi g tt tk tv (own.map (·.2))) (gName i)) := by
  refine ⟨fun pins s σ H D I h => ?_⟩
  rw [exec_Assign_Name_used _ _ _ _ hsw]
  refine wpAny_bind (wpAny_standAt (wpAny_bind ?_))
  show wpAny _ X.A (do let _ ← comprehension (.DictComp kx vx [⟨tg, iter, ifs, 0⟩] scope pos) scope X.env (firstIterPos [⟨tg, iter, ifs, 0⟩] pos) newDict false (eval iter X.env) (some (assign (.Name y py) X.env))) _ _ s
  have h : tDc wi g tt tk tv (own.map (·.2)) σ H (fun x H1 => gName i x σ H1 D.nx) := h
  refine wpAny_bind (thn (dc_core (Qf := fun _ s' => SP X pins D .next s') hc hN I hi ok hg ht hk he hs h fun L C s' m H' I' q hn f => ?_) fun _ s' hq => wpAny_pure (wpAny_pure hq))
  show wpAny _ _ (assign (.Name y py) X.env (.ref L)) _ _ _
  refine wpAny_assign_Name (store_ok2 (v := V.ref L) I' hN hy (.inl hyl) rfl (fun s2 I2 ⟨a, sb, ha⟩ => ?_) (.inr hyl))
  obtain ⟨f0, f1, f2, f3, f4, f5⟩ := f
  have haC : C ≠ a := by
    rcases ha with z | z
    · rw [z]; exact f1
    · exact fun e => f4 y a z e.symm
  refine ⟨m, hn.sameBut sb haC, fun h3 sb3 => ?_⟩
  exact ⟨_, H', I2.turned (t' := s2.toks) (fun b o hb e => (sb3.2 b hb).trans e) f0 f1 f3 f4 f5, q⟩
theorem sw_trueD {kx vx : Expr} {gs : List Comprehension} {scope : Scope} {pos py : Pos} {y : Str} {l : Nat} {env : Env} (hk : env.scope.kind = .function) (hy : env.scope.names.lookup y = some .local) (hl : (py.line == pos.line) = true)
    (ha : (scope.names.any fun (n, k) => n == y && (k == .local || k == .cell)) = false) : swapsWith (.DictComp kx vx gs scope pos) (some (.Name y py)) l env = pure true := by
  have ky : env.kindOf y = some .local := hy
  have hb : env.blockKind = .function := by unfold Env.blockKind; rw [hk]; rfl
  unfold swapsWith
  simp only [hb, ky, ha, Expr.pos, hl]
  rfl
end
/-! ### a heap without some -/
open Classical in
noncomputable def hideP (P : Addr → Prop) (H : Hp) : Hp := fun b => if P b then none else H b
theorem hideP_ne {P : Addr → Prop} {H : Hp} {b : Addr} (h : ¬ P b) : hideP P H b = H b := by
  unfold hideP
  rw [if_neg h]
theorem hideP_yes {P : Addr → Prop} {H : Hp} {b : Addr} (h : P b) : hideP P H b = none := by
  unfold hideP
  rw [if_pos h]
theorem hideP_ex (P : Addr → Prop) (H : Hp) : Ex (hideP P H) H := fun b o h => by
  by_cases e : P b
  · rw [hideP_yes e] at h
    cases h
  · rw [hideP_ne e] at h
    exact h
theorem ex_hideP {P : Addr → Prop} {H H' : Hp} (e : Ex H H') (h : ∀ b, P b → H b = none) : Ex H (hideP P H') := fun b o hb => by
  have : ¬ P b := fun q => by
    rw [h b q] at hb
    cases hb
  rw [hideP_ne this]
  exact e _ _ hb
/-! ### loops over what changes -/
section
variable {K : PySem.W.Frag} {σ : L2.St} {H Hc : Hp} {ta : TA} {tu tz : TS} {D : Ends} {a : Addr} {xs : List V} {j k : Nat}
theorem s_forEnum (h : EvA ta σ H [.ref a]) (hx : SqL K Hc a xs) (Pv : Nat → L2.St → Hp → Prop) (h0 : ∀ H1, Ex H H1 → Pv 0 σ H1) (hP : ∀ i σ' H', Pv i σ' H' → Ex Hc H')
    (turn : ∀ i x σ' H' t, xs[i]? = some x → Pv i σ' H' → H' t = none → tu { D with nx := Pv (i + 1), ct := Pv (i + 1), bk := D.nx } ((σ'.set j (some (.int (i : Nat)))).set k (some x)) (upd H' t (.tup [.int (i : Nat), x]))) (done : ∀ σ' H', Pv xs.length σ' H' → D.nx σ' H') :
    tFor (iEnum K ta) (gTup K 2 (gCons (gName j) (gCons (gName k) gNil))) tu D σ H := h H (Ex.refl H) _ fun H1 e => ⟨a, xs, rfl, ex_l (hP 0 σ H1 (h0 H1 e)) hx, for_it walk_enum Pv (h0 H1 e) (fun i σ' H' _ p => ex_l (hP i σ' H' p) hx) (fun i x σ' H' H2 hi p y => by
    obtain ⟨T, u, v, rfl, hT, rfl, hu, hv⟩ := y
    cases hu
    exact ⟨T, _, rfl, st_of upd_same, rfl, _, _, rfl, _, _, rfl, rfl, turn i v σ' H' T hv p hT⟩) done⟩
theorem q_forEnum (h : EvA ta σ H [.ref a]) (hx : SqL K Hc a xs) (Pv : Nat → L2.St → Hp → Prop) (h0 : ∀ H1, Ex H H1 → Pv 0 σ H1) (hP : ∀ i σ' H', Pv i σ' H' → Ex Hc H')
    (turn : ∀ i x σ' H' t, xs[i]? = some x → Pv i σ' H' → H' t = none → tu { D with nx := Pv (i + 1), ct := Pv (i + 1), bk := tz D } ((σ'.set j (some (.int (i : Nat)))).set k (some x)) (upd H' t (.tup [.int (i : Nat), x]))) (done : ∀ σ' H', Pv xs.length σ' H' → tz D σ' H') :
    tSeq (tFor (iEnum K ta) (gTup K 2 (gCons (gName j) (gCons (gName k) gNil))) tu) tz D σ H := s_forEnum (D := { D with nx := tz D }) h hx Pv h0 hP turn done
end
end K64
set_option Elab.async false
set_option linter.all false
set_option maxRecDepth 100000
set_option maxHeartbeats 4000000
/-! all_partners. -/
namespace K64
open PySem PySem.Spec PyProof.Rows L2 Evl
section
variable {P : Program} {w : World} {K : PySem.W.Frag} {mg : Str → Option Value} {base : Heap}
def kdOf (ps : List Str) (j : Nat) : Str := (ps[j]?).getD Str.empty
def fitsM (d : Kd) (ps : List Str) (j i : Nat) : Bool := decide (kdOf ps j ∈ d.matesAll [kdOf ps i])
abbrev nvs (xs : List Nat) : List V := xs.map fun n : Nat => V.int (n : Int)
theorem kdOf_at {ps : List Str} {i : Nat} {x : Str} (h : ps[i]? = some x) : kdOf ps i = x := by
  unfold kdOf
  rw [h]
  rfl
/-- what changes, at the i-th turn -/
structure QInv (d : Kd) (ps : List Str) (fl gd : Addr) (wa : Str → Addr) (i : Nat) (H : Hp) (fv : List V) (W : Str → List Nat) (G : Str → Nat) (kvs : List (Key × V)) : Prop where
  fl : H fl = some (.lst fv)
  len : fv.length = ps.length
  non : ∀ j, j < ps.length → (fv[j]? = some .non ↔ (j ∈ curN (fitsM d ps) i ∨ i ≤ j))
  wa : ∀ k ∈ d.sk, H (wa k) = some (.lst (nvs (W k)))
  gd : H gd = some (.dK kvs)
  gv : ∀ k ∈ d.sk, valV kvs (Sum.inr k) = some (.int (G k : Nat))
  kl : kvs.length ≤ 8 + i
  que : ∀ k ∈ d.sk, (W k).drop (G k) = (curN (fitsM d ps) i).filter fun j => decide (kdOf ps j = k)
  gl : ∀ k ∈ d.sk, G k ≤ (W k).length
  wl : ∀ k ∈ d.sk, (W k).length ≤ i
theorem QInv.ex {d : Kd} {ps : List Str} {fl gd : Addr} {wa : Str → Addr} {i : Nat} {H H' : Hp} {fv : List V} {W : Str → List Nat} {G : Str → Nat} {kvs : List (Key × V)} (q : QInv d ps fl gd wa i H fv W G kvs) (e : Ex H H') : QInv d ps fl gd wa i H' fv W G kvs :=
  ⟨e _ _ q.fl, q.len, q.non, fun k hk => e _ _ (q.wa k hk), e _ _ q.gd, q.gv, q.kl, q.que, q.gl, q.wl⟩
def RPart (d : Kd) (ps : List Str) : Rel := fun v H1 H2 => ∃ f fv, v = .ref f ∧ H1 f = none ∧ H2 f = some (.lst fv) ∧ fv.length = ps.length ∧ ∀ j, j < ps.length → (fv[j]? = some .non ↔ j ∈ curN (fitsM d ps) ps.length)
theorem bk_part {d : Kd} {ps : List Str} : Bk (RPart d ps) := fun _ _ _ _ e ⟨f, fv, h1, h2, h3⟩ => ⟨f, fv, h1, fresh_back e h2, h3⟩
def spAllP (K : PySem.W.Frag) : Sp := pur fun vs H R => ∃ S p d ps, vs = [.ref S, .ref p] ∧ Su K H S d ∧ KdOk d ∧ H p = some (.lst (svs ps)) ∧ ps.length ≤ 1000 ∧ (∀ x ∈ ps, x ∈ d.sk) ∧ R = RPart d ps
theorem fm_filter {α β : Type} (f : α → Option β) (p : α → Bool) (g : α → β) (l : List α) (h1 : ∀ a ∈ l, p a = (f a).isSome) (h2 : ∀ a ∈ l, ∀ b, f a = some b → g a = b) : (l.filter p).map g = l.filterMap f := by
  induction l with
  | nil => rfl
  | cons a r ih =>
    have ih := ih (fun x hx => h1 x (List.mem_cons_of_mem _ hx)) (fun x hx => h2 x (List.mem_cons_of_mem _ hx))
    cases hf : f a with
    | none =>
      rw [List.filter_cons, if_neg (by rw [h1 a List.mem_cons_self, hf]; exact Bool.false_ne_true), List.filterMap_cons_none hf, ih]
    | some b =>
      rw [List.filter_cons, if_pos (by rw [h1 a List.mem_cons_self, hf]; rfl), List.filterMap_cons_some hf, List.map_cons, ih, h2 a List.mem_cons_self b hf]
theorem matesAll_mem {d : Kd} {ks : List Str} {k : Str} (h : k ∈ d.matesAll ks) : k ∈ d.sk := (List.mem_filter.mp h).1
theorem dp_nvs {H : Hp} : ∀ xs : List Nat, DpAll K H (nvs xs) ((xs.map fun n : Nat => (n : Int)).map PySem.W.Datum.toD)
  | [] => .nil
  | x :: xs => .cons (.int x) (dp_nvs xs)
theorem sc_all_partners : FnScope ["suits", "persons", "found", "kind", "mates", "waiting", "gone", "number", "firsts", "mate", "first"] ["suits", "persons"] (defScope s_all_partners) := C8.fnScope_by (by decide +kernel)
theorem nv_get {xs : List Nat} {n x : Nat} (h : xs[n]? = some x) : (nvs xs)[n]? = some (.int (x : Int)) := by
  rw [List.getElem?_map, h]
  rfl
/-- the turn at which i joins -/
theorem QInv.join {d : Kd} {ps : List Str} {fl gd : Addr} {wa : Str → Addr} {i : Nat} {H : Hp} {fv : List V} {W : Str → List Nat} {G : Str → Nat} {kvs : List (Key × V)} (q : QInv d ps fl gd wa i H fv W G kvs) (hi : i < ps.length) (hk : kdOf ps i ∈ d.sk)
    (hno : (curN (fitsM d ps) i).find? (fun j => fitsM d ps j i) = none) (h1 : ∀ k ∈ d.sk, wa k ≠ fl ∧ wa k ≠ gd) (h2 : ∀ k ∈ d.sk, ∀ k' ∈ d.sk, wa k = wa k' → k = k') :
    QInv d ps fl gd wa (i + 1) (upd H (wa (kdOf ps i)) (.lst (nvs (W (kdOf ps i)) ++ [.int (i : Nat)]))) fv (fun k => if k = kdOf ps i then W k ++ [i] else W k) G kvs := by
  have hc : curN (fitsM d ps) (i + 1) = curN (fitsM d ps) i ++ [i] := by
    show comeN _ _ _ = _
    unfold comeN
    rw [hno]
  refine ⟨by rw [upd_ne (h1 _ hk).1.symm]; exact q.fl, q.len, fun j hj => ?_, fun k hk' => ?_, by rw [upd_ne (h1 _ hk).2.symm]; exact q.gd, q.gv, by have := q.kl; omega, fun k hk' => ?_, fun k hk' => ?_, fun k hk' => ?_⟩
  · rw [q.non j hj, hc, List.mem_append, List.mem_singleton]
    constructor
    · rintro (h | h)
      · exact .inl (.inl h)
      · by_cases e : j = i
        · exact .inl (.inr e)
        · exact .inr (by omega)
    · rintro ((h | h) | h)
      · exact .inl h
      · exact .inr (by omega)
      · exact .inr (by omega)
  · by_cases e : k = kdOf ps i
    · subst e
      rw [upd_same, if_pos rfl]
      simp
    · rw [upd_ne (fun x => e (h2 _ hk' _ hk x)), if_neg e]
      exact q.wa k hk'
  · rw [hc, filt_join]
    by_cases e : k = kdOf ps i
    · rw [if_pos e, if_pos e.symm, List.drop_append_of_le_length (q.gl k hk'), q.que k hk']
    · rw [if_neg e, if_neg (fun x => e x.symm), List.append_nil, q.que k hk']
  · by_cases e : k = kdOf ps i
    · rw [if_pos e, List.length_append]
      have := q.gl k hk'
      omega
    · rw [if_neg e]
      exact q.gl k hk'
  · by_cases e : k = kdOf ps i
    · rw [if_pos e, List.length_append, List.length_singleton]
      have := q.wl k hk'
      omega
    · rw [if_neg e]
      have := q.wl k hk'
      omega
theorem ex_upd {A B : Hp} {g : Addr} {o : HO} (e : Ex A B) : Ex (upd A g o) (upd B g o) := fun b u h => by
  by_cases q : b = g
  · subst q
    rw [upd_same] at h ⊢
    exact h
  · rw [upd_ne q] at h ⊢
    exact e _ _ h
/-- the turn at which j0 leaves -/
theorem QInv.leave {d : Kd} {ps : List Str} {fl gd : Addr} {wa : Str → Addr} {i j0 : Nat} {H H2 H3 : Hp} {fv : List V} {W : Str → List Nat} {G : Str → Nat} {kvs : List (Key × V)} (q : QInv d ps fl gd wa i H fv W G kvs) (hi : i < ps.length) (hk : kdOf ps j0 ∈ d.sk)
    (hj : (curN (fitsM d ps) i).find? (fun j => fitsM d ps j i) = some j0) (h1 : ∀ k ∈ d.sk, wa k ≠ fl ∧ wa k ≠ gd) (hgf : gd ≠ fl)
    (e2 : H2 = upd (upd H fl (.lst (fv.set i (.int (j0 : Nat))))) fl (.lst ((fv.set i (.int (j0 : Nat))).set j0 (.int (i : Nat))))) (e3 : H3 = upd H2 gd (.dK (putK kvs (Sum.inr (kdOf ps j0)) (.int ((G (kdOf ps j0) : Int) + 1))))) :
    QInv d ps fl gd wa (i + 1) H3 ((fv.set i (.int (j0 : Nat))).set j0 (.int (i : Nat))) W (fun k => if k = kdOf ps j0 then G k + 1 else G k) (putK kvs (Sum.inr (kdOf ps j0)) (.int ((G (kdOf ps j0) : Int) + 1))) := by
  have hc : curN (fitsM d ps) (i + 1) = (curN (fitsM d ps) i).erase j0 := by
    show comeN _ _ _ = _
    unfold comeN
    rw [hj]
  have hm : j0 ∈ curN (fitsM d ps) i := List.mem_of_find?_eq_some hj
  have hlt := curN_lt _ _ _ hm
  have nd := asc_nodup (curN_asc (fitsM d ps) i)
  have hj' : (curN (fitsM d ps) i).find? (fun j => decide (kdOf ps j ∈ d.matesAll [kdOf ps i])) = some j0 := hj
  refine ⟨by rw [e3, upd_ne hgf.symm, e2, upd_same], by rw [List.length_set, List.length_set]; exact q.len, fun j hjn => ?_, fun k hk' => ?_, by rw [e3, upd_same], fun k hk' => ?_, ?_, fun k hk' => ?_, fun k hk' => ?_, fun k hk' => by have := q.wl k hk'; omega⟩
  · rw [hc, List.Nodup.mem_erase_iff nd]
    by_cases ej : j = j0
    · subst ej
      rw [List.getElem?_set_self (by rw [List.length_set, q.len]; omega)]
      simp
      omega
    · rw [List.getElem?_set_ne (fun e => ej e.symm)]
      by_cases ei : j = i
      · subst ei
        rw [List.getElem?_set_self (by rw [q.len]; omega)]
        simp
        intro _ h
        have := curN_lt _ _ _ h
        omega
      · rw [List.getElem?_set_ne (fun e => ei e.symm), q.non j hjn]
        constructor
        · rintro (h | h)
          · exact .inl ⟨ej, h⟩
          · exact .inr (by omega)
        · rintro (h | h)
          · exact .inl h.2
          · exact .inr (by omega)
  · rw [e3, upd_ne (h1 k hk').2, e2, upd_ne (h1 k hk').1, upd_ne (h1 k hk').1]
    exact q.wa k hk'
  · rw [valV_put]
    by_cases e : k = kdOf ps j0
    · subst e
      simp
    · rw [if_neg (fun x => e (Sum.inr.inj x)), if_neg e]
      exact q.gv k hk'
  · have := length_putK kvs (Sum.inr (kdOf ps j0)) (V.int ((G (kdOf ps j0) : Int) + 1))
    have := q.kl
    omega
  · rw [hc, filt_leave (curN_asc _ _) hj' k]
    by_cases e : k = kdOf ps j0
    · rw [if_pos e, if_pos e.symm, ← q.que k hk', List.drop_drop]
    · rw [if_neg e, if_neg (fun x => e x.symm), q.que k hk']
  · by_cases e : k = kdOf ps j0
    · rw [if_pos e]
      have hne : (W k).drop (G k) ≠ [] := by
        rw [q.que k hk']
        intro h
        have : j0 ∈ (curN (fitsM d ps) i).filter fun j => decide (kdOf ps j = k) := List.mem_filter.mpr ⟨hm, decide_eq_true e.symm⟩
        rw [h] at this
        cases this
      have : G k < (W k).length := by
        rcases Nat.lt_or_ge (G k) (W k).length with h | h
        · exact h
        · exact absurd (List.drop_of_length_le h) hne
      omega
    · rw [if_neg e]
      exact q.gl k hk'
theorem el_matesN {σ : L2.St} {H : Hp} {te ta : TE} {E : XK} {S : Addr} {d : Kd} {ks : List Str} (h : Ev te σ H (.ref S)) (hS : Su K H S d) (hd : d.sk.length ≤ 100) (ha : EvL ta σ H (svs ks)) :
    EvL (tMeth (He.ga K "Suits") "mates" (spMates K) [] E te (tCons ta tNil)) σ H (svs (d.matesAll ks)) := by
  obtain ⟨dx, fs, h1, h2⟩ := hS.ref
  refine el_of (er_methR h h1 (h2 _ (by decide) (by decide) (by decide)) (ear_cons (er_l ha) ear_nil) bk_l ?_)
  rintro vs H1 H2 e1 e2 ⟨v, r, H3, rfl, e3, e4, ⟨l, rfl, _, hl⟩, rfl⟩
  exact ⟨_, ⟨S, d, l, ks, rfl, hS.ex (e1.trans e2), hd, e4 _ _ hl, rfl⟩, fun v H3 e r => bk_l _ _ _ _ e2 r⟩
theorem KdOk.nd {d : Kd} (h : KdOk d) : d.sk.Nodup := asc_nd h.asc
theorem ok_all_partners (T : Tp K mg) (F : FD K d_all_partners) (c_S_mates : C8.Met P w K mg base 1 (He.ga K "Suits") "mates" (spMates K) []) (c_S_kinds : C8.Met P w K mg base 1 (He.ga K "Suits") "kinds" (spKinds K) []) : C8.Cal P w K mg base 2 "all_partners" (spAllP K) [] := by
  refine cal_k F T.g_all_partners sc_all_partners (fun _ _ _ _ _ _ us hl => match us, hl with | [_, _], _ => rfl) (fun vs H Q E h => ?_) (fun cdv A outer s H vs Q E hr h => ?_)
  · obtain ⟨R, ⟨S, p, d, ps, rfl, _⟩, _⟩ := h
    rfl
  · obtain ⟨R, ⟨S, p, d, ps, rfl, hS, hd, hp, hz, hin, rfl⟩, q⟩ := h
    have hd8 := hd.len
    have hnd := hd.nd
    refine ⟨_, (pss_cons (ps_setLc (i := 2) (own := [("kind", 3)]) (g := (gName 3)) (by rfl) (sc_all_partners).nd rfl rfl (sw_true rfl rfl rfl (by decide +kernel)) (k_piList (K := K) rfl (pv 1)) (blkOk_by (own := [("kind", 3)]) (N := ["suits", "persons", "found", "kind", "mates", "waiting", "gone", "number", "firsts", "mate", "first"]) (sc := defScope s_all_partners) (by decide +kernel)) (fun _ _ _ _ _ => (pg_name (i := 3) (sc_all_partners).nd rfl (by first | exact .inl rfl | exact .inr rfl))) (fun _ _ _ _ _ => pts_nil) (fun _ _ _ _ _ => pe_non))
  (pss_cons (ps_setDc (i := 4) (own := [("kind", 3)]) (g := (gName 3)) (by rfl) (sc_all_partners).nd rfl rfl (sw_trueD rfl rfl rfl (by decide +kernel)) (k_piList (K := K) rfl (C8.pe_mt0 c_S_kinds hr (by decide) (pv 0))) (blkOk_by (own := [("kind", 3)]) (N := ["suits", "persons", "found", "kind", "mates", "waiting", "gone", "number", "firsts", "mate", "first"]) (sc := defScope s_all_partners) (by decide +kernel)) (fun _ _ _ _ _ => (pg_name (i := 3) (sc_all_partners).nd rfl (by first | exact .inl rfl | exact .inr rfl))) (fun _ _ _ _ _ => pts_nil) (fun _ _ _ _ _ => (pv 3)) (fun _ _ _ _ _ => (C8.pe_mt c_S_mates hr (by decide) (pv 0) (pa_cons (pe_lst (pa_cons (pv 3) pa_nil)) pa_nil))))
  (pss_cons (ps_asg (pe_tup (pa_cons (pe_lock (pe_dc (own := [("kind", 3)]) (g := (gName 3)) (by rfl) (sc_all_partners).nd (pi_keys (pv 4)) (blkOk_by (own := [("kind", 3)]) (N := ["suits", "persons", "found", "kind", "mates", "waiting", "gone", "number", "firsts", "mate", "first"]) (sc := defScope s_all_partners) (by decide +kernel)) (fun _ _ _ _ _ => (pg_name (i := 3) (sc_all_partners).nd rfl (by first | exact .inl rfl | exact .inr rfl))) (fun _ _ _ _ _ => pts_nil) (fun _ _ _ _ _ => (pv 3)) (fun _ _ _ _ _ => (pe_lst pa_nil)))) (pa_cons (pe_lock (pe_dc (own := [("kind", 3)]) (g := (gName 3)) (by rfl) (sc_all_partners).nd (pi_keys (pv 4)) (blkOk_by (own := [("kind", 3)]) (N := ["suits", "persons", "found", "kind", "mates", "waiting", "gone", "number", "firsts", "mate", "first"]) (sc := defScope s_all_partners) (by decide +kernel)) (fun _ _ _ _ _ => (pg_name (i := 3) (sc_all_partners).nd rfl (by first | exact .inl rfl | exact .inr rfl))) (fun _ _ _ _ _ => pts_nil) (fun _ _ _ _ _ => (pv 3)) (fun _ _ _ _ _ => pe_int))) pa_nil))) (k_pgTup (K := K) rfl rfl (pgs_cons (pg_name (i := 5) (sc_all_partners).nd rfl (.inr rfl)) (pgs_cons (pg_name (i := 6) (sc_all_partners).nd rfl (.inr rfl)) pgs_nil))))
  (pss_cons (ps_for PassesOwn.never rfl (k_piEnum (K := K) rfl (by rfl) T.f_enumerate (pa_cons (pv 1) pa_nil)) (k_pgTup (K := K) rfl rfl (pgs_cons (pg_name (i := 7) (sc_all_partners).nd rfl (.inl rfl)) (pgs_cons (pg_name (i := 3) (sc_all_partners).nd rfl (.inl rfl)) pgs_nil)))
  (pss_cons (ps_setLc (i := 8) (own := [("mate", 9)]) (g := (gName 9)) (by rfl) (sc_all_partners).nd rfl rfl (sw_true rfl rfl rfl (by decide +kernel)) (k_piList (K := K) rfl (pe_dget (hu_of hr) (pv 4) (pv 3) (fun _ _ => rfl))) (blkOk_by (own := [("mate", 9)]) (N := ["suits", "persons", "found", "kind", "mates", "waiting", "gone", "number", "firsts", "mate", "first"]) (sc := defScope s_all_partners) (by decide +kernel)) (fun _ _ _ _ _ => (pg_name (i := 9) (sc_all_partners).nd rfl (by first | exact .inl rfl | exact .inr rfl))) (fun _ _ _ _ _ => (pts_one (pt_cmpR op_lt (pe_dget (hu_of hr) (pv 6) (pv 9) (fun _ _ => rfl)) (pe_callB (k_len (K := K) rfl) (by rfl) T.f_len PySem.boot_len (pa_cons (pe_dget (hu_of hr) (pv 5) (pv 9) (fun _ _ => rfl)) pa_nil)) (nomark _)))) (fun _ _ _ _ _ => (pe_ix (k_ixL (K := K) rfl) (pe_dget (hu_of hr) (pv 5) (pv 9) (fun _ _ => rfl)) (pe_dget (hu_of hr) (pv 6) (pv 9) (fun _ _ => rfl)) (fun _ _ => rfl))))
  (pss_one (ps_if (pt_cmpR (k_eqD (K := K) rfl hr) (pv 8) (pe_lst pa_nil) (nomark _))
  (pss_one (ps_expr (k_bm (K := K) rfl PySem.F.plainAttrs_list PySem.F.slot_list_append PySem.F.type_list_append mt_append (pe_dget (hu_of hr) (pv 5) (pv 3) (fun _ _ => rfl)) (pa_cons (pv 7) pa_nil))))
  (pss_cons (ps_set (i := 10) (sc_all_partners).nd rfl (.inl rfl) (pe_callB (k_min (K := K) rfl rfl) (by rfl) T.f_min boot_min (pa_cons (pv 8) pa_nil)))
  (pss_cons (ps_asg (pe_tup (pa_cons (pv 10) (pa_cons (pv 7) pa_nil))) (k_pgTup (K := K) rfl rfl (pgs_cons (pg_sub (pv 2) (pv 7) set_list) (pgs_cons (pg_sub (pv 2) (pv 10) set_list) pgs_nil))))
  (pss_one (ps_daug (hu_of hr) (pv 6) (pe_ix (k_ixL (K := K) rfl) (pv 1) (pv 10) (fun _ _ => rfl)) pe_int in_add (fun _ _ _ => rfl)))))))))
  (pss_one (ps_ret (pv 2))))))), ?_⟩
    refine q_asgL (el_compN (α := Str) V.str (ei_list (ev_var rfl) (SqL.of hp)) rfl (by omega) (fun _ => true) (fun _ => .non) (fun _ => rfl) (fun _ _ _ _ => et_yes) fun y hy _ H2 e => ev_c) fun fl H1 hfl e1 h1 => ?_
    rw [filt_tt] at h1
    refine q_asgR (er_dcompL (fun k => svs (d.matesAll [k])) (ei_keyOf (ei_listN (el_kinds (ev_var rfl) (hS.ex e1)))) hnd (by omega) (fun _ => rfl) (fun k hk H2 e2 => ev_var rfl) fun k hk H2 e2 => el_matesN (ev_var rfl) (hS.ex (e1.trans e2)) (by omega) (el_lst (ea_cons (ev_var rfl) ea_nil) (by simp))) fun v H2 e2 r => ?_
    obtain ⟨md, ma, rfl, hmd, hmd', hma, _⟩ := r
    have e12 := e1.trans e2
    refine q_asg2 (T := fun t x y Ha Hb => ∃ (wd : Addr) (wa : Str → Addr) (gd : Addr), x = .ref wd ∧ y = .ref gd ∧ Ex Ha Hb ∧ Hb wd = some (.dK (d.sk.map fun k => (Sum.inr k, V.ref (wa k)))) ∧ Hb gd = some (.dK (d.sk.map fun k => (Sum.inr k, V.int 0))) ∧ Ha gd = none ∧ Ha wd = none ∧ wd ≠ gd ∧ (∀ k ∈ d.sk, Ha (wa k) = none ∧ Hb (wa k) = some (.lst []) ∧ wa k ≠ gd) ∧ ∀ k ∈ d.sk, ∀ k' ∈ d.sk, wa k = wa k' → k = k')
      (er_tup2 (A := RDictL d.sk fun _ => []) (B := RDictV d.sk fun _ => .int 0) (er_lock (R := RDictL d.sk fun _ => []) hmd' True.intro (fun od H3 e3 => er_dcompL (fun _ => []) (ei_keys (ev_var rfl) upd_same) hnd (by omega) (fun _ => rfl) (fun k hk H4 e4 => ev_var rfl) fun k hk H4 e4 => el_lst ea_nil (by simp)) ?_)
        (er_lock (R := RDictV d.sk fun _ => .int 0) hmd' True.intro (fun od H3 e3 => er_dcompV (fun _ => .int 0) (ei_keys (ev_var rfl) upd_same) hnd (by omega) (fun _ => rfl) (fun k hk H4 e4 => ev_var rfl) fun k hk H4 e4 => ev_c) ?_)) ?_ ?_
    · rintro od v Ha Hb hmdA ⟨wd, wa, rfl, hwd, hwd', hwa, hinj⟩ hmdB
      have ne : wd ≠ md := fun e => by rw [e, upd_same] at hwd; cases hwd
      have ne2 : ∀ k ∈ d.sk, wa k ≠ md := fun k hk e => by
        have := (hwa k hk).1
        rw [e, upd_same] at this
        cases this
      refine ⟨wd, wa, rfl, by rw [upd_ne ne] at hwd; exact hwd, by rw [upd_ne ne]; exact hwd', fun k hk => ⟨?_, ?_⟩, hinj⟩
      · have := (hwa k hk).1
        rw [upd_ne (ne2 k hk)] at this
        exact this
      · rw [upd_ne (ne2 k hk)]
        exact (hwa k hk).2
    · rintro od v Ha Hb hmdA ⟨gd, rfl, hgd, hgd'⟩ hmdB
      have ne : gd ≠ md := fun e => by rw [e, upd_same] at hgd; cases hgd
      exact ⟨gd, rfl, by rw [upd_ne ne] at hgd; exact hgd, by rw [upd_ne ne]; exact hgd'⟩
    · rintro v H3 e3 ⟨t, x, y, Ha, Hb, rfl, ea, eb, ec, ⟨wd, wa, rfl, hwd, hwd', hwa, hinj⟩, ⟨gd, rfl, hgd, hgd'⟩, ht, ht'⟩
      have eac := ea.trans (eb.trans ec)
      exact ⟨t, _, _, rfl, st_of ht', wd, wa, gd, rfl, rfl, eac, ec _ _ (eb _ _ hwd'), ec _ _ hgd', fresh_back ea hgd, hwd, ne_of_none hwd' hgd, fun k hk => ⟨(hwa k hk).1, ec _ _ (eb _ _ (hwa k hk).2), ne_of_none (hwa k hk).2 hgd⟩, hinj⟩
    rintro t x y H3 e3 ⟨wd, wa, gd, rfl, rfl, e3', hwd, hgd, hgdn, hwdn, hwg, hwa, hinj⟩
    have e13 := e12.trans e3
    have hfl3 : H3 fl = some (.lst (ps.map fun _ => .non)) := e3 _ _ (e2 _ _ h1)
    have hwfl : ∀ k ∈ d.sk, wa k ≠ fl := fun k hk => (ne_of_none (e2 _ _ h1) (hwa k hk).1).symm
    have hgfl : gd ≠ fl := (ne_of_none (e2 _ _ h1) hgdn).symm
    let Pm : Addr → Prop := fun b => b = fl ∨ b = gd ∨ ∃ k ∈ d.sk, b = wa k
    have hPm : ∀ b, Pm b → H b = none := by
      rintro b (rfl | rfl | ⟨k, hk, rfl⟩)
      · exact hfl
      · exact fresh_back e12 hgdn
      · exact fresh_back e12 (hwa k hk).1
    have eC : Ex H (hideP Pm H3) := ex_hideP e13 hPm
    have hne : ∀ b o, H2 b = some o → b ≠ fl → ¬ Pm b := by
      rintro b o hb h1 (e | rfl | ⟨k, hk, rfl⟩)
      · exact h1 e
      · rw [hgdn] at hb
        cases hb
      · rw [(hwa k hk).1] at hb
        cases hb
    have hc : ∀ b o, H2 b = some o → b ≠ fl → hideP Pm H3 b = some o := fun b o hb h1 => by
      rw [hideP_ne (hne b o hb h1)]
      exact e3 _ _ hb
    have cmd : hideP Pm H3 md = some (.dK (d.sk.map fun k => (Sum.inr k, V.ref (ma k)))) := hc _ _ hmd' (ne_of_none h1 hmd).symm
    have cma : ∀ k ∈ d.sk, hideP Pm H3 (ma k) = some (.lst (svs (d.matesAll [k]))) := fun k hk => hc _ _ (hma k hk).2 (ne_of_none h1 (hma k hk).1).symm
    have cwd : hideP Pm H3 wd = some (.dK (d.sk.map fun k => (Sum.inr k, V.ref (wa k)))) := by
      rw [hideP_ne]
      · exact hwd
      · rintro (e | e | ⟨k, hk, e⟩)
        · rw [e, e2 _ _ h1] at hwdn
          cases hwdn
        · exact hwg e
        · rw [e, (hwa k hk).2.1] at hwd
          cases hwd
    have cp := eC _ _ hp
    refine q_forEnum (Hc := hideP Pm H3) (ea_cons (ev_var rfl) ea_nil) (SqL.of cp) (fun i σ' H' => ∃ y3 y7 y8 y9 y10 fv W G kvs, σ' = [some (.ref S), some (.ref p), some (.ref fl), y3, some (.ref md), some (.ref wd), some (.ref gd), y7, y8, y9, y10] ∧ Ex (hideP Pm H3) H' ∧ QInv d ps fl gd wa i H' fv W G kvs)
      (fun H4 e4 => ⟨_, _, _, _, _, ps.map fun _ => .non, fun _ => [], fun _ => 0, d.sk.map fun k => (Sum.inr k, V.int 0), rfl, (hideP_ex Pm H3).trans e4, ⟨e4 _ _ hfl3, by simp, fun j hj => ?_, fun k hk => e4 _ _ (hwa k hk).2.1, e4 _ _ hgd, fun k hk => valV_map (fun a => a) (fun _ => V.int 0) (fun _ _ _ _ e => e) hk, by simp; omega, fun k hk => rfl, fun k hk => Nat.le_refl _, fun k hk => Nat.le_refl _⟩⟩) (fun i σ' H' h => ?_) ?_ ?_
    · rw [List.getElem?_map, List.getElem?_eq_getElem hj]
      simp
    · obtain ⟨_, _, _, _, _, _, _, _, _, _, h, _⟩ := h
      exact h
    · rintro i x σ' H4 t' hx ⟨y3, y7, y8, y9, y10, fv, W, G, kvs, rfl, ex4, qi⟩ ht'
      have hi' : i < ps.length := by
        have := (List.getElem?_eq_some_iff.mp hx).1
        rw [svs_len] at this
        exact this
      have hx' : x = .str (kdOf ps i) := by
        rw [List.getElem?_map, List.getElem?_eq_getElem hi'] at hx
        rw [kdOf_at (List.getElem?_eq_getElem hi')]
        exact (Option.some.inj hx).symm
      subst hx'
      have hkk : kdOf ps i ∈ d.sk := by
        rw [kdOf_at (List.getElem?_eq_getElem hi')]
        exact hin _ (List.getElem_mem hi')
      have e5 : Ex H4 (upd H4 t' (.tup [.int (i : Nat), .str (kdOf ps i)])) := Ex.new ht'
      have qi5 := qi.ex e5
      have ex5 := ex4.trans e5
      -- the waiting firsts
      refine q_asgL (el_compN (α := Str) V.str (ys := d.matesAll [kdOf ps i]) (ei_list (ev_dget (ev_var rfl) (ev_var rfl) (ex5 _ _ cmd) (valV_map (fun a => a) (fun a => V.ref (ma a)) (fun _ _ _ _ e => e) hkk)) (SqL.of (ex5 _ _ (cma _ hkk)))) rfl ?_ (fun m => decide (G m < (W m).length)) (fun m => .int (((W m)[G m]?.getD 0 : Nat) : Int)) (fun _ => rfl) ?_ ?_) fun l H6 hl6 e6 h6 => ?_
      · have := List.length_filter_le (fun k => (d.mates k).any fun o => decide (o ∈ [kdOf ps i])) d.sk
        unfold Kd.matesAll
        omega
      · intro m hm H7 e7
        have hmk := matesAll_mem hm
        have qi7 := qi5.ex e7
        have g1 : valV (d.sk.map fun k => (Sum.inr k, V.ref (wa k))) (Sum.inr m) = some (.ref (wa m)) := valV_map (fun a => a) (fun a => V.ref (wa a)) (fun _ _ _ _ e => e) hmk
        exact et_is (et_B (ev_op (ev_dget (ev_var rfl) (ev_var rfl) qi7.gd (qi7.gv m hmk)) (ev_len (ev_dget (ev_var rfl) (ev_var rfl) (e7 _ _ (ex5 _ _ cwd)) g1) (SqL.of (qi7.wa m hmk))) rv_I0)) (by simp)
      · intro m hm hlt H7 e7
        have hlt := of_decide_eq_true hlt
        have hmk := matesAll_mem hm
        have qi7 := qi5.ex e7
        have g1 : valV (d.sk.map fun k => (Sum.inr k, V.ref (wa k))) (Sum.inr m) = some (.ref (wa m)) := valV_map (fun a => a) (fun a => V.ref (wa a)) (fun _ _ _ _ e => e) hmk
        exact ev_ixL (ev_dget (ev_var rfl) (ev_var rfl) (e7 _ _ (ex5 _ _ cwd)) g1) (ev_dget (ev_var rfl) (ev_var rfl) qi7.gd (qi7.gv m hmk)) (SqL.of (qi7.wa m hmk)) (nv_get (by rw [List.getElem?_eq_getElem hlt]; rfl))
      have hfirst : ((d.matesAll [kdOf ps i]).filter fun m => decide (G m < (W m).length)).map (fun m => V.int (((W m)[G m]?.getD 0 : Nat) : Int)) = nvs (firstsOf (kdOf ps) (curN (fitsM d ps) i) (d.matesAll [kdOf ps i])) := by
        unfold firstsOf nvs
        rw [← fm_filter (fun m => ((curN (fitsM d ps) i).filter fun j => decide (kdOf ps j = m)).head?) (fun m => decide (G m < (W m).length)) (fun m => (W m)[G m]?.getD 0), List.map_map]
        · rfl
        · intro m hm
          rw [← qi.que m (matesAll_mem hm), List.head?_drop]
          by_cases h : G m < (W m).length
          · rw [List.getElem?_eq_getElem h, decide_eq_true h]
            rfl
          · rw [List.getElem?_eq_none_iff.mpr (by omega), decide_eq_false h]
            rfl
        · intro m hm b hb
          rw [← qi.que m (matesAll_mem hm), List.head?_drop] at hb
          rw [hb]
          rfl
      rw [hfirst] at h6
      have ex6 := ex5.trans e6
      have qi6 := qi5.ex e6
      have gw : valV (d.sk.map fun k => (Sum.inr k, V.ref (wa k))) (Sum.inr (kdOf ps i)) = some (.ref (wa (kdOf ps i))) := valV_map (fun a => a) (fun a => V.ref (wa a)) (fun _ _ _ _ e => e) hkk
      generalize hfs : firstsOf (kdOf ps) (curN (fitsM d ps) i) (d.matesAll [kdOf ps i]) = fs at h6
      refine s_if (b := decide (fs = [])) ?_ (fun hb H7 e7 => ?_) fun hb H7 e7 => ?_
      · refine et_B (ev_opL1' (ev_var rfl) (el_lst ea_nil (by simp)) fun b H8 hb8 e8 => ?_)
        intro H9 e9 Q' q'
        refine ⟨.list ((fs.map fun n : Nat => (n : Int)).map PySem.W.Datum.toD), .list [], ?_, ?_, ?_, ?_, ?_⟩
        · exact Dp.lst (SqL.of (e9 _ _ (e8 _ _ h6))) (dp_nvs fs)
        · exact Dp.lst (SqL.of (e9 _ _ hb8)) .nil
        · exact shaped_ints fs
        · rfl
        · have e0 : PyData.eqv (.list ((fs.map fun n : Nat => (n : Int)).map PySem.W.Datum.toD)) (.list []) = decide (fs = []) := by
            have := PySem.W.Datum.eqv (fs.map fun n : Nat => (n : Int)) []
            refine Eq.trans this ?_
            cases fs <;> simp
          rw [e0]
          exact q' H9 (Ex.refl H9)
      · have hb := of_decide_eq_true hb
        subst hb
        have hno : (curN (fitsM d ps) i).find? (fun j => fitsM d ps j i) = none := by
          cases hh : (curN (fitsM d ps) i).find? (fun j => fitsM d ps j i) with
          | none => rfl
          | some j0 =>
            have := firsts_mem (curN_asc _ _) (show (curN (fitsM d ps) i).find? (fun j => decide (kdOf ps j ∈ d.matesAll [kdOf ps i])) = some j0 from hh)
            rw [hfs] at this
            cases this
        have qi7 := qi6.ex e7
        refine s_app (qi7.wa _ hkk) (ev_dget (ev_var rfl) (ev_var rfl) ((ex6.trans e7) _ _ cwd) gw) (ev_var rfl) (by have := qi7.wl _ hkk; rw [List.length_map]; omega) fun H8 e8 => ?_
        have qj := (qi7.ex e8).join hi' hkk hno (fun k hk => ⟨hwfl k hk, (hwa k hk).2.2⟩) hinj
        exact ⟨_, _, _, _, _, _, _, _, _, rfl, Ex.mut ((ex6.trans e7).trans e8) (hideP_yes (.inr (.inr ⟨_, hkk, rfl⟩))), qj⟩
      · have hb := of_decide_eq_false hb
        obtain ⟨j0, hh⟩ : ∃ j0, (curN (fitsM d ps) i).find? (fun j => fitsM d ps j i) = some j0 := by
          cases hh : (curN (fitsM d ps) i).find? (fun j => fitsM d ps j i) with
          | none => exact absurd (hfs.symm.trans (firsts_nil (show (curN (fitsM d ps) i).find? (fun j => decide (kdOf ps j ∈ d.matesAll [kdOf ps i])) = none from hh))) hb
          | some j0 => exact ⟨j0, rfl⟩
        have hh' : (curN (fitsM d ps) i).find? (fun j => decide (kdOf ps j ∈ d.matesAll [kdOf ps i])) = some j0 := hh
        have hmem := firsts_mem (curN_asc _ _) hh'
        have hmin := firsts_le (curN_asc _ _) hh'
        rw [hfs] at hmem hmin
        have hj0 : j0 < i := curN_lt _ _ _ (List.mem_of_find?_eq_some hh)
        have hk0 : kdOf ps j0 ∈ d.sk := by
          rw [kdOf_at (List.getElem?_eq_getElem (show j0 < ps.length by omega))]
          exact hin _ (List.getElem_mem _)
        have qi7 := qi6.ex e7
        refine q_asg (v := .int (j0 : Nat)) (ev_cb (ea_cons (ev_var rfl) ea_nil) fun H8 e8 Q' q' => ⟨l, fs.map fun n : Nat => (n : Int), rfl, SqL.of (by rw [List.map_map]; exact (e7.trans e8) _ _ h6), by rw [List.length_map]; exact List.length_pos_of_mem hmem, fun m hm hle => ?_⟩) fun H8 e8 => ?_
        · have em : m = (j0 : Int) := by
            obtain ⟨a, ha, rfl⟩ := List.mem_map.mp hm
            have h1 := hmin a ha
            have h2 := hle _ (List.mem_map.mpr ⟨j0, hmem, rfl⟩)
            omega
          rw [em]
          exact q' _ (Ex.refl _)
        · have qi8 := qi7.ex e8
          have ex8 := (ex6.trans e7).trans e8
          refine fun_asg2 (eu_tup (ea_cons (ev_var rfl) (ea_cons (ev_var rfl) ea_nil)) (by simp)) fun tt H9 htt e9 h9 => ?_
          have qi9 := qi8.ex e9
          refine ⟨tt, _, rfl, st_of h9, rfl, _, _, rfl, ⟨_, rfl, _, rfl, fl, fv, (i : Int), i, rfl, rfl, qi9.fl, ixN_nat (by rw [qi9.len]; exact hi'), ⟨_, _, rfl, ⟨_, rfl, _, rfl, fl, _, (j0 : Int), j0, rfl, rfl, upd_same, ixN_nat (by rw [List.length_set, qi9.len]; omega), rfl, ?_⟩⟩⟩⟩
          have c1 : Ex (hideP Pm H3) (upd (upd H9 fl (.lst (fv.set i (.int (j0 : Nat))))) fl (.lst ((fv.set i (.int (j0 : Nat))).set j0 (.int (i : Nat))))) := Ex.mut (Ex.mut (ex8.trans e9) (hideP_yes (.inl rfl))) (hideP_yes (.inl rfl))
          have pj : ps[j0]? = some (kdOf ps j0) := by
            rw [kdOf_at (List.getElem?_eq_getElem (show j0 < ps.length by omega)), List.getElem?_eq_getElem (show j0 < ps.length by omega)]
          have hgd9 : upd (upd H9 fl (.lst (fv.set i (.int (j0 : Nat))))) fl (.lst ((fv.set i (.int (j0 : Nat))).set j0 (.int (i : Nat)))) gd = some (.dK kvs) := by
            rw [upd_ne hgfl, upd_ne hgfl]
            exact qi9.gd
          refine ⟨_, rfl, ?_⟩
          refine ev_ixL (K := K) (ev_var (i := 1) rfl) (ev_var (i := 10) rfl) (SqL.of (c1 _ _ cp)) (svs_get pj) _ (Ex.refl _) _ fun H10 e10 => ?_
          have hg10 := e10 _ _ hgd9
          refine ⟨gd, .int (G (kdOf ps j0) : Nat), rfl, ?_, _, _, rfl, rfl, ?_⟩
          · have g := DGet.k (k := Sum.inr (kdOf ps j0)) hg10
            rw [qi9.gv _ hk0] at g
            exact g
          · refine ⟨_, DPut.k (k := Sum.inr (kdOf ps j0)) hg10 (sz_lt (by have := qi9.kl; omega)), ?_⟩
            have ql := qi9.leave hi' hk0 hh (fun k hk => ⟨hwfl k hk, (hwa k hk).2.2⟩) hgfl rfl rfl
            exact ⟨_, _, _, _, _, _, _, _, _, rfl, Ex.mut (c1.trans e10) (hideP_yes (.inr (.inl rfl))), ql.ex (ex_upd e10)⟩
    · rintro σ' H4 ⟨y3, y7, y8, y9, y10, fv, W, G, kvs, rfl, ex4, qi⟩
      rw [svs_len] at qi
      refine s_ret (ev_var rfl) fun H5 e5 => q _ H5 ((eC.trans ex4).trans e5) ⟨fl, fv, rfl, hfl, e5 _ _ qi.fl, qi.len, fun j hj => ?_⟩
      rw [qi.non j hj]
      constructor
      · rintro (h | h)
        · exact h
        · omega
      · exact .inl
end
end K64
set_option Elab.async false
set_option linter.all false
set_option maxRecDepth 100000
set_option maxHeartbeats 4000000
/-! after, gap_of. -/
namespace K64
open PySem PySem.Spec PyProof.Rows L2 Evl
section
variable {P : Program} {w : World} {K : PySem.W.Frag} {mg : Str → Option Value} {base : Heap}
theorem lc_enumR {σ : L2.St} {H : Hp} {te tb : TE} {tt : TT} {g : TG} {vs : List Nat} {R R' : Rel} (h : EvR te σ H R) (hb : Bk R') (k : ∀ v H1 H2, Ex H H1 → Ex H1 H2 → R v H1 H2 → EvR (tLc (iEnum K (tCons (tC v) tNil)) g tt tb vs) σ H2 R') : EvR (tLc (iEnum K (tCons te tNil)) g tt tb vs) σ H R' := fun H1 e Q q =>
  h H1 e _ fun v H2 e2 r => k v H1 H2 e e2 r H2 (Ex.refl H2) Q fun v' H3 e3 r' => q v' H3 (e2.trans e3) (hb _ _ _ _ e2 r')
def fitsF (d : Kd) (ps : List Str) (j i : Nat) : Bool := d.fit (kdOf ps j) (kdOf ps i)
theorem matesAll_one {d : Kd} {k k' : Str} (h : k ∈ d.sk) (h' : k' ∈ d.sk) : decide (k ∈ d.matesAll [k']) = d.fit k k' := by
  rw [Bool.eq_iff_iff, decide_eq_true_eq]
  unfold Kd.matesAll Kd.mates
  rw [List.mem_filter, List.any_eq_true]
  constructor
  · rintro ⟨_, o, ho, e⟩
    have e' : o = k' := by simpa using e
    subst e'
    exact (List.mem_filter.mp ho).2
  · intro hf
    exact ⟨h, k', List.mem_filter.mpr ⟨h', hf⟩, by simp⟩
theorem find_congr {α : Type} {p q : α → Bool} : ∀ {l : List α}, (∀ a ∈ l, p a = q a) → l.find? p = l.find? q
  | [], _ => rfl
  | a :: r, h => by
    rw [List.find?_cons, List.find?_cons, h a List.mem_cons_self, find_congr fun b hb => h b (List.mem_cons_of_mem _ hb)]
theorem cur_congr {f g : Nat → Nat → Bool} : ∀ n, (∀ i j, j < i → i < n → f j i = g j i) → curN f n = curN g n
  | 0, _ => rfl
  | n + 1, h => by
    have ih := cur_congr n fun i j h1 h2 => h i j h1 (by omega)
    show comeN _ _ _ = comeN _ _ _
    unfold comeN
    rw [ih, find_congr fun a ha => h n a (curN_lt _ _ _ ha) (by omega)]
theorem kdOf_mem {ps : List Str} {sk : List Str} (h : ∀ x ∈ ps, x ∈ sk) {i : Nat} (hi : i < ps.length) : kdOf ps i ∈ sk := by
  rw [kdOf_at (List.getElem?_eq_getElem hi)]
  exact h _ (List.getElem_mem hi)
theorem cur_F {d : Kd} {ps : List Str} (h : ∀ x ∈ ps, x ∈ d.sk) {n : Nat} (hn : n ≤ ps.length) : curN (fitsM d ps) n = curN (fitsF d ps) n :=
  cur_congr n fun i j h1 h2 => matesAll_one (kdOf_mem h (by omega)) (kdOf_mem h (by omega))
theorem range_map_get {α : Type} {f : Nat → α} {n i : Nat} {y : α} (h : ((List.range n).map f)[i]? = some y) : i < n ∧ y = f i := by
  rw [List.getElem?_map] at h
  by_cases hi : i < n
  · rw [List.getElem?_range hi] at h
    exact ⟨hi, (Option.some.inj h).symm⟩
  · rw [List.getElem?_eq_none_iff.mpr (by simpa using hi)] at h
    cases h
/-- xs == ys, lists of texts -/
def okS (z : Str) : Prop := ∀ c ∈ z.cps.toList, c < 0x110000
theorem GoodK.ok {z : Str} (h : GoodK z) : okS z := fun c hc => by
  have := (h.2.2 c hc).2
  omega
theorem canLay_strs : ∀ xs : List Str, (∀ x ∈ xs, okS x) → PyData.canLayAll0 (xs.map PySem.W.Datum.toD) = true
  | [], _ => rfl
  | x :: r, h => by
    rw [List.map_cons, PyData.canLayAll0, canLay_strs r fun y hy => h y (List.mem_cons_of_mem _ hy), Bool.and_true]
    show PyData.strOk x = true
    unfold PyData.strOk
    rw [← Array.all_toList, List.all_eq_true]
    intro c hc
    exact decide_eq_true (h x List.mem_cons_self c hc)
theorem shaped_strs {xs : List Str} (h : ∀ x ∈ xs, okS x) : SeqAt.shaped (PySem.W.Datum.toD xs) = true := by
  unfold SeqAt.shaped
  rw [Bool.and_eq_true]
  refine ⟨?_, decide_eq_true (Nat.le_trans (PySem.W.Datum.depth_le xs) (by decide))⟩
  show PyData.canLay0 (.list _) = true
  rw [PyData.canLay0]
  exact canLay_strs xs h
theorem rv_eqS {H : Hp} {p r : Addr} {xs ys : List Str} (hp : H p = some (.lst (svs xs))) (hr : H r = some (.lst (svs ys))) (h1 : ∀ x ∈ xs, okS x) (h2 : ∀ x ∈ ys, okS x) : Evl.RV (rEqD K) (.ref p) (.ref r) H (.bl (decide (xs = ys))) := fun H1 e Q q =>
  ⟨_, _, dp_list (SqL.of (e _ _ hp)), dp_list (SqL.of (e _ _ hr)), shaped_strs h1, shaped_strs h2, by rw [PySem.W.Datum.eqv]; exact q H1 (Ex.refl H1)⟩
theorem et_eqLv {σ : L2.St} {H : Hp} {ta tb : TE} {r : Addr} {xs ys : List Str} (ha : EvL ta σ H (svs xs)) (hb : Ev tb σ H (.ref r)) (hr : H r = some (.lst (svs ys))) (h : (∀ x ∈ xs, okS x) ∧ ∀ x ∈ ys, okS x) : EvT (tTest (tOp (rEqD K) ta tb)) σ H (decide (xs = ys)) :=
  et_test (ev_opL1 ha (fun H1 e => hb.mono e) fun p H1 hp e => rv_eqS hp (e _ _ hr) h.1 h.2)
/-- the line behind a row -/
def lineOf (d : Kd) (ps : List Str) : List Str := (curN (fitsF d ps) ps.length).map (kdOf ps)
theorem asc_range {l : List Nat} {n : Nat} (ha : l.Pairwise (· < ·)) (hb : ∀ x ∈ l, x < n) : (List.range n).filter (fun j => decide (j ∈ l)) = l := by
  refine List.Perm.eq_of_pairwise (le := (· < ·)) (fun a b _ _ h1 h2 => by omega) ?_ ha ?_
  · exact List.Pairwise.filter _ List.pairwise_lt_range
  · rw [List.perm_ext_iff_of_nodup (List.Pairwise.filter _ List.nodup_range) (asc_nodup ha)]
    intro a
    rw [List.mem_filter, List.mem_range, decide_eq_true_eq]
    exact ⟨fun h => h.2, fun h => ⟨hb a h, h⟩⟩
theorem lineOf_len (d : Kd) (ps : List Str) : (lineOf d ps).length ≤ ps.length := by
  unfold lineOf
  rw [List.length_map]
  exact curN_len _ _
theorem lineOf_mem {d : Kd} {ps : List Str} {x : Str} (h : x ∈ lineOf d ps) : x ∈ ps := by
  obtain ⟨j, hj, rfl⟩ := List.mem_map.mp h
  exact kdOf_mem (fun _ h => h) (curN_lt _ _ _ hj)
def spAfter (K : PySem.W.Frag) : Sp := pur fun vs H R => ∃ S l r d line row, vs = [.ref S, .ref l, .ref r] ∧ Su K H S d ∧ KdOk d ∧ H l = some (.lst (svs line)) ∧ H r = some (.lst (svs row)) ∧ (line ++ row).length ≤ 1000 ∧ (∀ x ∈ line ++ row, x ∈ d.sk) ∧ R = RL (svs (lineOf d (line ++ row)))
theorem sc_after : FnScope ["suits", "line", "row", "persons", "number", "partner"] ["suits", "line", "row"] (defScope s_after) := C8.fnScope_by (by decide +kernel)
theorem ok_after (T : Tp K mg) (F : FD K d_after) (c_all_partners : C8.Cal P w K mg base 2 "all_partners" (spAllP K) []) : C8.Cal P w K mg base 3 "after" (spAfter K) [] := by
  refine cal_k F T.g_after sc_after (fun _ _ _ _ _ _ us hl => match us, hl with | [_, _, _], _ => rfl) (fun vs H Q E h => ?_) (fun cdv A outer s H vs Q E hr h => ?_)
  · obtain ⟨R, ⟨S, l, r, d, line, row, rfl, _⟩, _⟩ := h
    rfl
  · obtain ⟨R, ⟨S, l, r, d, line, row, rfl, hS, hd, hl, hr', hz, hin, rfl⟩, q⟩ := h
    refine ⟨_, (pss_cons (ps_set (i := 3) (sc_after).nd rfl (.inr rfl) (pe_op op_cat (pv 1) (pv 2)))
  (pss_one (ps_ret (pe_lc (own := [("number", 4), ("partner", 5)]) (g := (gTup K 2 (gCons (gName 4) (gCons (gName 5) gNil)))) (by rfl) (sc_after).nd (k_piEnum (K := K) rfl (by rfl) T.f_enumerate (pa_cons (C8.pe_c c_all_partners hr (by decide) (by rfl) (pa_cons (pv 0) (pa_cons (pv 3) pa_nil))) pa_nil)) (blkOk_by (own := [("number", 4), ("partner", 5)]) (N := ["suits", "line", "row", "persons", "number", "partner"]) (sc := defScope s_after) (by decide +kernel)) (fun _ _ _ _ _ => (k_pgTup (K := K) rfl rfl (pgs_cons (pg_name (i := 4) (sc_after).nd rfl (by first | exact .inl rfl | exact .inr rfl)) (pgs_cons (pg_name (i := 5) (sc_after).nd rfl (by first | exact .inl rfl | exact .inr rfl)) pgs_nil)))) (fun _ _ _ _ _ => (pts_one (pt_cmpR op_isN (pv 5) pe_non (nomark _)))) (fun _ _ _ _ _ => (pe_ix (k_ixL (K := K) rfl) (pv 3) (pv 4) (fun _ _ => rfl))))))), ?_⟩
    refine q_asgL (el_is (el_catVV (ev_var rfl) hl (ev_var rfl) hr' (by rw [svs_len, svs_len, ← List.length_append]; omega)) (ys := svs (line ++ row)) (List.map_append ..).symm) fun p H1 hp e1 h1 => ?_
    generalize hps : line ++ row = ps at *
    refine s_retR (lc_enumR (er_callA (ea_cons (ev_var rfl) (ea_cons (ev_var rfl) ea_nil)) (fun H2 e2 => ⟨S, p, d, ps, rfl, hS.ex (e1.trans e2), hd, e2 _ _ h1, hz, hin, rfl⟩) bk_part) bk_l ?_) fun v H2 e2 r => q v H2 (e1.trans e2) (bk_l _ _ _ _ e1 r)
    rintro v H2 H3 e2 e3 ⟨f, fv, rfl, _, hf, hlen, hnon⟩
    have e13 := e2.trans e3
    refine er_l (el_is (el_compP (α := Nat × V) (fun y => .int (y.1 : Nat)) (fun y => y.2) (ys := (List.range fv.length).map fun i => (i, (fv[i]?).getD .non)) (ei_enumA (ea_cons ev_c ea_nil) (SqL.of hf)) (by simp) (fun i y h => ?_) (fun i y h => ?_) (by omega) (fun y => decide (y.2 = .non)) (fun y => .str (kdOf ps y.1)) (fun _ _ => rfl) (fun y hy H4 e4 => ?_) fun y hy hy' H4 e4 => ?_) ?_)
    · obtain ⟨hi, rfl⟩ := range_map_get h
      rfl
    · obtain ⟨hi, rfl⟩ := range_map_get h
      show fv[i]? = some ((fv[i]?).getD .non)
      rw [List.getElem?_eq_getElem hi]
      rfl
    · exact et_B (ev_op (ev_var rfl) ev_c fun H5 _ Q q => ⟨rfl, q H5 (Ex.refl H5)⟩)
    · obtain ⟨i, hi, rfl⟩ := List.mem_map.mp hy
      have hi := List.mem_range.mp hi
      refine ev_ixL (ev_var rfl) (ev_var rfl) (SqL.of ((e13.trans e4) _ _ h1)) (svs_get ?_)
      rw [List.getElem?_eq_getElem (by omega), kdOf_at (List.getElem?_eq_getElem (by omega))]
    · unfold lineOf
      rw [← cur_F hin (Nat.le_refl _), List.filter_map, List.map_map]
      show List.map _ _ = List.map _ _
      rw [List.map_map]
      have ef : (List.range fv.length).filter ((fun y : Nat × V => decide (y.2 = .non)) ∘ fun i => (i, (fv[i]?).getD .non)) = curN (fitsM d ps) ps.length := by
        rw [← asc_range (curN_asc (fitsM d ps) ps.length) (curN_lt _ _), hlen]
        refine List.filter_congr fun j hj => ?_
        have hj := List.mem_range.mp hj
        show decide ((fv[j]?).getD .non = .non) = _
        rw [Bool.eq_iff_iff, decide_eq_true_eq, decide_eq_true_eq, ← hnon j hj, List.getElem?_eq_getElem (by omega)]
        simp
      rw [ef]
      rfl
/-! ### gap_of -/
def NdIn (d : Kd) (n : Nd) : Prop := n.1.length ≤ 1000 ∧ n.2.1.length ≤ 1000 ∧ (∀ x ∈ n.1, x ∈ d.sk) ∧ ∀ x ∈ n.2.1, x ∈ d.sk
def gapR (d : Kd) (n : Nd) : Option Gp := gapP (lineOf d n.1) (lineOf d n.2.1)
/-- a gap whose objects are new -/
def GapFr (H1 H2 : Hp) (t : Addr) : Prop := ∃ a b, H2 t = some (.tup [.ref a, .ref b]) ∧ H1 t = none ∧ H1 a = none ∧ H1 b = none
def RGapN (g : Gp) : Rel := fun v H1 H2 => ∃ t, v = .ref t ∧ GapAt H2 t g ∧ GapFr H1 H2 t
def ROGap (g : Option Gp) : Rel := fun v H1 H2 => match g with
  | none => v = .non
  | some g => RGapN g v H1 H2
theorem bk_ogap {g : Option Gp} : Bk (ROGap g) := fun v H1 H2 H3 e h => by
  cases g with
  | none => exact h
  | some g =>
    obtain ⟨t, h1, h2, a, b, h3, h4, h5, h6⟩ := h
    exact ⟨t, h1, h2, a, b, h3, fresh_back e h4, fresh_back e h5, fresh_back e h6⟩
theorem er_gapN {σ : L2.St} {H : Hp} {ta tb : TE} {xs ys : List Str} (ha : EvL ta σ H (svs xs)) (hb : EvL tb σ H (svs ys)) : EvR (tTup (tCons ta (tCons tb tNil))) σ H (RGapN (xs, ys)) :=
  EvR.imp (er_tup2 (er_l ha) (er_l hb)) fun v H1 H2 _ _ r => by
    obtain ⟨t, x, y, H3, H4, rfl, e3, e4, e5, ⟨p, rfl, hp, hp'⟩, ⟨p2, rfl, hp2, hp2'⟩, ht, ht'⟩ := r
    exact ⟨t, rfl, ⟨p, p2, ht', e5 _ _ (e4 _ _ hp'), e5 _ _ hp2'⟩, p, p2, ht', fresh_back (e3.trans e4) ht, hp, fresh_back e3 hp2⟩
def spGap (K : PySem.W.Frag) : Sp := pur fun vs H R => ∃ S t d n, vs = [.ref S, .ref t] ∧ Su K H S d ∧ KdOk d ∧ NdAt H t n ∧ NdIn d n ∧ R = ROGap (gapR d n)
theorem sc_gap_of : FnScope ["suits", "node", "one", "other", "more"] ["suits", "node"] (defScope s_gap_of) := C8.fnScope_by (by decide +kernel)
theorem el_afterN {σ : L2.St} {H : Hp} {t1 t2 t3 : TE} {E : XK} {S p : Addr} {d : Kd} {row : List Str} (h1 : Ev t1 σ H (.ref S)) (h2 : EvL t2 σ H []) (h3 : Ev t3 σ H (.ref p)) (hS : Su K H S d) (hd : KdOk d) (hp : H p = some (.lst (svs row))) (hz : row.length ≤ 1000) (hr : ∀ x ∈ row, x ∈ d.sk) :
    EvR (tCall (spAfter K) [] E (tCons t1 (tCons t2 (tCons t3 tNil)))) σ H (RL (svs (lineOf d row))) := by
  refine er_call (ear_cons (er_v h1) (ear_cons (er_l h2) (ear_cons (er_v h3) ear_nil))) ?_
  rintro vs H1 H2 e1 e2 ⟨v, r, H3, rfl, e3, e4, rfl, v2, r2, H4, rfl, e5, e6, ⟨l, rfl, _, hl⟩, v3, r3, H5, rfl, e7, e8, rfl, rfl⟩
  exact ⟨_, ⟨S, l, p, d, [], row, rfl, hS.ex (e1.trans e2), hd, (e7.trans e8) _ _ hl, (e1.trans e2) _ _ hp, hz, hr, rfl⟩, fun v H3 e r => bk_l _ _ _ _ e2 r⟩
theorem ok_gap_of (T : Tp K mg) (F : FD K d_gap_of) (c_after : C8.Cal P w K mg base 3 "after" (spAfter K) []) : C8.Cal P w K mg base 4 "gap_of" (spGap K) [] := by
  refine cal_k F T.g_gap_of sc_gap_of (fun _ _ _ _ _ _ us hl => match us, hl with | [_, _], _ => rfl) (fun vs H Q E h => ?_) (fun cdv A outer s H vs Q E hr h => ?_)
  · obtain ⟨R, ⟨S, t, d, n, rfl, _⟩, _⟩ := h
    rfl
  · obtain ⟨R, ⟨S, t, d, n, rfl, hS, hd, ⟨x, y, z, hn⟩, ⟨hz1, hz2, hi1, hi2⟩, rfl⟩, q⟩ := h
    refine ⟨_, (pss_cons (ps_par (i := 2) (j := 3) (by rfl) (sc_gap_of).nd rfl rfl (by decide) rfl rfl (pa_cons (C8.pe_c c_after hr (by decide) (by rfl) (pa_cons (pv 0) (pa_cons (pe_lst pa_nil) (pa_cons (pe_ix (k_ixT (K := K) rfl) (pv 1) pe_int (fun _ _ => rfl)) pa_nil)))) (pa_cons (C8.pe_c c_after hr (by decide) (by rfl) (pa_cons (pv 0) (pa_cons (pe_lst pa_nil) (pa_cons (pe_ix (k_ixT (K := K) rfl) (pv 1) pe_int (fun _ _ => rfl)) pa_nil)))) pa_nil)) (by rfl))
  (pss_cons (ps_set (i := 4) (sc_gap_of).nd rfl (.inl rfl) (pe_op op_sub (pe_callB (k_len (K := K) rfl) (by rfl) T.f_len PySem.boot_len (pa_cons (pv 3) pa_nil)) (pe_callB (k_len (K := K) rfl) (by rfl) T.f_len PySem.boot_len (pa_cons (pv 2) pa_nil))))
  (pss_cons (ps_if (pt_cmpR op_ge (pv 4) pe_int (nomark _))
  (pss_one (ps_ret (pe_ifExp (pt_cmpR (k_eqD (K := K) rfl hr) (pe_slice (k_slL (K := K) rfl) (pv 3) (po_some (pv 4)) po_none) (pv 2) (nomark _)) (pe_tup (pa_cons (pe_slice (k_slL (K := K) rfl) (pv 3) po_none (po_some (pv 4))) (pa_cons (pe_lst pa_nil) pa_nil))) pe_non)))
  pss_nil)
  (pss_one (ps_ret (pe_ifExp (pt_cmpR (k_eqD (K := K) rfl hr) (pe_slice (k_slL (K := K) rfl) (pv 2) (po_some (pe_un un_neg (pv 4))) po_none) (pv 3) (nomark _)) (pe_tup (pa_cons (pe_lst pa_nil) (pa_cons (pe_slice (k_slL (K := K) rfl) (pv 2) po_none (po_some (pe_un un_neg (pv 4)))) pa_nil))) pe_non)))))), ?_⟩
    refine q_par (T := fun x y H1 H2 => ∃ p r, x = .ref p ∧ y = .ref r ∧ H2 p = some (.lst (svs (lineOf d n.1))) ∧ H2 r = some (.lst (svs (lineOf d n.2.1)))) (ear_cons (el_afterN (ev_var rfl) (el_lst ea_nil (by simp)) (ev_ixT (ev_var rfl) ev_c hn.tup rfl) hS hd hn.one hz1 hi1) (ear_cons (el_afterN (ev_var rfl) (el_lst ea_nil (by simp)) (ev_ixT (ev_var rfl) ev_c hn.tup rfl) hS hd hn.two hz2 hi2) ear_nil)) ?_ ?_
    · rintro vs H1 e1 ⟨v, r, H2, rfl, e2, e3, ⟨p, rfl, _, hp⟩, v2, r2, H3, rfl, e4, e5, ⟨p2, rfl, _, hp2⟩, rfl⟩
      exact ⟨_, _, rfl, p, p2, rfl, rfl, e3 _ _ hp, e5 _ _ hp2⟩
    rintro x1 y1 H1 e1 ⟨p, r, rfl, rfl, hp, hr2⟩
    have l1 := lineOf_len d n.1
    have l2 := lineOf_len d n.2.1
    have o1 : ∀ x ∈ lineOf d n.1, okS x := fun x hx => (hd.good x (hi1 x (lineOf_mem hx))).ok
    have o2 : ∀ x ∈ lineOf d n.2.1, okS x := fun x hx => (hd.good x (hi2 x (lineOf_mem hx))).ok
    unfold gapR at q
    generalize lineOf d n.1 = a at *
    generalize lineOf d n.2.1 = b at *
    refine q_asg (ev_op (ev_len (ev_var rfl) (SqL.of hr2)) (ev_len (ev_var rfl) (SqL.of hp)) rv_I0) fun H2 e2 => ?_
    have hp2 := e2 _ _ hp
    have hr3 := e2 _ _ hr2
    rw [svs_len, svs_len]
    refine q_when (b := decide (a.length ≤ b.length)) (et_is (et_B (ev_op (ev_var rfl) ev_c rv_I0)) (by simp)) (fun hc H3 e3 => ?_) fun hc H3 e3 => ?_
    · have hc := of_decide_eq_true hc
      have hm : ((b.length : Int) - (a.length : Int)) = ((b.length - a.length : Nat) : Int) := by omega
      rw [hm]
      have hp3 := e3 _ _ hp2
      have hr4 := e3 _ _ hr3
      refine s_retR (er_if (R := ROGap (gapP a b)) (b := decide (b.drop (b.length - a.length) = a)) (et_eqLv (el_is (el_sl (ev_var rfl) (eo_some (ev_var rfl)) eo_none (SqL.of hr4)) (ys := svs (b.drop (b.length - a.length))) ?_) (ev_var rfl) hp3 ?_) (fun hd => ?_) (fun hd => ?_) bk_ogap) fun v H4 e4 r => q v H4 (((e1.trans e2).trans e3).trans e4) (bk_ogap _ _ _ _ ((e1.trans e2).trans e3) r)
      · rw [cut_from]
        exact List.map_drop.symm
      · exact ⟨fun x hx => o2 x (List.mem_of_mem_drop hx), o1⟩
      · have hd := of_decide_eq_true hd
        unfold gapP
        rw [if_pos hc, if_pos hd]
        exact er_gapN (el_is (el_sl (ev_var rfl) eo_none (eo_some (ev_var rfl)) (SqL.of hr4)) (by rw [cut_to]; exact List.map_take.symm)) (el_lst ea_nil (by simp))
      · have hd := of_decide_eq_false hd
        unfold gapP
        rw [if_pos hc, if_neg hd]
        exact er_v ev_c
    · have hc := of_decide_eq_false hc
      have hm : (-((b.length : Int) - (a.length : Int))) = ((a.length - b.length : Nat) : Int) := by omega
      have hp3 := e3 _ _ hp2
      have hr4 := e3 _ _ hr3
      have hneg : ∀ H', Ex H3 H' → Ev (tUn _ (tVar 4)) [some (.ref S), some (.ref t), some (.ref p), some (.ref r), some (.int ((b.length : Int) - (a.length : Int)))] H' (.int ((a.length - b.length : Nat) : Int)) := fun H' _ => ev_is (ev_un (ev_var rfl) ru_neg) (by rw [hm])
      refine s_retR (er_if (R := ROGap (gapP a b)) (b := decide (a.drop (a.length - b.length) = b)) (et_eqLv (el_is (el_sl (ev_var rfl) (eo_some (hneg _ (Ex.refl _))) eo_none (SqL.of hp3)) (ys := svs (a.drop (a.length - b.length))) ?_) (ev_var rfl) hr4 ?_) (fun hd => ?_) (fun hd => ?_) bk_ogap) fun v H4 e4 r => q v H4 (((e1.trans e2).trans e3).trans e4) (bk_ogap _ _ _ _ ((e1.trans e2).trans e3) r)
      · rw [cut_from]
        exact List.map_drop.symm
      · exact ⟨fun x hx => o1 x (List.mem_of_mem_drop hx), o2⟩
      · have hd := of_decide_eq_true hd
        unfold gapP
        rw [if_neg hc, if_pos hd]
        exact er_gapN (el_lst ea_nil (by simp)) (el_is (el_sl (ev_var rfl) eo_none (eo_some (hneg _ (Ex.refl _))) (SqL.of hp3)) (by rw [cut_to]; exact List.map_take.symm))
      · have hd := of_decide_eq_false hd
        unfold gapP
        rw [if_neg hc, if_neg hd]
        exact er_v ev_c
end
end K64
set_option Elab.async false
set_option linter.all false
set_option maxRecDepth 100000
set_option maxHeartbeats 4000000
/-! Dicts whose keys are nodes' keys: tuples of tuples of texts. -/
namespace K64
open PySem PySem.Spec PyProof.Rows L2 Evl
def nkT (xs : List Str) : NestedKey := .tup (xs.map .text)
def nkN (n : Nd) : NestedKey := .tup [nkT n.1, nkT n.2.1, nkT n.2.2]
theorem nkT_inj {a b : List Str} (h : nkT a = nkT b) : a = b := by
  unfold nkT at h
  injection h with h
  exact List.map_inj_right (fun x y e => by injection e) |>.mp h
theorem nkN_inj {a b : Nd} (h : nkN a = nkN b) : a = b := by
  unfold nkN at h
  injection h with h
  injection h with h1 h
  injection h with h2 h
  injection h with h3 h
  exact Prod.ext (nkT_inj h1) (Prod.ext (nkT_inj h2) (nkT_inj h3))
def entN (p : Nd × Addr) : NestedKey × Addr × Value := (nkN p.1, p.2, .bool true)
/-- a dict of nodes' keys, True each -/
def DN (P : Program) (w : World) (d : Addr) (ks : List (Nd × Addr)) : HO := .ext fun h => (d == sysModules) = false ∧ ks.length ≤ sizeLine ∧ ∃ o es ep, h.get? d = some o ∧ o.ExactDict ∧ o.data = .dict es ep ∧ es.toList = (ks.map entN).map (entryOfKey (nestedKind P w)) ∧ ((ks.map entN).map (·.1)).Nodup
/-- what is known: the dict at d, its keys where they stand -/
def KnownAt (P : Program) (w : World) (H : Hp) (d : Addr) (ks : List (Nd × Addr)) : Prop := H d = some (DN P w d ks) ∧ ∀ p ∈ ks, KeyAt H p.2 p.1
section
variable {P : Program} {w : World} {H : Hp} {h : Heap}
theorem nest_texts : ∀ {xs : List Str} {us : List Value}, Vals (svs xs) us → NestedAll h (xs.map .text) us
  | [], _, r => by cases r; exact .nil
  | x :: xs, _, r => by
    cases r with
    | cons r1 r2 =>
      obtain ⟨t, e⟩ := r1
      rw [e]
      exact .cons (.text x t) (nest_texts r2)
theorem nest_tup {a : Addr} {xs : List Str} (ok : HOk P w H h) (e : H a = some (.tup (svs xs))) : NestedIs h (nkT xs) (.ref a) := by
  obtain ⟨_, its, r, o, h1, h2, n, h3⟩ := (show ObjOk P w H h a (.tup (svs xs)) from ok a _ e)
  exact .tup h1 h2 h3 (nest_texts r)
theorem depth_texts : ∀ xs : List Str, NestedKey.depthAll (xs.map .text) = 0
  | [] => rfl
  | x :: xs => by
    rw [List.map_cons, NestedKey.depthAll, depth_texts xs]
    rfl
theorem depth_nkN (n : Nd) : (nkN n).depth ≤ 8 := by
  unfold nkN nkT
  simp only [NestedKey.depth, NestedKey.depthAll, depth_texts]
  omega
theorem key_isN {t : Addr} {n : Nd} (ok : HOk P w H h) (e : KeyAt H t n) : (nestedKind P w).is h (nkN n) t := by
  obtain ⟨a, b, c, ht, ha, hb, hc⟩ := e
  obtain ⟨_, its, r, o, h1, h2, m, h3⟩ := (show ObjOk P w H h t (.tup [.ref a, .ref b, .ref c]) from ok t _ ht)
  refine ⟨.tup h1 h2 h3 ?_, depth_nkN n⟩
  cases r with
  | cons r1 r =>
    cases r with
    | cons r2 r =>
      cases r with
      | cons r3 r =>
        cases r
        cases r1
        cases r2
        cases r3
        exact .cons (nest_tup ok ha) (.cons (nest_tup ok hb) (.cons (nest_tup ok hc) .nil))
theorem known_of {d : Addr} {ks : List (Nd × Addr)} (ok : HOk P w H h) (e : KnownAt P w H d ks) : (d == sysModules) = false ∧ ks.length ≤ sizeLine ∧ h.DictOfH (nestedKind P w) d (ks.map entN) := by
  obtain ⟨⟨h0, hz, o, es, ep, h1, h2, h3, h4, h5⟩, _, _⟩ := (show ObjOk P w H h d (DN P w d ks) from ok d _ e.1)
  refine ⟨h0, hz, o, es, ep, h1, h2, h3, h4, fun x hx => ?_, h5⟩
  obtain ⟨p, hp, rfl⟩ := List.mem_map.mp hx
  exact key_isN ok (e.2 p hp)
theorem at_mem {ks : List (Nd × Addr)} {n : Nd} : (atKey (ks.map entN) (nkN n)).isSome = decide (n ∈ ks.map Prod.fst) := by
  unfold atKey
  rw [Option.isSome_map, Bool.eq_iff_iff, List.find?_isSome, decide_eq_true_eq]
  constructor
  · rintro ⟨x, hx, e⟩
    obtain ⟨p, hp, rfl⟩ := List.mem_map.mp hx
    exact List.mem_map.mpr ⟨p, hp, nkN_inj (of_decide_eq_true e)⟩
  · intro hn
    obtain ⟨p, hp, rfl⟩ := List.mem_map.mp hn
    exact ⟨entN p, List.mem_map.mpr ⟨p, hp, rfl⟩, decide_eq_true rfl⟩
theorem at_none {ks : List (Nd × Addr)} {n : Nd} (h : n ∉ ks.map Prod.fst) : atKey (ks.map entN) (nkN n) = none := by
  have e := at_mem (ks := ks) (n := n)
  rw [decide_eq_false h] at e
  cases hh : atKey (ks.map entN) (nkN n) with
  | none => rfl
  | some _ =>
    rw [hh] at e
    cases e
/-- a heap that holds such a dict -/
theorem dn_ok {H' : Hp} {d : Addr} {ks : List (Nd × Addr)} (h0 : (d == sysModules) = false) (hz : ks.length ≤ sizeLine) (dd : h.DictOfH (nestedKind P w) d (ks.map entN)) : ObjOk P w H' h d (DN P w d ks) := by
  obtain ⟨o, es, ep, h1, h2, h3, h4, _, h5⟩ := dd
  refine ⟨⟨h0, hz, o, es, ep, h1, h2, h3, h4, h5⟩, ⟨o, h1⟩, fun g1 g2 ⟨_, _, o', es', ep', k1, k2, k3, k4, k5⟩ kk => ⟨h0, hz, o', es', ep', kk _ k1, k2, k3, k4, k5⟩⟩
end
section
variable {P : Program} {w : World} {X : Cx} {pins : List (Addr × Obj)} {σ : L2.St} {H : Hp} {s : Shared} {d t : Addr} {n : Nd} {ks : List (Nd × Addr)} {k : Nat}
def rInN (P : Program) (w : World) (neg : Bool) : R2 := fun x y H Q => ∃ t n d ks, x = .ref t ∧ y = .ref d ∧ KeyAt H t n ∧ KnownAt P w H d ks ∧ Q (.bl (if neg then !decide (n ∈ ks.map Prod.fst) else decide (n ∈ ks.map Prod.fst))) H
theorem op_inN (hP : X.prog = P) (hw : X.w = w) (hr : Room k X.A) : OpR X (compareOp .In) (rInN P w false) := by
  subst hP hw
  intro pins s σ H x y v u Q I rx ry h
  obtain ⟨t, n, d, ks, rfl, rfl, hk, hd, q⟩ := h
  obtain rfl : v = Value.ref t := rx
  obtain rfl : u = Value.ref d := ry
  obtain ⟨h0, hz, dd⟩ := known_of I.hok hd
  refine wpAny_in_heap (knd := nestedKind X.prog X.w) (by have := hr.un; show X.A.units + 1 + 8 < cLine; omega) (key_isN I.hok hk) h0 dd ?_
  rw [at_mem]
  exact ⟨.bl _, H, I.tok _, rfl, q⟩
theorem op_notinN (hP : X.prog = P) (hw : X.w = w) (hr : Room k X.A) : OpR X (compareOp .NotIn) (rInN P w true) := by
  subst hP hw
  intro pins s σ H x y v u Q I rx ry h
  obtain ⟨t, n, d, ks, rfl, rfl, hk, hd, q⟩ := h
  obtain rfl : v = Value.ref t := rx
  obtain rfl : u = Value.ref d := ry
  obtain ⟨h0, hz, dd⟩ := known_of I.hok hd
  refine wpAny_notIn_heap (knd := nestedKind X.prog X.w) (by have := hr.un; show X.A.units + 1 + 8 < cLine; omega) (key_isN I.hok hk) h0 dd ?_
  rw [at_mem]
  exact ⟨.bl _, H, I.tok _, rfl, q⟩
def rLenN (P : Program) (w : World) : List V → Hp → VK → Prop := fun vs H Q => ∃ d ks, vs = [.ref d] ∧ KnownAt P w H d ks ∧ Q (.int ks.length) H
theorem call_lenN (hP : X.prog = P) (hw : X.w = w) : CallR X (.builtin "len") (rLenN P w) := by
  subst hP hw
  intro pins s σ H vs us Q I r h
  obtain ⟨d, ks, rfl, hd, q⟩ := h
  rw [Vals.ref1 r]
  obtain ⟨h0, hz, dd⟩ := known_of I.hok hd
  refine call_len_dictH h0 dd (by rw [List.length_map]; rw [sizeLine_eq] at hz; omega) ?_
  rw [List.length_map]
  exact ⟨.int ks.length, H, (I.tok _), ⟨_, rfl⟩, q⟩
/-- the heap behind d[key] = True, the key not there -/
theorem KnownAt.put (hk : KeyAt H t n) (hd : KnownAt P w H d ks) : KnownAt P w (upd H d (DN P w d (ks ++ [(n, t)]))) d (ks ++ [(n, t)]) := by
  have ne : ∀ b xs, H b = some (.tup xs) → b ≠ d := fun b xs hb e => by
    rw [e, hd.1] at hb
    cases hb
  have kk : ∀ t n, KeyAt H t n → KeyAt (upd H d (DN P w d (ks ++ [(n, t)]))) t n := fun t n ⟨a, b, c, h1, h2, h3, h4⟩ => ⟨a, b, c, by rw [upd_ne (ne _ _ h1)]; exact h1, by rw [upd_ne (ne _ _ h2)]; exact h2, by rw [upd_ne (ne _ _ h3)]; exact h3, by rw [upd_ne (ne _ _ h4)]; exact h4⟩
  refine ⟨upd_same, fun p hp => ?_⟩
  have kk2 : ∀ t' n', KeyAt H t' n' → KeyAt (upd H d (DN P w d (ks ++ [(n, t)]))) t' n' := fun t n ⟨a, b, c, h1, h2, h3, h4⟩ => ⟨a, b, c, by rw [upd_ne (ne _ _ h1)]; exact h1, by rw [upd_ne (ne _ _ h2)]; exact h2, by rw [upd_ne (ne _ _ h3)]; exact h3, by rw [upd_ne (ne _ _ h4)]; exact h4⟩
  rcases List.mem_append.mp hp with hp | hp
  · exact kk2 _ _ (hd.2 p hp)
  · have e : p = (n, t) := by simpa using hp
    subst e
    exact kk2 _ _ hk
theorem d_setN {Q : Unit → Shared → Prop} {A : Around} {E : Value → Shared → Prop} (hu : A.units + 9 < cLine) (I : Inv X pins σ H s) (hk : KeyAt H t n) (hd : KnownAt X.prog X.w H d ks) (hn : n ∉ ks.map Prod.fst) (hl : ks.length < sizeLine) (h : ∀ s', Inv X pins σ (upd H d (DN X.prog X.w d (ks ++ [(n, t)]))) s' → Q () s') :
    wpAny (model X.prog X.w) A (setItem (.ref d) (.ref t) (.bool true)) Q E s := by
  obtain ⟨h0, hz, dd⟩ := known_of I.hok hd
  refine wpAny_setItem_heap (knd := nestedKind X.prog X.w) (hsz := by rw [List.length_map]; exact hz) hu (key_isN I.hok hk) dd fun h' dd' hs => h _ ?_
  rw [storedH_new (at_none hn)] at dd'
  have e : ks.map entN ++ [(nkN n, t, .bool true)] = (ks ++ [(n, t)]).map entN := by simp [entN]
  rw [e] at dd'
  have he : ∃ q, h'.get? d = some q := let ⟨q, _, _, hq, _⟩ := dd'; ⟨q, hq⟩
  exact d_write I (by rw [hd.1]; exact True.intro) hs he (dn_ok h0 (by rw [List.length_append]; exact hl) dd')
theorem d_dictSetN {Q : Unit → Shared → Prop} {A : Around} {E : Value → Shared → Prop} (hu : A.units + 8 < cLine) (I : Inv X pins σ H s) (hk : KeyAt H t n) (hd : KnownAt X.prog X.w H d ks) (hn : n ∉ ks.map Prod.fst) (hl : ks.length < sizeLine) (h : ∀ s', Inv X pins σ (upd H d (DN X.prog X.w d (ks ++ [(n, t)]))) s' → Q () s') :
    wpAny (model X.prog X.w) A (dictSet d (.ref t) (.bool true)) Q E s := by
  obtain ⟨h0, hz, dd⟩ := known_of I.hok hd
  refine wpAny_dictSet_heap (knd := nestedKind X.prog X.w) (hsz := by rw [List.length_map]; exact hz) hu (key_isN I.hok hk) dd fun h' dd' hs => h _ ?_
  rw [storedH_new (at_none hn)] at dd'
  have e : ks.map entN ++ [(nkN n, t, .bool true)] = (ks ++ [(n, t)]).map entN := by simp [entN]
  rw [e] at dd'
  have he : ∃ q, h'.get? d = some q := let ⟨q, _, _, hq, _⟩ := dd'; ⟨q, hq⟩
  exact d_write I (by rw [hd.1]; exact True.intro) hs he (dn_ok h0 (by rw [List.length_append]; exact hl) dd')
/-- d[e] = True -/
def sPutN (P : Program) (w : World) (td ty tv : TE) : TS := fun D σ H => tv σ H fun v H1 => td σ H1 fun x H2 => ty σ H2 fun y H3 => ∃ t n d ks, v = .bl true ∧ x = .ref d ∧ y = .ref t ∧ KeyAt H3 t n ∧ KnownAt P w H3 d ks ∧ n ∉ ks.map Prod.fst ∧ ks.length < sizeLine ∧ D.nx σ (upd H3 d (DN P w d (ks ++ [(n, t)])))
theorem ps_putN {o i value : Expr} {pos pos' : Pos} {td ty tv : TE} (hP : X.prog = P) (hw : X.w = w) (hr : Room k X.A) (ho : PE X o td) (hi : PE X i ty) (hv : PE X value tv) (hs : swapsWith value (some (.Subscript o i pos')) pos.line X.env = pure false) :
    PS X (.Assign [.Subscript o i pos'] value pos) (sPutN P w td ty tv) := by
  subst hP hw
  refine ⟨fun pins s σ H D I h => ?_⟩
  refine wpAny_Assign_Subscript (thn (hv.run pins s σ H _ I h) fun r s1 ⟨v, H1, I1, rv, q1⟩ => thn (ho.run pins s1 σ H1 _ I1 q1) fun u s2 ⟨x, H2, I2, rx, q2⟩ => thn (hi.run pins s2 σ H2 _ I2 q2) fun iv s3 ⟨y, H3, I3, ry, t, n, d, ks, ev, ex, ey, hk, hd, hn, hl, q3⟩ => ?_) hs
  subst ev
  subst ex
  subst ey
  obtain rfl : r = Value.bool true := rv
  obtain rfl : u = Value.ref d := rx
  obtain rfl : iv = Value.ref t := ry
  exact d_setN (by have := hr.un; omega) I3 hk hd hn hl fun s4 I4 => ⟨σ, _, I4, q3⟩
/-- {e: True} -/
def tDispN (P : Program) (w : World) (tk : TE) : TE := fun σ H Q => ∀ p, H p = none → tk σ (upd H p (DN P w p [])) fun x H2 => ∃ t n, x = .ref t ∧ KeyAt H2 t n ∧ H2 p = some (DN P w p []) ∧ Q (.ref p) (upd H2 p (DN P w p [(n, t)]))
theorem pe_dispN {e : Expr} {kk : Nat} {p2 pos : Pos} {tk : TE} (hP : X.prog = P) (hw : X.w = w) (hr : Room k X.A) (he : PE X e tk) : PE X (.Dict [some e] [.Constant (.bool true) kk p2] pos) (tDispN P w tk) := by
  subst hP hw
  refine ⟨fun pins s σ H Q I q => ?_⟩
  have hn := I.hok.fresh (Nat.le_refl s.heap.objs.size)
  have dnew := Heap.DictOfH.new (knd := nestedKind X.prog X.w) s.heap
  have I1 := I.laid (a := s.heap.objs.size) (o := DN X.prog X.w s.heap.objs.size []) (h' := s.heap.push { cls := .type "dict", data := .dict #[] }) (t' := s.toks) (fun _ _ q => Heap.get?_push_of_some _ q) (Nat.le_refl _) (dn_ok (beq_eq_false_iff_ne.mpr (Ne.symm (Nat.ne_of_lt I.big))) (Nat.zero_le _) dnew)
  have pne : pairTrees [some e] [.Constant (.bool true) kk p2] X.env pos ≠ [] := by
    intro z
    have l := congrArg List.length z
    exact absurd (show 1 = 0 from l) (by decide)
  rw [arm_eval_Dict, zip_pairTrees [some e] [.Constant (.bool true) kk p2] X.env pos rfl rfl, dictDisplay_pairs _ pne (by show 1 < 17; decide)]
  refine wpAny_bind (wpAny_standAt (wpAny_bind (wpAny_subDictH (knd := nestedKind X.prog X.w) (by have := hr.un; show X.A.units + 8 < cLine; omega) (by show 1 ≤ 15; decide) ?_)))
  refine pairTrees_cons_walk (thn (he.run pins _ σ _ _ I1 (q _ hn)) fun u s2 ⟨x, H2, I2, rx, t, n, ex, hk, hd, q2⟩ => ?_)
  subst ex
  obtain rfl : u = Value.ref t := rx
  refine thn ((pe_bl (X := X) (b := true)).run pins s2 σ H2 (fun v H3 => v = .bl true ∧ H3 = H2) I2 ⟨rfl, rfl⟩) fun u2 s3 ⟨x3, H3, I3, r3, e3, e3'⟩ => ?_
  subst e3
  subst e3'
  obtain rfl : u2 = Value.bool true := r3
  refine pairTrees_nil_walk ?_
  obtain ⟨h0, hz, dd⟩ := known_of I3.hok ⟨hd, fun p hp => nomatch hp⟩
  refine ⟨[(nkN n, t, .bool true)], ⟨rfl, rfl, key_isN I3.hok hk, trivial⟩, dd, fun h' tk' dd' hs => wpAny_pure ⟨.ref s.heap.objs.size, _, ?_, rfl, q2⟩⟩
  have e1 : storedAllH [] [(nkN n, t, Value.bool true)] = [(n, t)].map entN := by simp [storedAllH, storedH, atKey, entN]
  rw [e1] at dd'
  have he : ∃ q, h'.get? s.heap.objs.size = some q := let ⟨q, _, _, hq, _⟩ := dd'; ⟨q, hq⟩
  exact d_write I3 (by rw [hd]; exact True.intro) hs he (dn_ok h0 (by show 1 ≤ sizeLine; rw [sizeLine_eq]; omega) dd')
end
end K64
set_option Elab.async false
set_option linter.all false
set_option maxRecDepth 100000
set_option maxHeartbeats 4000000
/-! A dict comprehension whose dict is told by a form of one's own: D0, the empty dict; Sto, what a store of a pair leaves. -/
namespace K64
open PySem PySem.Spec PyProof.Rows L2 Evl
abbrev Store := Addr → V → V → Hp → (Hp → Prop) → Prop
structure StoreOk (P : Program) (w : World) (A : Around) (D0 : Addr → HO) (Sto : Store) : Prop where
  empty : ∀ (h : Heap) (H : Hp), sysModules < h.objs.size → ObjOk P w H (h.push { cls := .type "dict", data := .dict #[] }) h.objs.size (D0 h.objs.size)
  store : ∀ (X : Cx), X.prog = P → X.w = w → X.A = A → ∀ (pins : List (Addr × Obj)) (σ : L2.St) (H : Hp) (s : Shared) (D : Addr) (y z : V) (u r : Value) (Nx : Hp → Prop) (E : Value → Shared → Prop) (Q : Unit → Shared → Prop), L2.Inv X pins σ H s → RelV y u → RelV z r → Sto D y z H Nx →
    (∀ s' H', L2.Inv X pins σ H' s' → Nx H' → Q () s') → wpAny (model P w) A (dictSet D u r) Q E s
def tDcG (D0 : Addr → HO) (Sto : Store) (wi : TI) (g : TG) (tt : TT) (tk tv : TE) (vs : List Nat) : TE := fun σ H Q => wi σ H fun J H1 => ∀ D, H1 D = none → ∃ W : Nat → Nat → Hp → Prop, (∃ m, W 0 m (upd H1 D (D0 D))) ∧ ∀ i m H', W i m H' →
  (J.stop i H' ∧ Q (.ref D) H') ∨ (J.go i H' ∧ ∃ Nx : Hp → Prop, (∀ G, Nx G → ∃ m', m' < m ∧ W (i + 1) m' G) ∧ ∀ x G, J.yld i H' x G → g x (wipe σ vs) G fun σ2 H2 => wipe σ2 vs = wipe σ vs ∧ tt σ2 H2 fun b H3 =>
    if b = true then tk σ2 H3 fun y H4 => tv σ2 H4 fun z H5 => Sto D y z H5 Nx else Nx H3)
section
variable {X : Cx} {D0 : Addr → HO} {Sto : Store} {pins : List (Addr × Obj)} {s : Shared} {σ : L2.St} {H : Hp} {Q : VK} {kx vx tg iter : Expr} {ifs : List Expr} {scope : Scope} {own : List (Str × Nat)} {pos pos' : Pos} {wi : TI} {g : TG} {tt : TT} {tk tv : TE} {use : Option (Value → Sem Unit)} {Qf : Value → Shared → Prop}
/-- what a block's part is read as, wherever the block runs -/
abbrev InBlk (X : Cx) (scope : Scope) (F : Cx → Prop) : Prop := ∀ (s : Shared) (H : Hp) (C : Addr) (cl : List (Str × Addr)) (fp : List Addr), F (X.blk s H scope (compEnvC scope cl C X.env) fp)
theorem dcg_core (so : StoreOk X.prog X.w X.A D0 Sto) (hc : X.calm = true) (hN : X.N.Nodup) (I : L2.Inv X pins σ H s) (hi : PI X tg iter wi) (ok : BlkOk X.N X.env.scope scope own)
    (hg : InBlk X scope fun B => PG B tg g) (ht : InBlk X scope fun B => PTs B ifs tt) (hk : InBlk X scope fun B => PE B kx tk) (he : InBlk X scope fun B => PE B vx tv) (hs : ∀ x, foldedSetIterable iter X.env x = pure x) (h : tDcG D0 Sto wi g tt tk tv (own.map (·.2)) σ H Q)
    (fin : ∀ D C t m G, L2.Inv X pins σ G t → Q (.ref D) G → t.heap.Ns C m → FpOk X pins G C → compPost (model X.prog X.w) X.A X.xe use Qf (.ref D) C (.ok .next) t) :
    wpAny (model X.prog X.w) X.A (comprehension (.DictComp kx vx [⟨tg, iter, ifs, 0⟩] scope pos) scope X.env pos' newDict false (eval iter X.env) use) Qf X.xe s := by
  have free : ∀ y ∈ scope.names, y.2 = .free → ∃ c, X.env.cells.lookup y.1 = some c := fun y hy e => (ok.free y hy e).elim (fun k => I.ok.has _ (.inl k)) fun k => I.ok.has _ (.inr k)
  refine wpAny_comprehension_free (use := use) rfl hs (closure_ok free) ok.kind (fun y hy e => by rw [ok.uniq y hy, e]) (thn (hi.run pins s σ H _ I h) fun xv s1 hx => thn hx fun itv s2 h2 => ?_)
  obtain ⟨it, fp, tn, J, H2, rfl, I2, T, st2, f2, q⟩ := h2
  refine wpAny_newObj_type (newEnv_comp ?_)
  have hDn := I2.hok.fresh (Nat.le_refl s2.heap.objs.size)
  have I3 := I2.laid (t' := s2.toks) (o := D0 s2.heap.objs.size) (fun b o e => Heap.get?_push_of_some { cls := .type "dict", data := .dict #[] } e) (Nat.le_refl _) (so.empty s2.heap _ I2.big)
  obtain ⟨W, ⟨m0, w0⟩, turn⟩ := q _ hDn
  have low : ∀ b ∈ fp, b < s2.heap.objs.size := fun b hb => let ⟨o, e, _⟩ := T.obj _ _ st2 b hb; Heap.lt_size e
  generalize hD : s2.heap.objs.size = D at *
  generalize hs3 : ({ s2 with heap := s2.heap.push { cls := .type "dict", data := .dict #[] } } : Shared) = s3 at *
  have h3 : s3.heap = s2.heap.push { cls := .type "dict", data := .dict #[] } := by rw [← hs3]
  have keep3 : ∀ b o, s2.heap.get? b = some o → s3.heap.get? b = some o := fun b o e => by rw [h3]; exact Heap.get?_push_of_some _ e
  generalize hH3 : upd H2 D (D0 D) = H3 at *
  have f3 : ∀ b ∈ fp, FpOk X pins H3 b ∧ b < s3.heap.objs.size := fun b hb => by
    have hlt := low b hb
    refine ⟨⟨?_, (f2 b hb).2⟩, ?_⟩
    · rw [← hH3, upd_ne (Nat.ne_of_lt hlt)]
      exact (f2 b hb).1
    · rw [h3, Heap.size_push, hD]
      exact Nat.lt_succ_of_lt hlt
  have st3 : tn 0 s3.heap := T.keep _ _ _ st2 fun b _ o e => keep3 b o e
  have I4 := block_start I3 ok hN f3
  have pg := hg s3 H3 s3.heap.objs.size (cellsFrom (s3.heap.objs.size + 1) scope.names (cloFrom X.env.cells scope.names [])) fp
  have pt := ht s3 H3 s3.heap.objs.size (cellsFrom (s3.heap.objs.size + 1) scope.names (cloFrom X.env.cells scope.names [])) fp
  have pk := hk s3 H3 s3.heap.objs.size (cellsFrom (s3.heap.objs.size + 1) scope.names (cloFrom X.env.cells scope.names [])) fp
  have pv := he s3 H3 s3.heap.objs.size (cellsFrom (s3.heap.objs.size + 1) scope.names (cloFrom X.env.cells scope.names [])) fp
  show codeAny _ _ (.compStart (.DictComp kx vx [⟨tg, iter, ifs, 0⟩] scope pos) 0 (.ref it) (.ref D) (compEnvC scope (cellsFrom (s3.heap.objs.size + 1) scope.names (cloFrom X.env.cells scope.names [])) s3.heap.objs.size X.env)) (compPost (model X.prog X.w) X.A X.xe use Qf (.ref D) s3.heap.objs.size) { s3 with heap := pushCells (s3.heap.push { cls := .type "dict", data := .dict #[] }) scope.names }
  have none3 : ∀ b ∈ fp, H3 b = none := fun b hb => (f3 b hb).1.1
  have cL : (compEnvC scope (cellsFrom (s3.heap.objs.size + 1) scope.names (cloFrom X.env.cells scope.names [])) s3.heap.objs.size X.env).locals = s3.heap.objs.size := rfl
  generalize compEnvC scope (cellsFrom (s3.heap.objs.size + 1) scope.names (cloFrom X.env.cells scope.names [])) s3.heap.objs.size X.env = ce at I4 pg pt pk pv cL ⊢
  generalize hs4 : ({ s3 with heap := pushCells (s3.heap.push { cls := .type "dict", data := .dict #[] }) scope.names } : Shared) = s4 at I4 ⊢
  have st4 : tn 0 s4.heap := T.keep _ _ _ st3 fun b _ o e => by rw [← hs4]; exact pushCells_keeps _ _ _ _ (Heap.get?_push_of_some _ e)
  have fpk : ∀ {τ : L2.St} {G : Hp} {t : Shared}, L2.Inv (X.blk s3 H3 scope ce fp) [] τ G t → (∀ b ∈ fp, G b = none) → ∀ b ∈ fp, FpOk (X.blk s3 H3 scope ce fp) [] G b := fun {τ G t} J' hn b hb =>
    ⟨hn b hb, (J'.ok.exf b hb).1, J'.ok.exfs b hb, .inl hb, fun x c e => (J'.ok.exf b hb).2 x c e, fun p hp => absurd (show p ∈ ([] : List (Addr × Obj)) ++ [] from hp) (by simp)⟩
  have loop : codeAny (model X.prog X.w) X.A (.compLoop (.DictComp kx vx [⟨tg, iter, ifs, 0⟩] scope pos) 0 (.ref it) (.ref D) ce) (compPost (model X.prog X.w) X.A X.xe use Qf (.ref D) s3.heap.objs.size) s4 := by
    refine compLoop_anyD (fun n t => ∃ i G, L2.Inv (X.blk s3 H3 scope ce fp) [] (wipe σ (own.map (·.2))) G t ∧ tn i t.heap ∧ (∀ b ∈ fp, G b = none) ∧ W i n G) ?_ m0 ⟨0, H3, I4, st4, none3, w0⟩
    rintro n s5 ⟨i, H5, I5, st5, n5, w5⟩
    rcases turn i n H5 w5 with ⟨stop, qq⟩ | ⟨go, Nx, hNx, step⟩
    · refine thnF (T.done (X.blk s3 H3 scope ce fp) rfl rfl rfl hc i [] s5 _ H5 (fun _ _ => False) I5 (fpk I5 n5) st5 stop) fun r s6 ⟨hr, I6⟩ => ?_
      subst hr
      have I7 := I3.call' (ch := fp) I6.os I6.base I6.hok I6.bare fun b hb => ⟨(f3 b hb).1.2.2.2.1, (f3 b hb).1.2.1, (f3 b hb).1.2.2.2.2.1, (f3 b hb).1.2.2.2.2.2⟩
      have nC : H5 s3.heap.objs.size = none := by
        rw [← cL]
        exact I6.free
      obtain ⟨m, hn, _⟩ := I6.loc
      have hn : s6.heap.Ns ce.locals m := hn
      rw [cL] at hn
      exact fin D s3.heap.objs.size s6 m H5 I7 qq hn (I3.fpOk (Nat.le_refl _) nC)
    · refine thnF (T.item (X.blk s3 H3 scope ce fp) rfl rfl rfl hc i [] s5 _ H5 (fun _ _ => False) I5 (fpk I5 n5) st5 go) fun r s6 ⟨u, hr, h6⟩ => ?_
      subst hr
      refine thnF h6 fun _ s7 ⟨x, H7, I7, r7, y7, st7, n7⟩ => ?_
      refine thnF (pg.run _ s7 _ H7 x u _ (I7.pinned (fpk I7 n7) (T.obj _ _ st7)) r7 (step x H7 y7)) fun _ s8 ⟨σ8, H8, I8, hw8, q8⟩ => ?_
      refine thnF (pt.run _ s8 σ8 H8 _ I8 q8) fun b s9 ⟨H9, I9, q9⟩ => ?_
      have next : ∀ t G, L2.Inv (X.blk s3 H3 scope ce fp) ([] ++ pinsAt fp s7.heap) σ8 G t → Nx G → ∃ m, m < n ∧ ∃ i G, L2.Inv (X.blk s3 H3 scope ce fp) [] (wipe σ (own.map (·.2))) G t ∧ tn i t.heap ∧ (∀ b ∈ fp, G b = none) ∧ W i m G := fun t G J' nx => by
        obtain ⟨m', hm, w'⟩ := hNx G nx
        have pinned : ∀ b ∈ fp, ∀ o, s7.heap.get? b = some o → t.heap.get? b = some o ∧ G b = none := fun b hb o e =>
          let z := J'.pin (b, o) (List.mem_append_right _ (List.mem_append_right _ (mem_pinsAt hb e)))
          ⟨z.1, z.2.1⟩
        have hl : (wipe σ (own.map (·.2))).length = σ8.length := by rw [← hw8, wipe_length]
        refine ⟨m', hm, i + 1, G, (J'.unpinned (pins := [])).weak hl (fun j v e => ?_), T.keep _ _ _ st7 fun b hb o e => (pinned b hb o e).1, fun b hb => ?_, w'⟩
        · rw [← hw8] at e
          exact (wipe_some e).1
        · obtain ⟨o, e, _⟩ := T.obj _ _ st7 b hb
          exact (pinned b hb o e).2
      cases b with
      | false => exact next s9 H9 I9 q9
      | true =>
        refine thnF (pk.run _ s9 σ8 H9 _ I9 q9) fun a s10 ⟨yk, H10, I10, r10, q10⟩ => ?_
        refine thnF (pv.run _ s10 σ8 H10 _ I10 q10) fun a2 s11 ⟨yv, H11, I11, r11, q11⟩ => ?_
        exact so.store (X.blk s3 H3 scope ce fp) rfl rfl rfl _ σ8 H11 s11 D yk yv a a2 Nx _ _ I11 r10 r11 q11 next
  exact codeAny_compStart_dict loop (T.self X.A 0 _ _ _ st4 loop)
theorem pe_dcg (so : StoreOk X.prog X.w X.A D0 Sto) (hc : X.calm = true) (hN : X.N.Nodup) (hi : PI X tg iter wi) (ok : BlkOk X.N X.env.scope scope own) (hg : InBlk X scope fun B => PG B tg g) (ht : InBlk X scope fun B => PTs B ifs tt) (hk : InBlk X scope fun B => PE B kx tk) (he : InBlk X scope fun B => PE B vx tv)
    (hs : ∀ x, foldedSetIterable iter X.env x = pure x := by intro _; rfl) : PE X (.DictComp kx vx [⟨tg, iter, ifs, 0⟩] scope pos) (tDcG D0 Sto wi g tt tk tv (own.map (·.2))) := by
  refine ⟨fun pins s σ H Q I h => ?_⟩
  rw [arm_eval_DictComp]
  refine dcg_core so hc hN I hi ok hg ht hk he hs h fun D C t m G I' q hn f => ⟨m, hn, fun h'' sb => ?_⟩
  obtain ⟨f0, f1, f2, f3, f4, f5⟩ := f
  exact ⟨.ref D, G, I'.turned (t' := t.toks) (fun b o hb e => (sb.2 b hb).trans e) f0 f1 f3 f4 f5, rfl, q⟩
theorem ps_setDcg {i : Nat} {y : Str} {py spos : Pos} (so : StoreOk X.prog X.w X.A D0 Sto) (hc : X.calm = true) (hN : X.N.Nodup) (hy : X.N[i]? = some y) (hyl : X.env.scope.names.lookup y = some .local)
    (hsw : swapsWith (.DictComp kx vx [⟨tg, iter, ifs, 0⟩] scope pos) (some (.Name y py)) spos.line X.env = pure true) (hi : PI X tg iter wi) (ok : BlkOk X.N X.env.scope scope own) (hg : InBlk X scope fun B => PG B tg g) (ht : InBlk X scope fun B => PTs B ifs tt) (hk : InBlk X scope fun B => PE B kx tk)
    (he : InBlk X scope fun B => PE B vx tv) (hs : ∀ x, foldedSetIterable iter X.env x = pure x := by intro _; rfl) : PS X (.Assign [.Name y py] (.DictComp kx vx [⟨tg, iter, ifs, 0⟩] scope pos) spos) (tAsg (tDcG D0 Sto wi g tt tk tv (own.map (·.2))) (gName i)) := by
  refine ⟨fun pins s σ H D I h => ?_⟩
  rw [exec_Assign_Name_used _ _ _ _ hsw]
  refine wpAny_bind (wpAny_standAt (wpAny_bind ?_))
  show wpAny _ X.A (do let _ ← comprehension (.DictComp kx vx [⟨tg, iter, ifs, 0⟩] scope pos) scope X.env (firstIterPos [⟨tg, iter, ifs, 0⟩] pos) newDict false (eval iter X.env) (some (assign (.Name y py) X.env))) _ _ s
  have h' : tDcG D0 Sto wi g tt tk tv (own.map (·.2)) σ H (fun x H1 => gName i x σ H1 D.nx) := h
  refine wpAny_bind (thn (dcg_core (Qf := fun _ t => SP X pins D .next t) so hc hN I hi ok hg ht hk he hs h' fun L C t m G I' q hn f => ?_) fun _ t hq => wpAny_pure (wpAny_pure hq))
  show wpAny _ _ (assign (.Name y py) X.env (.ref L)) _ _ _
  refine wpAny_assign_Name (store_ok2 (v := V.ref L) I' hN hy (.inl hyl) rfl (fun s2 I2 ⟨a, sb, ha⟩ => ?_) (.inr hyl))
  obtain ⟨f0, f1, f2, f3, f4, f5⟩ := f
  have haC : C ≠ a := ha.elim (fun z => by rw [z]; exact f1) fun z e => f4 y a z e.symm
  exact ⟨m, hn.sameBut sb haC, fun h3 sb3 => ⟨_, G, I2.turned (t' := s2.toks) (fun b o hb e => (sb3.2 b hb).trans e) f0 f1 f3 f4 f5, q⟩⟩
end
/-! ### over nodes' keys -/
def StoN (P : Program) (w : World) : Store := fun D y z H Nx => ∃ t n ks, y = .ref t ∧ z = .bl true ∧ KeyAt H t n ∧ KnownAt P w H D ks ∧ n ∉ ks.map Prod.fst ∧ ks.length < sizeLine ∧ Nx (upd H D (DN P w D (ks ++ [(n, t)])))
theorem stoN_ok {P : Program} {w : World} {A : Around} (hu : A.units + 8 < cLine) : StoreOk P w A (fun D => DN P w D []) (StoN P w) where
  empty := fun h H hb => dn_ok (beq_eq_false_iff_ne.mpr (Ne.symm (Nat.ne_of_lt hb))) (Nat.zero_le _) (Heap.DictOfH.new (knd := nestedKind P w) h)
  store := by
    rintro X rfl rfl rfl pins σ H s D y z u r Nx E Q I ry rz ⟨t, n, ks, rfl, rfl, hk, hd, hn, hl, q⟩ fin
    obtain rfl : u = Value.ref t := ry
    obtain rfl : r = Value.bool true := rz
    exact d_dictSetN hu I hk hd hn hl fun s' I' => fin s' _ I' q
theorem stoN_room {P : Program} {w : World} {X : Cx} {k : Nat} (hP : X.prog = P) (hw : X.w = w) (hr : Room k X.A) : StoreOk X.prog X.w X.A (fun D => DN P w D []) (StoN P w) := by
  subst hP hw
  exact stoN_ok (by have := hr.un; omega)
end K64
set_option Elab.async false
set_option linter.all false
set_option maxRecDepth 100000
set_option maxHeartbeats 4000000
/-! leads_well, is_table. -/
namespace K64
open PySem PySem.Spec PyProof.Rows L2 Evl
theorem KnownAt.ex {P : Program} {w : World} {H H' : Hp} {d : Addr} {ks : List (Nd × Addr)} (h : KnownAt P w H d ks) (e : Ex H H') : KnownAt P w H' d ks := ⟨e _ _ h.1, fun p hp => (h.2 p hp).ex e⟩
/-! ### gaps as data -/
mutual
theorem dp_ex {K : PySem.W.Frag} {H H' : Hp} (e : Ex H H') : ∀ (d : PyData) (v : V), Dp K H v d → Dp K H' v d
  | .none, _, h => by
    cases h
    exact .non
  | .bool b, _, h => by
    cases h
    exact .bl b
  | .int i, _, h => by
    cases h
    exact .int i
  | .str x, _, h => by
    cases h
    exact .str x
  | .list ds, _, h => by
    cases h with
    | lst h1 h2 => exact .lst (ex_l e h1) (dps_ex e ds _ h2)
  | .tuple ds, _, h => by
    cases h with
    | tup h1 h2 => exact .tup (ex_t e h1) (dps_ex e ds _ h2)
  | .dict _, _, h => nomatch h
theorem dps_ex {K : PySem.W.Frag} {H H' : Hp} (e : Ex H H') : ∀ (ds : List PyData) (vs : List V), DpAll K H vs ds → DpAll K H' vs ds
  | [], _, h => by
    cases h
    exact .nil
  | d :: ds, _, h => by
    cases h with
    | cons h1 h2 => exact .cons (dp_ex e d _ h1) (dps_ex e ds _ h2)
end
section
variable {K : PySem.W.Frag} {σ : L2.St} {H : Hp} {ta tb : TE}
theorem dp_gap {t : Addr} {g : Gp} (h : GapAt H t g) : Dp K H (.ref t) (PySem.W.Datum.toD g) := by
  obtain ⟨a, b, h1, h2, h3⟩ := h
  exact Dp.tup (st_of h1) (.cons (dp_list (SqL.of h2)) (.cons (dp_list (SqL.of h3)) .nil))
theorem dp_ogap {v : V} {g : Option Gp} {H1 : Hp} (h : ROGap g v H1 H) : Dp K H v (PySem.W.Datum.toD g) := by
  cases g with
  | none =>
    have h : v = .non := h
    subst h
    exact .non
  | some g =>
    obtain ⟨t, rfl, h, _⟩ := h
    exact dp_gap h
def okG (g : Gp) : Prop := (∀ x ∈ g.1, okS x) ∧ ∀ x ∈ g.2, okS x
theorem shaped_gap {g : Gp} (h : okG g) : SeqAt.shaped (PySem.W.Datum.toD g) = true := by
  unfold SeqAt.shaped
  rw [Bool.and_eq_true]
  refine ⟨?_, decide_eq_true (Nat.le_trans (PySem.W.Datum.depth_le g) (by decide))⟩
  show PyData.canLay0 (.tuple [.list _, .list _]) = true
  rw [PyData.canLay0, PyData.canLayAll0, PyData.canLayAll0, PyData.canLayAll0, PyData.canLay0, PyData.canLay0, canLay_strs g.1 h.1, canLay_strs g.2 h.2]
  rfl
theorem shaped_ogap {g : Option Gp} (h : ∀ x, g = some x → okG x) : SeqAt.shaped (PySem.W.Datum.toD g) = true := by
  cases g with
  | none => rfl
  | some g => exact shaped_gap (h g rfl)
/-- a gap, perhaps None, against a gap -/
theorem et_neG {A B : Rel} {g : Option Gp} {due : Gp} (ha : EvR ta σ H A) (hA : ∀ x H1 H2, A x H1 H2 → ROGap g x H1 H2) (hb : EvR tb σ H B) (hB : ∀ x H1 H2, Ex H H1 → Ex H1 H2 → B x H1 H2 → ∃ t, x = .ref t ∧ GapAt H2 t due) (h1 : ∀ x, g = some x → okG x) (h2 : okG due) : EvT (tTest (tOp (rNeD K) ta tb)) σ H (!decide (g = some due)) := by
  refine et_er (er_op ha hb fun x y H1 H2 H3 e1 e2 e3 rx ry Q q => ?_)
  obtain ⟨t, rfl, hg⟩ := hB _ _ _ (e1.trans e2) e3 ry
  have rx := hA _ _ _ rx
  refine ⟨_, PySem.W.Datum.toD (some due), dp_ex e3 _ _ (dp_ogap rx), dp_gap hg, shaped_ogap h1, shaped_gap h2, ?_⟩
  rw [PySem.W.Datum.eqv]
  exact q _ H3 (Ex.refl H3) rfl
end
theorem gapP_sub {α : Type} [DecidableEq α] {a b : List α} {g : List α × List α} (h : gapP a b = some g) : (∀ x ∈ g.1, x ∈ b) ∧ (∀ x ∈ g.2, x ∈ a) ∧ g.1.length ≤ b.length ∧ g.2.length ≤ a.length := by
  unfold gapP at h
  split at h
  · split at h
    · cases h
      exact ⟨fun x hx => List.mem_of_mem_take hx, (fun x hx => nomatch hx), by rw [List.length_take]; omega, Nat.zero_le _⟩
    · cases h
  · split at h
    · cases h
      exact ⟨(fun x hx => nomatch hx), fun x hx => List.mem_of_mem_take hx, Nat.zero_le _, by rw [List.length_take]; omega⟩
    · cases h
theorem strip_sub {α : Type} [DecidableEq α] : ∀ (f l : List α), (strip f l).1.Sublist f ∧ (strip f l).2.Sublist l
  | [], l => by simp [strip_nil_left]
  | f, [] => by simp [strip_nil_right]
  | a :: f, b :: l => by
    unfold strip
    split
    · have := strip_sub f l
      exact ⟨this.1.cons _, this.2.cons _⟩
    · exact ⟨List.Sublist.refl _, List.Sublist.refl _⟩
/-! ### good nodes -/
theorem addK_slt {ks : List Str} {k : Str} (h : ks.Pairwise slt) : (addK ks k).Pairwise slt := by
  unfold addK
  split
  · exact h
  · rename_i hn
    have hnd : (sortS (ks ++ [k])).Nodup := (sortS_perm _).nodup_iff.mpr (List.nodup_append.mpr ⟨asc_nd h, by simp, fun a ha b hb e => by
      have eb : b = k := by simpa using hb
      rw [eb] at e
      rw [e] at ha
      exact hn ha⟩)
    refine (List.Pairwise.and (sortS_sorted (ks ++ [k])) hnd).imp fun {a b} h => ?_
    obtain ⟨h1, h2⟩ := h
    unfold sle at h1
    have h1 := of_decide_eq_true h1
    unfold slt
    rcases Classical.em (a.cps.toList < b.cps.toList) with q | q
    · exact q
    · exact absurd (str_ext (List.le_antisymm h1 (List.not_lt.mp q))) h2
theorem mem_addK {ks : List Str} {k x : Str} (h : x ∈ addK ks k) : x ∈ ks ∨ x = k := by
  unfold addK at h
  split at h
  · exact .inl h
  · rw [mem_sortS, List.mem_append] at h
    rcases h with h | h
    · exact .inl h
    · exact .inr (by simpa using h)
theorem nextK_mem {d : Kd} {ks : List Str} {k : Str} (h : k ∈ nextK d ks) : k ∈ d.sk := (List.mem_filter.mp h).1
theorem NodeOk.step {d : Kd} {a b : List Str} {n : Nd} {g : Gp} {k : Str} (h : NodeOk d a b n) (hk : k ∈ d.sk) : NodeOk d a b (stepP d n g k).1 where
  one := (readR_sub d.fit n.1 k).trans h.one
  two := (readR_sub d.fit n.2.1 k).trans h.two
  set := addK_slt h.set
  kinds := fun x hx => (mem_addK hx).elim (h.kinds x) fun e => by rw [e]; exact hk
theorem NodeOk.ndin {d : Kd} {a b : List Str} {n : Nd} (h : NodeOk d a b n) (ha : RowOk d a) (hb : RowOk d b) : NdIn d n := ⟨by have := h.one.length_le; have := ha.len; omega, by have := h.two.length_le; have := hb.len; omega, fun x hx => ha.kinds x (h.one.subset hx), fun x hx => hb.kinds x (h.two.subset hx)⟩
/-- the gap's texts are kinds -/
def gapIn (d : Kd) (g : Gp) : Prop := (∀ x ∈ g.1, x ∈ d.sk) ∧ (∀ x ∈ g.2, x ∈ d.sk) ∧ g.1.length ≤ 100 ∧ g.2.length ≤ 100
theorem gapR_in {d : Kd} {a b : List Str} {n : Nd} {g : Gp} (h : NodeOk d a b n) (ha : RowOk d a) (hb : RowOk d b) (hg : gapR d n = some g) : gapIn d g := by
  obtain ⟨h1, h2, h3, h4⟩ := gapP_sub hg
  obtain ⟨i1, i2, i3, i4⟩ := h.ndin ha hb
  have l1 := lineOf_len d n.1
  have l2 := lineOf_len d n.2.1
  have := h.one.length_le
  have := h.two.length_le
  have := ha.len
  have := hb.len
  exact ⟨fun x hx => i4 x (lineOf_mem (h1 x hx)), fun x hx => i3 x (lineOf_mem (h2 x hx)), by omega, by omega⟩
theorem gapIn.ok {d : Kd} {g : Gp} (hd : KdOk d) (h : gapIn d g) : okG g := ⟨fun x hx => (hd.good x (h.1 x hx)).ok, fun x hx => (hd.good x (h.2.1 x hx)).ok⟩
theorem due_ok {d : Kd} {n : Nd} {g : Gp} {k : Str} (hd : KdOk d) (hg : gapIn d g) (hk : k ∈ d.sk) : okG (stepP d n g k).2 := by
  have s := strip_sub (g.1 ++ if (readR d.fit n.1 k).1 then [k] else []) (g.2 ++ if (readR d.fit n.2.1 k).1 then [k] else [])
  have hi : ∀ (b : Bool) (x : Str), x ∈ (if b then [k] else []) → x ∈ d.sk := fun b x hx => by
    cases b with
    | true =>
      have e : x = k := by simpa using hx
      rw [e]
      exact hk
    | false => cases hx
  exact ⟨fun x hx => (hd.good x ((List.mem_append.mp (s.1.subset hx)).elim (hg.1 x) (hi _ x))).ok, fun x hx => (hd.good x ((List.mem_append.mp (s.2.subset hx)).elim (hg.2.1 x) (hi _ x))).ok⟩
section
variable {P : Program} {w : World} {K : PySem.W.Frag} {mg : Str → Option Value} {base : Heap}
/-! ### calls told once -/
theorem er_gapOf {σ : L2.St} {H : Hp} {t1 t2 : TE} {E : XK} {S t : Addr} {d : Kd} {n : Nd} (h1 : Ev t1 σ H (.ref S)) (h2 : Ev t2 σ H (.ref t)) (hS : Su K H S d) (hd : KdOk d) (hn : NdAt H t n) (hi : NdIn d n) : EvR (tCall (spGap K) [] E (tCons t1 (tCons t2 tNil))) σ H (ROGap (gapR d n)) :=
  er_callA (ea_cons h1 (ea_cons h2 ea_nil)) (fun H1 e => ⟨S, t, d, n, rfl, hS.ex e, hd, hn.ex e, hi, rfl⟩) bk_ogap
theorem el_nextKinds {σ : L2.St} {H : Hp} {t1 t2 : TE} {E : XK} {S t : Addr} {d : Kd} {n : Nd} (h1 : Ev t1 σ H (.ref S)) (h2 : Ev t2 σ H (.ref t)) (hS : Su K H S d) (hd : d.sk.length ≤ 100) (hn : NdAt H t n) : EvL (tCall (spNextKinds K) [] E (tCons t1 (tCons t2 tNil))) σ H (svs (nextK d n.2.2)) :=
  el_of (er_callA (ea_cons h1 (ea_cons h2 ea_nil)) (fun H1 e => ⟨S, d, t, n, rfl, hS.ex e, hd, hn.ex e, rfl⟩) bk_l)
theorem er_keyOf {σ : L2.St} {H : Hp} {t1 : TE} {E : XK} {t : Addr} {n : Nd} (h1 : Ev t1 σ H (.ref t)) (hn : NdAt H t n) : EvR (tCall spKey [] E (tCons t1 tNil)) σ H (RKey n) :=
  er_callA (ea_cons h1 ea_nil) (fun H1 e => ⟨t, n, rfl, hn.ex e, rfl⟩) bk_key
theorem bk_step {n : Nd} {g : Gp} : Bk (RStep n g) := fun v H1 H2 H3 e ⟨t, u, p, h1, h2, ⟨a, b, c, z0, z1, z2, z3, z4, z5⟩, h4⟩ => ⟨t, u, p, h1, h2, ⟨a, b, c, z0, fresh_back e z1, fresh_back e z2, fresh_back e z3, fresh_back e z4, z5⟩, h4⟩
theorem er_nextNode {σ : L2.St} {H : Hp} {t1 t2 t3 t4 : TE} {E : XK} {S t p : Addr} {d : Kd} {a b : List Str} {n : Nd} {g : Gp} {k : Str} (h1 : Ev t1 σ H (.ref S)) (h2 : Ev t2 σ H (.ref t)) (h3 : Ev t3 σ H (.ref p)) (h4 : Ev t4 σ H (.str k)) (hS : Su K H S d) (hd : KdOk d) (ha : RowOk d a) (hb : RowOk d b) (hn : NdAt H t n) (ho : NodeOk d a b n) (hg : GapAt H p g) (hgi : gapIn d g) (hk : k ∈ d.sk) :
    EvR (tCall (spNextNode K) [] E (tCons t1 (tCons t2 (tCons t3 (tCons t4 tNil))))) σ H (RStep (stepP d n g k).1 (stepP d n g k).2) :=
  er_callA (ea_cons h1 (ea_cons h2 (ea_cons h3 (ea_cons h4 ea_nil)))) (fun H1 e => ⟨S, t, p, d, n, g, k, rfl, hS.ex e, hn.ex e, hg.ex e, (ho.ndin ha hb).1, (ho.ndin ha hb).2.1, by have := ho.len; have := hd.len; omega, (ho.ndin ha hb).2.2.1, (ho.ndin ha hb).2.2.2, hk, by have := hgi.2.2.1; omega, by have := hgi.2.2.2; omega, rfl⟩) bk_step
/-- key in known -/
theorem ev_inN {σ : L2.St} {H : Hp} {ta tb : TE} {n : Nd} {dk : Addr} {ks : List (Nd × Addr)} {neg : Bool} (ha : EvR ta σ H (RKey n)) (hb : Ev tb σ H (.ref dk)) (hk : KnownAt P w H dk ks) : Ev (tOp (rInN P w neg) ta tb) σ H (.bl (if neg then !decide (n ∈ ks.map Prod.fst) else decide (n ∈ ks.map Prod.fst))) := fun H1 e Q q =>
  ha H1 e _ fun v H2 e2 ⟨t, ev, ht⟩ => hb H2 (e.trans e2) _ fun H3 e3 => ⟨t, n, dk, ks, ev, rfl, ht.ex e3, hk.ex ((e.trans e2).trans e3), q H3 (e2.trans e3)⟩
/-! ### leads_well -/
def LeadsOk (d : Kd) (ks : List Nd) (n : Nd) : Prop := ∃ g, gapR d n = some g ∧ ∀ k ∈ nextK d n.2.2, gapR d (stepP d n g k).1 = some (stepP d n g k).2 ∧ (stepP d n g k).1 ∈ ks
def spLeads (P : Program) (w : World) (K : PySem.W.Frag) : Sp := pur fun vs H R => ∃ S t dk d a b n ks, vs = [.ref S, .ref t, .ref dk] ∧ Su K H S d ∧ KdOk d ∧ RowOk d a ∧ RowOk d b ∧ NdAt H t n ∧ NodeOk d a b n ∧ KnownAt P w H dk ks ∧ LeadsOk d (ks.map Prod.fst) n ∧ R = RV (.bl true)
theorem sc_leads_well : FnScope ["suits", "node", "known", "gap", "kind", "later", "due"] ["suits", "node", "known"] (defScope s_leads_well) := C8.fnScope_by (by decide +kernel)
theorem ok_leads_well (T : Tp K mg) (F : FD K d_leads_well) (c_gap_of : C8.Cal P w K mg base 4 "gap_of" (spGap K) []) (c_next_kinds : C8.Cal P w K mg base 2 "next_kinds" (spNextKinds K) []) (c_next_node : C8.Cal P w K mg base 3 "next_node" (spNextNode K) []) (c_key_of : C8.Cal P w K mg base 1 "key_of" spKey []) : C8.Cal P w K mg base 5 "leads_well" (spLeads P w K) [] := by
  refine cal_k F T.g_leads_well sc_leads_well (fun _ _ _ _ _ _ us hl => match us, hl with | [_, _, _], _ => rfl) (fun vs H Q E h => ?_) (fun cdv A outer s H vs Q E hr h => ?_)
  · obtain ⟨R, ⟨S, t, dk, d, a, b, n, ks, rfl, _⟩, _⟩ := h
    rfl
  · obtain ⟨R, ⟨S, t, dk, d, a, b, n, ks, rfl, hS, hd, hA, hB, hn, ho, hkn, ⟨g, hg, hl⟩, rfl⟩, q⟩ := h
    have hgi := gapR_in ho hA hB hg
    have hd8 := hd.len
    refine ⟨_, (pss_cons (ps_set (i := 3) (sc_leads_well).nd rfl (.inl rfl) (C8.pe_c c_gap_of hr (by decide) (by rfl) (pa_cons (pv 0) (pa_cons (pv 1) pa_nil))))
  (pss_cons (ps_if (pt_cmpR op_isN (pv 3) pe_non (nomark _))
  (pss_one (ps_ret pe_bl))
  pss_nil)
  (pss_cons (ps_for PassesOwn.never rfl (k_piList (K := K) rfl (C8.pe_c c_next_kinds hr (by decide) (by rfl) (pa_cons (pv 0) (pa_cons (pv 1) pa_nil)))) (pg_name (i := 4) (sc_leads_well).nd rfl (.inl rfl))
  (pss_cons (ps_asg (C8.pe_c c_next_node hr (by decide) (by rfl) (pa_cons (pv 0) (pa_cons (pv 1) (pa_cons (pv 3) (pa_cons (pv 4) pa_nil))))) (k_pgTup (K := K) rfl rfl (pgs_cons (pg_name (i := 5) (sc_leads_well).nd rfl (.inl rfl)) (pgs_cons (pg_name (i := 6) (sc_leads_well).nd rfl (.inl rfl)) pgs_nil))))
  (pss_one (ps_if (PW.pt (pw_or (pt_cmpR (op_notinN (P := P) (w := w) rfl rfl hr) (C8.pe_c c_key_of hr (by decide) (by rfl) (pa_cons (pv 5) pa_nil)) (pv 2) (by rfl)) (pw_or1 (pt_cmpR (k_neD (K := K) rfl hr) (C8.pe_c c_gap_of hr (by decide) (by rfl) (pa_cons (pv 0) (pa_cons (pv 5) pa_nil))) (pv 6) (nomark _)))))
  (pss_one (ps_ret pe_bl))
  pss_nil))))
  (pss_one (ps_ret pe_bl))))), ?_⟩
    refine q_asgR (er_gapOf (ev_var rfl) (ev_var rfl) hS hd hn (ho.ndin hA hB)) fun v H1 e1 r => ?_
    rw [hg] at r
    obtain ⟨pg, rfl, hpg, _⟩ := r
    refine q_when (b := false) (et_B (ev_op (ev_var rfl) ev_c fun H5 _ Q q => ⟨rfl, q H5 (Ex.refl H5)⟩)) (fun h => nomatch h) fun _ H2 e2 => ?_
    have e12 := e1.trans e2
    refine q_forE (ei_listN (el_nextKinds (ev_var rfl) (ev_var rfl) (hS.ex e12) (by omega) (hn.ex e12))) (fun i σ' H' => ∃ y4 y5 y6, σ' = [some (.ref S), some (.ref t), some (.ref dk), some (.ref pg), y4, y5, y6]) (fun H3 e3 => ⟨_, _, _, rfl⟩) ?_ ?_
    · rintro Hs i x σ' H3 H4 hi e3 e4 ⟨y4, y5, y6, rfl⟩ ⟨rfl, hx⟩
      obtain ⟨k, hk, rfl⟩ : ∃ k ∈ nextK d n.2.2, x = .str k := by
        obtain ⟨k, hk, e⟩ := List.mem_map.mp (List.mem_of_getElem? hx)
        exact ⟨k, hk, e.symm⟩
      have hks := nextK_mem hk
      have e14 := (e12.trans e3).trans e4
      have e24 := (e2.trans e3).trans e4
      obtain ⟨l1, l2⟩ := hl k hk
      refine q_asg2 (T := fun t x y _ H2 => ∃ u p, x = .ref u ∧ y = .ref p ∧ NdAt H2 u (stepP d n g k).1 ∧ GapAt H2 p (stepP d n g k).2) (er_nextNode (ev_var rfl) (ev_var rfl) (ev_var rfl) (ev_var rfl) (hS.ex e14) hd hA hB (hn.ex e14) ho (hpg.ex e24) hgi hks) (fun v H5 e5 ⟨t, u, p, h1, h2, h3, h4⟩ => ⟨t, _, _, h1, st_of h2, u, p, rfl, rfl, h3.at_, h4⟩) ?_
      rintro t1 x1 y1 H5 e5 ⟨u, p, rfl, rfl, hu, hp⟩
      have e15 := e14.trans e5
      have ho' := ho.step (g := g) hks
      refine s_when (b := false) (et_is (et_or (a := false) (b := false) (et_B (ev_is (ev_inN (er_keyOf (ev_var rfl) hu) (ev_var rfl) (hkn.ex e15)) (by rw [decide_eq_true l2]; rfl))) fun _ => et_is (et_neG (er_gapOf (ev_var rfl) (ev_var rfl) (hS.ex e15) hd hu (ho'.ndin hA hB)) (fun _ _ _ r => r) (er_v (ev_var rfl)) (fun x Ha Hb ea eb r => ⟨p, r, hp.ex (ea.trans eb)⟩) (fun x hx => (gapR_in ho' hA hB hx).ok hd) (due_ok hd hgi hks)) (by rw [l1, decide_eq_true rfl]; rfl)) rfl) (fun h => nomatch h) fun _ H6 e6 => ⟨(e4.trans e5).trans e6, _, _, _, rfl⟩
    · rintro σ' H3 e3 ⟨y4, y5, y6, rfl⟩
      exact s_ret ev_c fun H4 e4 => q _ H4 ((e12.trans e3).trans e4) rfl
/-! ### is_table -/
/-- the table of the rows a, b -/
structure TabOk (d : Kd) (a b : List Str) (ns : List Nd) : Prop where
  nd : ns.Nodup
  st : (a, b, []) ∈ ns
  gap : gapR d (a, b, []) = some ([], [])
  good : ∀ n ∈ ns, NodeOk d a b n
  leads : ∀ n ∈ ns, LeadsOk d ns n
  len : ns.length ≤ 1000
def spTable (K : PySem.W.Frag) : Sp := pur fun vs H R => ∃ (S p r l : Addr) (d : Kd) (a b : List Str) (ns : List Nd) (ts : List Addr), vs = [.ref S, .ref p, .ref r, .ref l] ∧ Su K H S d ∧ KdOk d ∧ RowOk d a ∧ RowOk d b ∧ H p = some (.lst (svs a)) ∧ H r = some (.lst (svs b)) ∧ H l = some (.lst (rvs ts)) ∧ Paired (NdAt H) ts ns ∧ TabOk d a b ns ∧ R = RV (.bl true)
theorem paired_at {α β : Type} {F : α → β → Prop} : ∀ {as : List α} {bs : List β}, Paired F as bs → ∀ {i : Nat} {a : α}, as[i]? = some a → ∃ b, bs[i]? = some b ∧ F a b
  | _, _, .nil, _, _, h => by simp at h
  | _, _, .cons r t, 0, _, h => by
    rw [List.getElem?_cons_zero] at h
    cases h
    exact ⟨_, rfl, r⟩
  | _, _, .cons r t, i + 1, _, h => by
    rw [List.getElem?_cons_succ] at h
    obtain ⟨b, h1, h2⟩ := paired_at t h
    exact ⟨b, by rw [List.getElem?_cons_succ]; exact h1, h2⟩
theorem paired_nx {H H' : Hp} {ts : List Addr} {ns : List Nd} (h : Paired (NdAt H) ts ns) (e : Ex H H') : Paired (NdAt H') ts ns := Paired.mapP h fun _ _ x => x.ex e
theorem ev_lenN' {σ : L2.St} {H : Hp} {ta : TE} {dk : Addr} {ks : List (Nd × Addr)} (h : Ev ta σ H (.ref dk)) (hk : KnownAt P w H dk ks) : Ev (tCB (rLenN P w) (tCons ta tNil)) σ H (.int (ks.length : Int)) :=
  ev_cb (ea_cons h ea_nil) fun H1 e Q q => ⟨dk, ks, rfl, hk.ex e, q H1 (Ex.refl H1)⟩
/-- what known is, made over a list of nodes -/
def RKnown (P : Program) (w : World) (ns : List Nd) : Rel := fun v H1 H2 => ∃ dk ks, v = .ref dk ∧ H1 dk = none ∧ KnownAt P w H2 dk ks ∧ ks.map Prod.fst = ns
theorem bk_known {ns : List Nd} : Bk (RKnown P w ns) := fun v H1 H2 H3 e ⟨dk, ks, h1, h2, h3, h4⟩ => ⟨dk, ks, h1, fresh_back e h2, h3, h4⟩
theorem er_known {σ : L2.St} {H : Hp} {wi : TI} {tk : TE} {vs : List Nat} {j : Nat} {ts : List Addr} {ns : List Nd} (hI : EvI wi σ H (rvs ts).length (YAt (rvs ts))) (hp : Paired (NdAt H) ts ns) (hnd : ns.Nodup) (hz : ns.length ≤ 1000) (hw : ∀ x, wipe ((wipe σ vs).set j (some x)) vs = wipe σ vs)
    (hk : ∀ t n H1, Ex H H1 → NdAt H1 t n → EvR tk ((wipe σ vs).set j (some (.ref t))) H1 (RKey n)) : EvR (tDcG (fun D => DN P w D []) (StoN P w) wi (gName j) tYes tk (tC (.bl true)) vs) σ H (RKnown P w ns) := fun H0 e0 Q q => hI H0 e0 _ fun J G H1 e1 wk hg hgm D hD => by
  have hlen : ts.length = ns.length := Paired.length hp
  have hl2 : (rvs ts).length = ts.length := List.length_map ..
  let Pv : Nat → Hp → Prop := fun i H' => Ex H1 H' ∧ ∃ ks : List (Nd × Addr), ks.map Prod.fst = ns.take i ∧ KnownAt P w H' D ks
  refine ⟨fun i m H => m = (rvs ts).length - i ∧ i ≤ (rvs ts).length ∧ Pv i H, ⟨(rvs ts).length, by simp, Nat.zero_le _, Ex.new hD, [], rfl, upd_same, (fun p hp => nomatch hp)⟩, ?_⟩
  rintro i m H' ⟨rfl, hi, e2, ks, hks, hkn⟩
  have hgi := hgm _ _ e2 hg
  by_cases hlt : i < (rvs ts).length
  · refine .inr ⟨wk.goes i H' hlt hgi, Pv (i + 1), fun H'' p' => ⟨(rvs ts).length - (i + 1), by omega, rfl, hlt, p'⟩, fun x H2 y => ?_⟩
    obtain ⟨rfl, hx⟩ := wk.yields i H' x H2 hlt hgi y
    rw [List.getElem?_map] at hx
    cases ht : ts[i]? with
    | none =>
      rw [ht] at hx
      cases hx
    | some t =>
      rw [ht] at hx
      cases hx
      obtain ⟨n, hn, hnt⟩ := paired_at hp ht
      refine ⟨hw _, fun_yes ?_⟩
      have e02 := (e0.trans e1).trans e2
      refine hk t n H2 e02 (hnt.ex e02) H2 (Ex.refl H2) _ fun v H3 e3 ⟨kt, ev, hkt⟩ => ?_
      subst ev
      have hnot : n ∉ ks.map Prod.fst := by
        rw [hks]
        intro hm
        obtain ⟨a, ha, ea⟩ := List.getElem_of_mem hm
        rw [List.getElem_take] at ea
        obtain ⟨h1a, h1b⟩ := List.getElem?_eq_some_iff.mp hn
        have ha' : a < i := by rw [List.length_take] at ha; omega
        have := nd_inj hnd _ h1a (ea.trans h1b.symm)
        omega
      have klen : ks.length ≤ 1000 := by
        have := congrArg List.length hks
        rw [List.length_map, List.length_take] at this
        omega
      have hkn3 := hkn.ex e3
      refine ⟨kt, n, ks, rfl, rfl, hkt, hkn3, hnot, sz_lt (by omega), Ex.mut (e2.trans e3) hD, ks ++ [(n, kt)], ?_, KnownAt.put hkt hkn3⟩
      rw [List.map_append, hks, List.take_add_one, hn]
      rfl
  · have ei : i = (rvs ts).length := by omega
    subst ei
    rw [List.take_of_length_le (by omega)] at hks
    exact .inl ⟨wk.stops H' hgi, q _ H' (e1.trans e2) ⟨D, ks, rfl, fresh_back e1 hD, hkn, hks⟩⟩
theorem sc_is_table : FnScope ["suits", "one", "other", "thing", "node", "known", "start"] ["suits", "one", "other", "thing"] (defScope s_is_table) := C8.fnScope_by (by decide +kernel)
theorem ok_is_table (T : Tp K mg) (F : FD K d_is_table) (c_is_node : C8.Cal P w K mg base 4 "is_node" (spIsNode K) []) (c_key_of : C8.Cal P w K mg base 1 "key_of" spKey []) (c_gap_of : C8.Cal P w K mg base 4 "gap_of" (spGap K) []) (c_leads_well : C8.Cal P w K mg base 5 "leads_well" (spLeads P w K) []) : C8.Cal P w K mg base 6 "is_table" (spTable K) [] := by
  refine cal_k F T.g_is_table sc_is_table (fun _ _ _ _ _ _ us hl => match us, hl with | [_, _, _, _], _ => rfl) (fun vs H Q E h => ?_) (fun cdv A outer s H vs Q E hr h => ?_)
  · obtain ⟨R, ⟨S, p, r, l, d, a, b, ns, ts, rfl, _⟩, _⟩ := h
    rfl
  · obtain ⟨R, ⟨S, p, r, l, d, a, b, ns, ts, rfl, hS, hd, hA, hB, hp, hr', hl, hpn, hT, rfl⟩, q⟩ := h
    have hlen : ts.length = ns.length := Paired.length hpn
    have hz := hT.len
    have hmem : ∀ t ∈ ts, ∃ n ∈ ns, NdAt H t n := fun t ht => by
      obtain ⟨i, hi, e⟩ := List.getElem_of_mem ht
      obtain ⟨n, h1, h2⟩ := paired_at hpn (show ts[i]? = some t by rw [List.getElem?_eq_getElem hi, e])
      exact ⟨n, List.mem_of_getElem? h1, h2⟩
    refine ⟨_, (pss_cons (ps_if (PW.pt (pw_or (pt_not (pt_val (pe_callB (k_isi (K := K) rfl) (by rfl) T.f_isinstance boot_isinstance (pa_cons (pv 3) (pa_cons (pe_bltn (by rfl) T.f_list (by decide +kernel) (v := .ty "list") rfl) pa_nil))))) (pw_or1 (pt_not (pt_val (pe_callB (k_all (K := K) rfl rfl) (by rfl) T.f_all boot_all (pa_cons (pe_lc (own := [("node", 4)]) (g := (gName 4)) (by rfl) (sc_is_table).nd (k_piList (K := K) rfl (pv 3)) (blkOk_by (own := [("node", 4)]) (N := ["suits", "one", "other", "thing", "node", "known", "start"]) (sc := defScope s_is_table) (by decide +kernel)) (fun _ _ _ _ _ => (pg_name (i := 4) (sc_is_table).nd rfl (by first | exact .inl rfl | exact .inr rfl))) (fun _ _ _ _ _ => pts_nil) (fun _ _ _ _ _ => (C8.pe_c c_is_node hr (by decide) (by rfl) (pa_cons (pv 0) (pa_cons (pv 1) (pa_cons (pv 2) (pa_cons (pv 4) pa_nil))))))) pa_nil)))))))
  (pss_one (ps_ret pe_bl))
  pss_nil)
  (pss_cons (ps_set (i := 5) (sc_is_table).nd rfl (.inr rfl) (pe_dcg (stoN_room (P := P) (w := w) rfl rfl hr) (own := [("node", 4)]) (g := (gName 4)) (by rfl) (sc_is_table).nd (k_piList (K := K) rfl (pv 3)) (blkOk_by (own := [("node", 4)]) (N := ["suits", "one", "other", "thing", "node", "known", "start"]) (sc := defScope s_is_table) (by decide +kernel)) (fun _ _ _ _ _ => (pg_name (i := 4) (sc_is_table).nd rfl (by first | exact .inl rfl | exact .inr rfl))) (fun _ _ _ _ _ => pts_nil) (fun _ _ _ _ _ => (C8.pe_c c_key_of hr (by decide) (by rfl) (pa_cons (pv 4) pa_nil))) (fun _ _ _ _ _ => pe_bl)))
  (pss_cons (ps_set (i := 6) (sc_is_table).nd rfl (.inl rfl) (pe_tup (pa_cons (pe_callTy (k_list (K := K) rfl) (by rfl) T.f_list PyProof.Rows.boot_list (pa_cons (pv 1) pa_nil)) (pa_cons (pe_callTy (k_list (K := K) rfl) (by rfl) T.f_list PyProof.Rows.boot_list (pa_cons (pv 2) pa_nil)) (pa_cons (pe_lst pa_nil) pa_nil)))))
  (pss_cons (ps_if (PW.pt (pw_or (pt_cmpR op_ne (pe_callB (call_lenN (P := P) (w := w) rfl rfl) (by rfl) T.f_len PySem.boot_len (pa_cons (pv 5) pa_nil)) (pe_callB (k_len (K := K) rfl) (by rfl) T.f_len PySem.boot_len (pa_cons (pv 3) pa_nil)) (nomark _)) (pw_or (pt_cmpR (op_notinN (P := P) (w := w) rfl rfl hr) (C8.pe_c c_key_of hr (by decide) (by rfl) (pa_cons (pv 6) pa_nil)) (pv 5) (by rfl)) (pw_or1 (pt_cmpR (k_neD (K := K) rfl hr) (C8.pe_c c_gap_of hr (by decide) (by rfl) (pa_cons (pv 0) (pa_cons (pv 6) pa_nil))) (pe_tup (pa_cons (pe_lst pa_nil) (pa_cons (pe_lst pa_nil) pa_nil))) (nomark _))))))
  (pss_one (ps_ret pe_bl))
  pss_nil)
  (pss_one (ps_ret (pe_callB (k_all (K := K) rfl rfl) (by rfl) T.f_all boot_all (pa_cons (pe_lc (own := [("node", 4)]) (g := (gName 4)) (by rfl) (sc_is_table).nd (k_piList (K := K) rfl (pv 3)) (blkOk_by (own := [("node", 4)]) (N := ["suits", "one", "other", "thing", "node", "known", "start"]) (sc := defScope s_is_table) (by decide +kernel)) (fun _ _ _ _ _ => (pg_name (i := 4) (sc_is_table).nd rfl (by first | exact .inl rfl | exact .inr rfl))) (fun _ _ _ _ _ => pts_nil) (fun _ _ _ _ _ => (C8.pe_c c_leads_well hr (by decide) (by rfl) (pa_cons (pv 0) (pa_cons (pv 4) (pa_cons (pv 5) pa_nil)))))) pa_nil)))))))), ?_⟩
    refine q_when (b := false) (et_is (et_or (a := false) (b := false) (et_is (et_not (et_test (ev_isi (b := true) (ev_var rfl) (fun _ e => tyx_lst (e _ _ hl)) (by decide +kernel)))) rfl) fun _ => et_is (et_not (a := true) (et_test (ev_is (ev_all (ys := ts) (g := fun _ => true) (el_compN (α := Addr) V.ref (ei_list (ev_var rfl) (SqL.of hl)) rfl (by omega) (fun _ => true) _ (fun _ => rfl) (fun _ _ _ _ => et_yes) fun t ht _ H2 e2 => ?_)) (by simp)))) rfl) rfl) (fun h => nomatch h) fun _ H1 e1 => ?_
    · obtain ⟨n, hn, hnt⟩ := hmem t ht
      exact ev_of (er_callA (ea_cons (ev_var rfl) (ea_cons (ev_var rfl) (ea_cons (ev_var rfl) (ea_cons (ev_var rfl) ea_nil)))) (fun H3 e3 => ⟨S, p, r, t, d, a, b, n, rfl, hS.ex (e2.trans e3), hd, hA, hB, (e2.trans e3) _ _ hp, (e2.trans e3) _ _ hr', hnt.ex (e2.trans e3), hT.good n hn, rfl⟩) bk_v)
    refine q_asgR (er_known (ei_list (ev_var rfl) (SqL.of (e1 _ _ hl))) (paired_nx hpn e1) hT.nd hz (fun _ => rfl) fun t n H2 e2 hn => er_keyOf (ev_var rfl) hn) fun v H2 e2 ⟨dk, ks, ev, hdk, hkn, hks⟩ => ?_
    subst ev
    have e12 := e1.trans e2
    have kl : ks.length = ns.length := by rw [← hks, List.length_map]
    refine q_asgR (er_tup3 (er_l (el_list (ev_var rfl) (SqL.of (e12 _ _ hp)))) (er_l (el_list (ev_var rfl) (SqL.of (e12 _ _ hr')))) (er_l (el_lst ea_nil (by simp)))) fun v H3 e3 ⟨t, x, y, z, Ha, Hb, Hc, ev, ea, eb, ec, ed, ⟨p1, ex1, _, h1⟩, ⟨p2, ex2, _, h2⟩, ⟨p3, ex3, _, h3⟩, _, ht⟩ => ?_
    subst ev
    subst ex1
    subst ex2
    subst ex3
    have hst : NdAt H3 t (a, b, []) := ⟨p1, p2, p3, ht, ed _ _ (ec _ _ (eb _ _ h1)), ed _ _ (ec _ _ h2), ed _ _ h3⟩
    have e13 := e12.trans e3
    have hkn3 := hkn.ex e3
    have hso := hT.good _ hT.st
    refine q_when (b := false) (et_is (et_or (a := false) (b := false) (et_is (et_B (ev_op (ev_lenN' (ev_var rfl) hkn3) (ev_len (ev_var rfl) (SqL.of (e13 _ _ hl))) (rv_ne rfl))) (by rw [List.length_map, hlen, kl]; simp)) fun _ => et_is (et_or (a := false) (b := false) (et_B (ev_is (ev_inN (er_keyOf (ev_var rfl) hst) (ev_var rfl) hkn3) (by rw [hks, decide_eq_true hT.st]; rfl))) fun _ => et_is (et_neG (due := ([], [])) (er_gapOf (ev_var rfl) (ev_var rfl) (hS.ex e13) hd hst (hso.ndin hA hB)) (fun _ _ _ r => r) (er_gap (xs := []) (ys := []) (el_lst ea_nil (by simp)) (el_lst ea_nil (by simp))) (fun x Ha Hb ea eb r => r) (fun x hx => (gapR_in hso hA hB hx).ok hd) ⟨(fun x hx => nomatch hx), fun x hx => nomatch hx⟩) (by rw [hT.gap, decide_eq_true rfl]; rfl)) rfl) rfl) (fun h => nomatch h) fun _ H4 e4 => ?_
    have e14 := e13.trans e4
    refine s_ret (ev_is (ev_all (ys := ts) (g := fun _ => true) (el_compN (α := Addr) V.ref (ei_list (ev_var rfl) (SqL.of (e14 _ _ hl))) rfl (by omega) (fun _ => true) _ (fun _ => rfl) (fun _ _ _ _ => et_yes) fun t ht _ H5 e5 => ?_)) (by simp)) fun H5 e5 => q _ H5 (e14.trans e5) rfl
    obtain ⟨n, hn, hnt⟩ := hmem t ht
    exact ev_of (er_callA (ea_cons (ev_var rfl) (ea_cons (ev_var rfl) (ea_cons (ev_var rfl) ea_nil))) (fun H6 e6 => ⟨S, t, dk, d, a, b, n, ks, rfl, hS.ex ((e14.trans e5).trans e6), hd, hA, hB, hnt.ex ((e14.trans e5).trans e6), hT.good n hn, hkn3.ex ((e4.trans e5).trans e6), by rw [hks]; exact hT.leads n hn, rfl⟩) bk_v)
end
end K64
set_option Elab.async false
set_option linter.all false
set_option maxRecDepth 100000
set_option maxHeartbeats 4000000
/-! TooMany's __init__: super().__init__(text), then a field. -/
namespace K64
open PySem PySem.Spec PyProof.Rows L2 Evl
def spTM (C : Addr) : Sp := fun vs H Q _ => ∃ (a : Addr) (n : Int), vs = [.ref a, .int n] ∧ H a = some (exo a C none) ∧ ∀ dx, H dx = none → dx ≠ a → Q .non (upd (upd H dx (exd dx [("limit", .int n)])) a (exo a C (some dx)))
theorem sc_super : (defScope s_TM_init).names.lookup ("super" : Str) = some .globalImplicit := by decide +kernel
theorem sc_cls : (defScope s_TM_init).names.lookup ("__class__" : Str) = some .free := by decide +kernel
theorem sc_self : (defScope s_TM_init).names.lookup ("self" : Str) = some .local := by decide +kernel
theorem sc_limit : (defScope s_TM_init).names.lookup ("limit" : Str) = some .local := by decide +kernel
theorem sc_nocell : ∀ x ∈ (defScope s_TM_init).names, x.2 ≠ .cell := by decide +kernel
theorem sc_kind : (defScope s_TM_init).kind = .function := by decide +kernel
section
variable {P : Program} {w : World} {K : PySem.W.Frag} {mg : Str → Option Value} {base : Heap} {CX : CXT} {C fI : Addr}
theorem ok_tm (D : TmD P K C fI) (hs : mg "super" = none) : ∃ fd, FnOk P w K mg base CX 1 fI fd ["self", "limit"] (spTM C) ∧ Binds K fd ["self", "limit"] [] := by
  obtain ⟨oc, od, kV, doc, pm, an, cda, ct, cc, osl, ccl, cdd, vs, ccs, file, tf, cl, cld, csl, lf, hcd, lc, hvs, hfile, lcc⟩ := D.fn
  refine ⟨PySem.W.ksFn "__init__" "TooMany.__init__" (defArgs s_TM_init) (defBody s_TM_init) (defScope s_TM_init) .none kV doc pm an (.ref cda) ct cc, ⟨fun vs H Q E h => ?_, fun A outer s H args us vs' Q E hr e0 hb r hsp => ?_⟩, Binds.all fun us hl => match us, hl with | [_, _], _ => rfl⟩
  · obtain ⟨a, n, rfl, _⟩ := h
    rfl
  obtain ⟨a, n, rfl, ha, q⟩ := hsp
  obtain ⟨u1, u2, rfl, r1, r2⟩ := vals2 r
  obtain rfl : u1 = Value.ref a := r1
  obtain ⟨tn, rfl⟩ := r2
  have KX : K.In s.heap := e0.mod.kin.keeps fun b o e => (e0.bs b o e).1
  have bk : ∀ b o, base.get? b = some o → s.heap.get? b = some o := fun b o e => (e0.bs b o e).1
  have lim : s.heap.NoLimit := e0.mod.nolimit.keeps bk
  obtain ⟨nm, qn, N, bs, bm, sn, sub, ab, col, dd, k0, k1, k2, k3, k5, hC, hbm⟩ := D.oex.cls
  have hcl : PySem.W.clsIn K C = some { name := nm, bases := bs, mro := .ref C :: bm, ns := N, qualname := qn, hasDict := true, slotNames := sn, subclasses := sub, abstract := ab, collection := col, hasDel := false } := by unfold PySem.W.clsIn; rw [hC] <;> rfl
  obtain ⟨t1, hea⟩ := exo_at e0.hok ha
  refine PySem.ks_codeAny_call_defAt (body := defBody s_TM_init) hr.depth (KX _ _ lf) rfl lim (PySem.W.codeRec_of KX hcd) rfl hb sc_nocell ?_ fun h0 ns0 k0' => ?_
  · intro x hx
    have hx' : x ∈ [(("self" : Str), Value.ref a), ("limit", .int n tn)] := hx
    rcases List.mem_cons.mp hx' with e | e
    · rw [e]
      exact sc_self
    · have e' : x = (("limit" : Str), Value.int n tn) := by simpa using e
      rw [e']
      exact sc_limit
  have K0 : K.In h0 := fun b o e => k0' _ _ (KX b o e)
  have B0 : ∀ b o, base.get? b = some o → h0.get? b = some o := fun b o e => k0' _ _ (bk b o e)
  have hea0 := k0' _ _ hea
  obtain ⟨mb, hb1, hb2⟩ := e0.mod.blt
  have aC : a ≠ C := fun z => by
    have := KX _ _ hC
    rw [← z, hea] at this
    cases this
  refine ks_wpAt_execs_cons (ks_wpAt_Expr_any (ks_wpAt_MethodCall ?_))
  generalize hen : callEnv (PySem.W.ksFn "__init__" "TooMany.__init__" (defArgs s_TM_init) (defBody s_TM_init) (defScope s_TM_init) .none kV doc pm an (.ref cda) ct cc) s.heap.objs.size fI = env
  have e_scope : env.scope = defScope s_TM_init := by rw [← hen]; rfl
  have e_kind : env.scope.kind = .function := by rw [e_scope]; exact sc_kind
  have e_k : ∀ x, env.kindOf x = (defScope s_TM_init).names.lookup x := fun x => by rw [← hen]; rfl
  have e_func : env.func = some fI := by rw [← hen]; rfl
  have e_code : env.code = .ref cda := by rw [← hen]; rfl
  have e_glob : env.globals = mainGlobals := by rw [← hen]; rfl
  have e_blt : env.builtins = builtinsNs := by rw [← hen]; rfl
  have e_cells : env.cells.lookup ("__class__" : Str) = some cc := by rw [← hen]; rfl
  have e_loc : env.locals = s.heap.objs.size := by rw [← hen]; rfl
  refine ks_wpAt_super_base (by rw [e_k]; exact sc_super) (by rw [e_k]; exact sc_cls) (by decide +kernel) e_func (K0 _ _ lf) rfl (ar := (defArgs s_TM_init).args.head!) (by rfl) e_code (K0 _ _ lc) rfl hvs hfile D.htop ?_
  refine PySem.W.ks_loadName_global e_kind (by rw [e_k]; exact sc_super) (Calls.loadGlobal_builtin (by rw [e_glob]; exact e0.mod.glob.keeps B0) hs (by rw [e_blt]; exact hb1.keeps B0) ((hb2 _ (by decide)).trans (by rfl)) ⟨rfl, ?_⟩)
  refine wpAny_loadName_free e_kind (by rw [e_k]; exact sc_cls) e_cells ⟨_, K0 _ _ lcc, rfl⟩ ?_
  refine wpAny_loadName_local (name := ("self" : Str)) e_kind (by rw [e_k]; exact sc_self) (by rw [e_loc]; exact ns0) (v := .ref a) (by rfl) ?_
  refine ks_wpAny_isType_cls (K0 _ _ hC) rfl ⟨rfl, ?_⟩
  refine ks_wpAny_call_super (K0 _ _ hC) rfl hea0 rfl (fun c e => nomatch e) (PySem.W.looks_mroIn K0 D.self) (fun h1 e1 k1 => ?_)
  have K1 : K.In h1 := fun b o e => k1 _ _ (K0 b o e)
  have hea1 := k1 _ _ hea0
  have I1 : PySem.W.InstAt h1 a ({ cls := .ref C, dict := none, data := .fields #[.ref t1, .none, .none, .none, .bool false, .none] } : Obj) C none := ⟨hea1, rfl, rfl, trivial⟩
  have hsup := D.sup
  unfold PySem.W.ks_superIn at hsup
  rw [hcl] at hsup
  refine PySem.W.kxs_getMethod PySem.W.kxs_ValueError e1 (PySem.W.looks_opaque K1 D.opq) (l₀ := .ref C :: bm) (fun A Q E s k q => wpAny_bind ((PySem.W.looks_clsIn K1 hcl) A _ E s k (wpAny_pure q))) rfl K1 hsup (I1.type.andThen (PySem.W.looks_subIn K1 D.isV)) aC (by decide +kernel) ?_
  have hu2 : (h1.push (PySem.W.kxs_mw "ValueError.__init__" a)).get? h1.objs.size = some (PySem.W.kxs_mw "ValueError.__init__" a) := Heap.get?_push_at rfl rfl
  have k2 : ∀ b o, h1.get? b = some o → (h1.push (PySem.W.kxs_mw "ValueError.__init__" a)).get? b = some o := fun b o e => Heap.get?_push_of_some _ e
  have hea2 := k2 _ _ hea1
  have hC2 := k2 _ _ (K1 _ _ hC)
  generalize hh2 : h1.push (PySem.W.kxs_mw "ValueError.__init__" a) = h2 at hu2 k2 hea2 hC2 ⊢
  generalize hud : h1.objs.size = u at hu2 ⊢
  refine PySem.W.kxs_callWith (i := "ValueError.__init__") (x := a) (by rfl) ?_
  refine Calls.evalArgs_plain (Calls.spliced_cons (Calls.Constant_str (k := 0) (pos := ⟨0, 0, 0, 0⟩) (Calls.spliced_nil ⟨hu2, ?_⟩)))
  refine wpAny_call (codeAny_of_tree ?_)
  show wpAny _ _ (callAny (.ref u) ⟨_, []⟩) _ _ _
  simp only [callAny]
  refine wpAny_bind (wpAny_load hu2 ?_)
  simp only [PySem.W.kxs_mw, show (Value.type "method-wrapper" == Value.type "method" || Value.type "method-wrapper" == Value.type "builtin_function_or_method" || Value.type "method-wrapper" == Value.type "method-wrapper") = true by decide, if_true]
  refine PySem.W.KFB.if_so (by decide) ?_
  refine wpAny_bind (PySem.W.check_bound_init F.excBase_ValueError.toExcCallFacts hC2 hea2 rfl ?_)
  refine wpAny_bind (wpAny_pure (wpAny_pure ?_))
  refine ⟨plainId_quiet F.excBase_ValueError.init.plain _, codeAny_builtin F.excBase_ValueError.initEntry ?_⟩
  refine PySem.W.exc_init_tree (cls := .ref C) (t0 := t1) (dv := none) (c2 := .none) (c3 := .none) (b4 := .bool false) hea2 (by show 1 ≤ sizeLine; rw [sizeLine_eq]; omega) fun h3 k3 hea3 ht3 => ?_
  have K3 : K.In h3 := fun b o e => by
    have hb : b ≠ a := fun hb => by
      have n1 := (e0.bs b o (e0.mod.kin b o e)).2
      rw [hb, ha] at n1
      cases n1
    exact k3 b o hb (k2 _ _ (K1 b o e))
  have ns3 : h3.Ns s.heap.objs.size (fun x => ([("self" : Str), ("limit" : Str)].zip [Value.ref a, Value.int n tn]).reverse.lookup x) := by
    refine ((ns0.keeps k1).keeps k2).at fun o e => k3 _ _ (fun z => ?_) e
    exact absurd (Heap.lt_size hea) (by rw [z]; exact Nat.lt_irrefl _)
  dsimp only
  refine ks_wpAt_execs_cons (ks_wpAt_Assign_Attr (wpAt_of_wpAny ?_))
  refine wpAny_Name (wpAny_loadName_local (name := ("limit" : Str)) e_kind (by rw [e_k]; exact sc_limit) (by rw [e_loc]; exact ns3) (v := .int n tn) (by rfl) ?_) (by decide)
  refine wpAny_Name (wpAny_loadName_local (name := ("self" : Str)) e_kind (by rw [e_k]; exact sc_self) (by rw [e_loc]; exact ns3) (v := .ref a) (by rfl) ?_) (by decide)
  refine PySem.W.set_plain K3 (ox := { cls := .ref C, dict := none, data := .fields #[.ref h2.objs.size, .none, .none, .none, .bool false, .none] }) (od := none) ⟨hea3, rfl, rfl, trivial⟩ D.oex.sa ?_
  refine PySem.HandSPX.exc_osa K3 hea3 hcl (show PySem.HandSPX.refsVE (.ref C :: bm) = true from hbm) rfl D.nolim (fun h4 tk4 dx k4 dn dne hx hn => ?_)
  dsimp only
  have k4 : ∀ b o, b ≠ a → h3.get? b = some o → h4.get? b = some o := k4
  have dn : h3.objs.size ≤ dx := dn
  have up3 : ∀ b o, b ≠ a → s.heap.get? b = some o → h3.get? b = some o := fun b o hb e => k3 b o hb (k2 _ _ (k1 _ _ (k0' _ _ e)))
  have up : ∀ b o, b ≠ a → s.heap.get? b = some o → h4.get? b = some o := fun b o hb e => k4 b o hb (up3 b o hb e)
  have nd : ∀ {b : Addr} {o : Obj}, s.heap.get? b = some o → b ≠ dx := fun {b o} e z => by
    by_cases hb : b = a
    · exact dne (z.symm.trans hb)
    · have l1 := Heap.lt_size (up3 b o hb e)
      rw [z] at l1
      exact absurd (Nat.lt_of_lt_of_le l1 dn) (Nat.lt_irrefl _)
  have hnd : H dx = none := by
    cases q : H dx with
    | none => rfl
    | some u =>
      obtain ⟨o, e⟩ := objOk_get (e0.hok dx u q)
      exact absurd rfl (nd e)
  have na : ∀ {b : Addr}, H b = none → b ≠ a := fun {b} n z => by
    rw [z, ha] at n
    cases n
  refine wpAt_of_wpAny (wpAny_execs_nil ?_)
  refine ⟨.non, _, rfl, e0.bare, ?_, ?_, rfl, q dx hnd dne⟩
  · exact {
      keep := fun b o q n _ _ => up b o (na n) q
      slot := fun b o q n _ _ => ⟨o.slots, up b o (na n) q⟩
      free := fun b o q n _ => by rw [upd_ne (na n), upd_ne (nd q)]; exact n
      there := fun b o q _ => by
        by_cases hb : b = a
        · exact ⟨_, by rw [hb]; exact hx⟩
        · exact ⟨o, up b o hb q⟩
      tups := fun b xs q => by rw [upd_ne (at_ne ha q exo_tup), upd_ne (ne_of_none q hnd)]; exact q
      frzs := fun b o v q => by rw [upd_ne (at_ne ha q exo_frz), upd_ne (ne_of_none q hnd)]; exact q
      tbls := fun b ps q => ⟨#[], by rw [upd_ne (at_ne ha q exo_tbl), upd_ne (ne_of_none q hnd), q]; simp⟩ }
  · intro b o q
    by_cases hb : b = a
    · subst hb
      rw [upd_same] at q
      cases q
      exact exo_ok hx
    · rw [upd_ne hb] at q
      by_cases hd : b = dx
      · subst hd
        rw [upd_same] at q
        cases q
        exact exd_ok hn (relO_put (fs := []) (show RelV (.int n) (.int n tn) from ⟨tn, rfl⟩) fun g => True.intro)
      · rw [upd_ne hd] at q
        refine (e0.hok b o q).stay (fun c v hc z => up c v ?_ z) (fun c hc => by rw [upd_ne (at_ne ha hc exo_own), upd_ne (ne_of_none hc hnd)]; exact hc) (fun c xs hc => by rw [upd_ne (at_ne ha hc exo_tup), upd_ne (ne_of_none hc hnd)]; exact hc)
        rcases hc with hc | hc
        · rw [hc]
          exact hb
        · exact at_ne ha hc exo_own
end
end K64
set_option Elab.async false
set_option linter.all false
set_option maxRecDepth 100000
set_option maxHeartbeats 8000000
/-! compare. -/
namespace K64
open PySem PySem.Spec PyProof.Rows L2 Evl
/-! ### the mirror -/
section
variable {ν γ κ : Type} [DecidableEq ν] [DecidableEq γ] {gap : ν → Option γ} {leads : ν → γ → List (κ × ν × γ)} {limit : Nat}
theorem outer_end {f : Nat} {ns : List ν} {ls : List (List κ)} {at_ : Nat} (h : ns.length ≤ at_) : outer gap leads limit f ns ls at_ = .alike ns := by
  cases f with
  | zero => rfl
  | succ f =>
    unfold outer
    rw [List.getElem?_eq_none_iff.mpr h]
theorem outer_go {f : Nat} {ns : List ν} {ls : List (List κ)} {at_ : Nat} {n : ν} {line : List κ} {g : γ} (h1 : ns[at_]? = some n) (h2 : ls[at_]? = some line) (hg : gap n = some g) :
    outer gap leads limit (f + 1) ns ls at_ = match inner gap limit line (leads n g) ns ls with
      | .go ns' ls' => outer gap leads limit f ns' ls' (at_ + 1)
      | .apart l => .apart l
      | .many => .many := by
  conv => lhs; unfold outer
  rw [h1, h2]
  simp only [turnAt, hg] <;> (cases inner gap limit line (leads n g) ns ls <;> rfl)
end
def leadsR (d : Kd) (n : Nd) (g : Gp) : List (Str × Nd × Gp) := (nextK d n.2.2).map fun k => (k, stepP d n g k)
def searchR (d : Kd) (a b : List Str) (lim : Nat) : Rs Nd Str := if gapR d (a, b, []) = some ([], []) then outer (gapR d) (leadsR d) lim (lim + 1) [(a, b, [])] [[]] 0 else .apart []
/-! ### nodes that are new -/
abbrev Qd := Addr × Addr × Addr × Addr
abbrev cellsOf (qs : List Qd) : List Addr := qs.flatMap fun q => [q.2.1, q.2.2.1, q.2.2.2]
structure NodesAt (H0 G : Hp) (qs : List Qd) (ns : List Nd) : Prop where
  each : Paired (fun (q : Qd) n => NdA G q.1 q.2.1 q.2.2.1 q.2.2.2 n) qs ns
  new : ∀ q ∈ qs, H0 q.1 = none ∧ H0 q.2.1 = none ∧ H0 q.2.2.1 = none ∧ H0 q.2.2.2 = none
  nd : (cellsOf qs).Nodup
theorem NodesAt.ex {H0 G G' : Hp} {qs : List Qd} {ns : List Nd} (h : NodesAt H0 G qs ns) (e : Ex G G') : NodesAt H0 G' qs ns := ⟨Paired.mapP h.each fun _ _ x => x.ex e, h.new, h.nd⟩
theorem paired_mem {α β : Type} {F : α → β → Prop} {as : List α} {bs : List β} (h : Paired F as bs) {a : α} (ha : a ∈ as) : ∃ b ∈ bs, F a b := by
  obtain ⟨i, hi, e⟩ := List.getElem_of_mem ha
  obtain ⟨b, h1, h2⟩ := paired_at h (show as[i]? = some a by rw [List.getElem?_eq_getElem hi, e])
  exact ⟨b, List.mem_of_getElem? h1, h2⟩
theorem NodesAt.cell {H0 G : Hp} {qs : List Qd} {ns : List Nd} (h : NodesAt H0 G qs ns) {x : Addr} (hx : x ∈ cellsOf qs) : ∃ xs, G x = some (.lst xs) := by
  obtain ⟨q, hq, hx⟩ := List.mem_flatMap.mp hx
  obtain ⟨n, _, hn⟩ := paired_mem h.each hq
  have hx : x ∈ [q.2.1, q.2.2.1, q.2.2.2] := hx
  simp only [List.mem_cons, List.not_mem_nil, or_false] at hx
  rcases hx with rfl | rfl | rfl
  · exact ⟨_, hn.one⟩
  · exact ⟨_, hn.two⟩
  · exact ⟨_, hn.set⟩
theorem NodesAt.snoc {H0 G G' Hb : Hp} {qs : List Qd} {ns : List Nd} {t a b c : Addr} {n : Nd} (h : NodesAt H0 G qs ns) (e : Ex G G') (eb : Ex G Hb) (e0 : Ex H0 Hb) (hn : NdA G' t a b c n) (f1 : Hb a = none) (f2 : Hb b = none) (f3 : Hb c = none) (f4 : Hb t = none) (d1 : a ≠ b) (d2 : a ≠ c) (d3 : b ≠ c) : NodesAt H0 G' (qs ++ [(t, a, b, c)]) (ns ++ [n]) := by
  refine ⟨paired_snoc (Paired.mapP h.each fun _ _ x => x.ex e) hn, fun q hq => ?_, ?_⟩
  · rcases List.mem_append.mp hq with hq | hq
    · exact h.new q hq
    · have eq : q = (t, a, b, c) := by simpa using hq
      subst eq
      exact ⟨fresh_back e0 f4, fresh_back e0 f1, fresh_back e0 f2, fresh_back e0 f3⟩
  · unfold cellsOf
    rw [List.flatMap_append, List.nodup_append]
    refine ⟨h.nd, by simp [d1, d2, d3], fun x hx y hy exy => ?_⟩
    obtain ⟨xs, hxs⟩ := h.cell hx
    have hxb := eb _ _ hxs
    have hy' : y ∈ [a, b, c] := by simpa using hy
    simp only [List.mem_cons, List.not_mem_nil, or_false] at hy'
    rcases hy' with rfl | rfl | rfl
    · rw [exy, f1] at hxb
      cases hxb
    · rw [exy, f2] at hxb
      cases hxb
    · rw [exy, f3] at hxb
      cases hxb
/-! ### what compare holds -/
abbrev Pm3 (nl ll kd : Addr) : Addr → Prop := fun b => b = nl ∨ b = ll ∨ b = kd
noncomputable abbrev hid (nl ll kd : Addr) (H : Hp) : Hp := hideP (Pm3 nl ll kd) H
theorem hideP_mono {Q : Addr → Prop} {H H' : Hp} (e : Ex H H') : Ex (hideP Q H) (hideP Q H') := fun b o h => by
  by_cases q : Q b
  · rw [hideP_yes q] at h
    cases h
  · rw [hideP_ne q] at h ⊢
    exact e _ _ h
theorem hideP_upd {Q : Addr → Prop} {H : Hp} {a : Addr} {o : HO} (h : Q a) : hideP Q (upd H a o) = hideP Q H := by
  funext b
  by_cases q : Q b
  · rw [hideP_yes q, hideP_yes q]
  · rw [hideP_ne q, hideP_ne q, upd_ne (fun e => q (by rw [e]; exact h))]
theorem hid_nl {nl ll kd : Addr} {H : Hp} {o : HO} : hid nl ll kd (upd H nl o) = hid nl ll kd H := hideP_upd (.inl rfl)
theorem hid_ll {nl ll kd : Addr} {H : Hp} {o : HO} : hid nl ll kd (upd H ll o) = hid nl ll kd H := hideP_upd (.inr (.inl rfl))
theorem hid_kd {nl ll kd : Addr} {H : Hp} {o : HO} : hid nl ll kd (upd H kd o) = hid nl ll kd H := hideP_upd (.inr (.inr rfl))
theorem hid_new {Q : Addr → Prop} {Ha Hb : Hp} {x : Addr} {o : HO} (h : ∀ b, Q b → Ha b ≠ none) (n : Ha x = none) (f : Hb x = some o) : hideP Q Hb x = some o := by
  rw [hideP_ne (fun q => h x q n)]
  exact f
structure CInv (P : Program) (w : World) (d : Kd) (lim : Nat) (H0 : Hp) (nl ll kd : Addr) (H : Hp) (ns : List Nd) (ls : List (List Str)) (qs : List Qd) (lts : List Addr) (ks : List (Nd × Addr)) : Prop where
  base : Ex H0 (hid nl ll kd H)
  hnl : H nl = some (.lst (rvs (qs.map (·.1))))
  hll : H ll = some (.lst (rvs lts))
  hkd : H kd = some (DN P w kd ks)
  no : NodesAt H0 (hid nl ll kd H) qs ns
  li : Paired (fun la (l : List Str) => hid nl ll kd H la = some (.lst (svs l))) lts ls
  ky : ∀ p ∈ ks, KeyAt (hid nl ll kd H) p.2 p.1
  kn : ks.map Prod.fst = ns
  len : ns.length ≤ lim
  eq : ns.length = ls.length
  lb : ∀ (i : Nat) (l : List Str), ls[i]? = some l → l.length ≤ i
theorem CInv.ex {P : Program} {w : World} {d : Kd} {lim : Nat} {H0 : Hp} {nl ll kd : Addr} {H H' : Hp} {ns : List Nd} {ls : List (List Str)} {qs : List Qd} {lts : List Addr} {ks : List (Nd × Addr)} (c : CInv P w d lim H0 nl ll kd H ns ls qs lts ks) (e : Ex H H') : CInv P w d lim H0 nl ll kd H' ns ls qs lts ks :=
  ⟨c.base.trans (hideP_mono e), e _ _ c.hnl, e _ _ c.hll, e _ _ c.hkd, c.no.ex (hideP_mono e), Paired.mapP c.li fun _ _ x => hideP_mono e _ _ x, fun p hp => (c.ky p hp).ex (hideP_mono e), c.kn, c.len, c.eq, c.lb⟩
theorem CInv.known {P : Program} {w : World} {d : Kd} {lim : Nat} {H0 : Hp} {nl ll kd : Addr} {H : Hp} {ns : List Nd} {ls : List (List Str)} {qs : List Qd} {lts : List Addr} {ks : List (Nd × Addr)} (c : CInv P w d lim H0 nl ll kd H ns ls qs lts ks) : KnownAt P w H kd ks := ⟨c.hkd, fun p hp => (c.ky p hp).ex (hideP_ex _ _)⟩
theorem CInv.old {P : Program} {w : World} {d : Kd} {lim : Nat} {H0 : Hp} {nl ll kd : Addr} {H : Hp} {ns : List Nd} {ls : List (List Str)} {qs : List Qd} {lts : List Addr} {ks : List (Nd × Addr)} (c : CInv P w d lim H0 nl ll kd H ns ls qs lts ks) : Ex H0 H := c.base.trans (hideP_ex _ _)
theorem CInv.there {P : Program} {w : World} {d : Kd} {lim : Nat} {H0 : Hp} {nl ll kd : Addr} {H : Hp} {ns : List Nd} {ls : List (List Str)} {qs : List Qd} {lts : List Addr} {ks : List (Nd × Addr)} (c : CInv P w d lim H0 nl ll kd H ns ls qs lts ks) : ∀ b, Pm3 nl ll kd b → H b ≠ none := by
  rintro b (rfl | rfl | rfl)
  · rw [c.hnl]; simp
  · rw [c.hll]; simp
  · rw [c.hkd]; simp
theorem CInv.node {P : Program} {w : World} {d : Kd} {lim : Nat} {H0 : Hp} {nl ll kd : Addr} {H : Hp} {ns : List Nd} {ls : List (List Str)} {qs : List Qd} {lts : List Addr} {ks : List (Nd × Addr)} (c : CInv P w d lim H0 nl ll kd H ns ls qs lts ks) {i : Nat} {n : Nd} (h : ns[i]? = some n) : ∃ t, (rvs (qs.map (·.1)))[i]? = some (.ref t) ∧ NdAt (hid nl ll kd H) t n := by
  have hl := Paired.length c.no.each
  have hi := (List.getElem?_eq_some_iff.mp h).1
  have hq : qs[i]? = some qs[i] := List.getElem?_eq_getElem (by omega)
  obtain ⟨n', h1, h2⟩ := paired_at c.no.each hq
  rw [h] at h1
  cases h1
  exact ⟨qs[i].1, by rw [List.getElem?_map, List.getElem?_map, hq]; rfl, _, _, _, h2⟩
theorem CInv.line {P : Program} {w : World} {d : Kd} {lim : Nat} {H0 : Hp} {nl ll kd : Addr} {H : Hp} {ns : List Nd} {ls : List (List Str)} {qs : List Qd} {lts : List Addr} {ks : List (Nd × Addr)} (c : CInv P w d lim H0 nl ll kd H ns ls qs lts ks) {i : Nat} {l : List Str} (h : ls[i]? = some l) : ∃ t, (rvs lts)[i]? = some (.ref t) ∧ H t = some (.lst (svs l)) := by
  have hl := Paired.length c.li
  have hi := (List.getElem?_eq_some_iff.mp h).1
  have hq : lts[i]? = some lts[i] := List.getElem?_eq_getElem (by omega)
  obtain ⟨n', h1, h2⟩ := paired_at c.li hq
  rw [h] at h1
  cases h1
  exact ⟨lts[i], by rw [List.getElem?_map, hq]; rfl, hideP_ex _ _ _ _ h2⟩
/-- the new node's key, the node, its line are put in -/
theorem CInv.put {P : Program} {w : World} {d : Kd} {lim : Nat} {H0 : Hp} {nl ll kd : Addr} {Hb H1 H2 H3 H4 H5 : Hp} {ns : List Nd} {ls : List (List Str)} {qs : List Qd} {lts : List Addr} {ks : List (Nd × Addr)} {t a b c kt la : Addr} {n : Nd} {l : List Str}
    (ci : CInv P w d lim H0 nl ll kd Hb ns ls qs lts ks) (e1 : Ex Hb H1) (hn : NdA H1 t a b c n) (f1 : Hb a = none) (f2 : Hb b = none) (f3 : Hb c = none) (f4 : Hb t = none) (d1 : a ≠ b) (d2 : a ≠ c) (d3 : b ≠ c)
    (hk : KeyAt H1 kt n) (e2 : H2 = upd H1 kd (DN P w kd (ks ++ [(n, kt)]))) (e3 : Ex H2 H3) (e4 : H4 = upd H3 nl (.lst (rvs (qs.map (·.1)) ++ [.ref t]))) (e5 : Ex H4 H5) (hla : H4 la = none) (hll : H5 la = some (.lst (svs l))) (hlim : ns.length < lim) (hl : l.length ≤ ls.length) (kl : kd ≠ nl) (kll : kd ≠ ll) (nll : nl ≠ ll) :
    CInv P w d lim H0 nl ll kd (upd H5 ll (.lst (rvs lts ++ [.ref la]))) (ns ++ [n]) (ls ++ [l]) (qs ++ [(t, a, b, c)]) (lts ++ [la]) (ks ++ [(n, kt)]) := by
  have g2 : Ex (hid nl ll kd Hb) (hid nl ll kd H2) := by
    rw [e2, hid_kd]
    exact hideP_mono e1
  have g3 : Ex (hid nl ll kd Hb) (hid nl ll kd H3) := g2.trans (hideP_mono e3)
  have g4 : Ex (hid nl ll kd Hb) (hid nl ll kd H4) := by
    rw [e4, hid_nl]
    exact g3
  have g5 : Ex (hid nl ll kd Hb) (hid nl ll kd (upd H5 ll (.lst (rvs lts ++ [.ref la])))) := by
    rw [hid_ll]
    exact g4.trans (hideP_mono e5)
  have up : Ex (hid nl ll kd H1) (hid nl ll kd (upd H5 ll (.lst (rvs lts ++ [.ref la])))) := by
    have u2 : hid nl ll kd H2 = hid nl ll kd H1 := by rw [e2, hid_kd]
    have u4 : hid nl ll kd H4 = hid nl ll kd H3 := by rw [e4, hid_nl]
    have x1 : Ex (hid nl ll kd H2) (hid nl ll kd H3) := hideP_mono e3
    have x2 : Ex (hid nl ll kd H4) (hid nl ll kd H5) := hideP_mono e5
    rw [hid_ll]
    rw [u2] at x1
    rw [u4] at x2
    exact x1.trans x2
  have n1 : NdA (hid nl ll kd H1) t a b c n := ⟨hid_new ci.there f4 hn.tup, hid_new ci.there f1 hn.one, hid_new ci.there f2 hn.two, hid_new ci.there f3 hn.set⟩
  have tn : ∀ x xs, H1 x = some (.tup xs) → hid nl ll kd H1 x = some (.tup xs) := fun x xs hx => by
    refine (hideP_ne ?_).trans hx
    · rintro (e | e | e)
      · rw [e, e1 _ _ ci.hnl] at hx
        cases hx
      · rw [e, e1 _ _ ci.hll] at hx
        cases hx
      · rw [e, e1 _ _ ci.hkd] at hx
        cases hx
  have k1 : KeyAt (hid nl ll kd H1) kt n := by
    obtain ⟨x, y, z, h1, h2, h3, h4⟩ := hk
    exact ⟨x, y, z, tn _ _ h1, tn _ _ h2, tn _ _ h3, tn _ _ h4⟩
  have hlan : hid nl ll kd (upd H5 ll (.lst (rvs lts ++ [.ref la]))) la = some (.lst (svs l)) := by
    rw [hid_ll]
    refine hid_new (Ha := H4) ?_ hla hll
    rintro x (rfl | rfl | rfl)
    · rw [e4, upd_same]; simp
    · rw [e4, upd_ne nll.symm, e3 _ _ (by rw [e2, upd_ne kll.symm]; exact e1 _ _ ci.hll)]; simp
    · rw [e4, upd_ne kl, e3 _ _ (by rw [e2]; exact upd_same)]; simp
  have hkd : (upd H5 ll (.lst (rvs lts ++ [.ref la]))) kd = some (DN P w kd (ks ++ [(n, kt)])) := by
    rw [upd_ne kll]
    refine e5 _ _ ?_
    rw [e4, upd_ne kl]
    refine e3 _ _ ?_
    rw [e2]
    exact upd_same
  refine ⟨ci.base.trans g5, ?_, ?_, hkd, ci.no.snoc g5 (hideP_ex _ _) ci.old (n1.ex up) f1 f2 f3 f4 d1 d2 d3, paired_snoc (Paired.mapP ci.li fun _ _ x => g5 _ _ x) hlan, fun p hp => ?_, by rw [List.map_append, ci.kn]; rfl, by rw [List.length_append]; exact hlim, by rw [List.length_append, List.length_append, ci.eq]; rfl, fun i l' h => ?_⟩
  · rw [upd_ne nll, e5 _ _ (by rw [e4]; exact upd_same), List.map_append]
    show _ = some (HO.lst (List.map V.ref (_ ++ _)))
    rw [List.map_append]
    rfl
  · rw [upd_same]
    show _ = some (HO.lst (List.map V.ref (_ ++ _)))
    rw [List.map_append]
    rfl
  · rcases List.mem_append.mp hp with hp | hp
    · exact (ci.ky p hp).ex g5
    · have ep : p = (n, kt) := by simpa using hp
      subst ep
      exact k1.ex up
  · rcases Nat.lt_or_ge i ls.length with hi | hi
    · rw [List.getElem?_append_left hi] at h
      exact ci.lb i l' h
    · rw [List.getElem?_append_right hi] at h
      have : i - ls.length = 0 := by
        rcases Nat.eq_zero_or_pos (i - ls.length) with z | z
        · exact z
        · rw [List.getElem?_eq_none_iff.mpr (by rw [List.length_singleton]; exact z)] at h
          cases h
      rw [this] at h
      have e : l = l' := by simpa using h
      subst e
      omega
/-! ### compare -/
def RApart (l : List Str) : Rel := fun v H1 H2 => ∃ t p, v = .ref t ∧ H1 t = none ∧ H1 p = none ∧ H2 t = some (.tup [.str "apart", .ref p]) ∧ H2 p = some (.lst (svs l))
def RAlike (ns : List Nd) : Rel := fun v H1 H2 => ∃ t nl qs, v = .ref t ∧ H1 t = none ∧ H1 nl = none ∧ H2 t = some (.tup [.str "alike", .ref nl]) ∧ H2 nl = some (.lst (rvs (qs.map (·.1)))) ∧ NodesAt H1 H2 qs ns ∧ nl ∉ cellsOf qs
/-- what compare does, by its mirror -/
def CEnds (C : Addr) (lim : Nat) (H : Hp) (Q : VK) (E : XK) : Rs Nd Str → Prop
  | .alike ns => ∀ v H', Ex H H' → RAlike ns v H H' → Q v H'
  | .apart l => ∀ v H', Ex H H' → RApart l v H H' → Q v H'
  | .many => ∀ dx H', Ex H H' → H dx = none → H' dx = some (.xd [("limit", .int (lim : Int))]) → E (.ref C) (some dx) H'
def spCompare (K : PySem.W.Frag) : Sp := fun vs H Q E => ∃ (S p r : Addr) (lim : Nat) (d : Kd) (a b : List Str), vs = [.ref S, .ref p, .ref r, .int (lim : Int)] ∧ Su K H S d ∧ KdOk d ∧ RowOk d a ∧ RowOk d b ∧ H p = some (.lst (svs a)) ∧ H r = some (.lst (svs b)) ∧ 1 ≤ lim ∧ lim ≤ 1000 ∧ CEnds (He.ga K "TooMany") lim H Q E (searchR d a b lim)
section
variable {P : Program} {w : World} {K : PySem.W.Frag} {mg : Str → Option Value} {base : Heap}
theorem sc_compare : FnScope ["suits", "one", "other", "limit", "start", "nodes", "lines", "known", "at", "gap", "kind", "later", "due"] ["suits", "one", "other", "limit"] (defScope s_compare) := C8.fnScope_by (by decide +kernel)
/-- .. the start's gap -/
theorem s_ne : (V.str "apart" : V) = .str "apart" := rfl
theorem er_apart {σ : L2.St} {H : Hp} {tb : TE} {l : List Str} (hb : EvL tb σ H (svs l)) : EvR (tTup (tCons (tC (.str "apart")) (tCons tb tNil))) σ H (RApart l) :=
  EvR.imp (er_tup2 (er_v ev_c) (er_l hb)) fun v H1 H2 _ _ r => by
    obtain ⟨t, x, y, H3, H4, rfl, e3, e4, e5, hx, ⟨p, rfl, hp, hp'⟩, ht, ht'⟩ := r
    have hx : x = .str "apart" := hx
    subst hx
    exact ⟨t, p, rfl, fresh_back (e3.trans e4) ht, fresh_back e3 hp, ht', e5 _ _ hp'⟩
/-- a start node of two copies and a new list -/
theorem er_start {σ : L2.St} {H : Hp} {t1 t2 : TE} {p r : Addr} {a b : List Str} (h1 : Ev t1 σ H (.ref p)) (h2 : Ev t2 σ H (.ref r)) (hp : H p = some (.lst (svs a))) (hr : H r = some (.lst (svs b))) :
    EvR (tTup (tCons (tCB (rListS K) (tCons t1 tNil)) (tCons (tCB (rListS K) (tCons t2 tNil)) (tCons (tLst tNil) tNil)))) σ H (fun v H1 H2 => ∃ t, v = .ref t ∧ NewNd H1 H2 t (a, b, [])) :=
  EvR.imp (er_tup3 (er_l (el_list h1 (SqL.of hp))) (er_l (el_list h2 (SqL.of hr))) (er_l (el_lst ea_nil (by simp)))) fun v H1 H2 _ _ r => by
    obtain ⟨t, x, y, z, Ha, Hb, Hc, rfl, ea, eb, ec, ed, ⟨p1, rfl, f1, g1⟩, ⟨p2, rfl, f2, g2⟩, ⟨p3, rfl, f3, g3⟩, ft, ht⟩ := r
    exact ⟨t, rfl, p1, p2, p3, ⟨ht, ed _ _ (ec _ _ (eb _ _ g1)), ed _ _ (ec _ _ g2), ed _ _ g3⟩, f1, fresh_back ea f2, fresh_back (ea.trans eb) f3, fresh_back ((ea.trans eb).trans ec) ft, ne_of_none g1 f2, ne_of_none (eb _ _ g1) f3, ne_of_none g2 f3⟩
/-- [[]] -/
theorem er_lstN {σ : L2.St} {H : Hp} {te : TE} {xs : List V} (h : EvL te σ H xs) : EvR (tLst (tCons te tNil)) σ H (fun v H1 H2 => ∃ p q, v = .ref p ∧ H1 p = none ∧ H1 q = none ∧ p ≠ q ∧ H2 p = some (.lst [.ref q]) ∧ H2 q = some (.lst xs)) := fun H1 e Q k =>
  h H1 e _ fun q H2 hq e2 h2 => ⟨by simp [sizeLine_eq], fun p hp => k (.ref p) _ (e2.trans (Ex.new hp)) ⟨p, q, rfl, fresh_back e2 hp, hq, (ne_of_none h2 hp).symm, upd_same, (Ex.new hp) _ _ h2⟩⟩
/-- {key: True} -/
theorem er_disp {σ : L2.St} {H : Hp} {te : TE} {n : Nd} (h : ∀ H1, (∀ x o, H x = some o → H1 x = some o) → EvR te σ H1 (RKey n)) : EvR (tDispN P w te) σ H (fun v H1 H2 => ∃ dk t, v = .ref dk ∧ H1 dk = none ∧ KnownAt P w H2 dk [(n, t)]) := fun H1 e Q k p hp =>
  h _ (fun x o hx => (Ex.new hp) _ _ (e _ _ hx)) _ (Ex.refl _) _ fun v H2 e2 ⟨t, ev, ht⟩ => by
    have hp2 : H2 p = some (DN P w p []) := e2 _ _ upd_same
    refine ⟨t, n, ev, ht, hp2, k _ _ (Ex.mut ((Ex.new hp).trans e2) hp) ⟨p, t, rfl, hp, ?_⟩⟩
    exact KnownAt.put ht ⟨hp2, fun q hq => nomatch hq⟩
/-- x, y, z = a, b, c -/
theorem q_par3 {σ : L2.St} {H : Hp} {D : Ends} {tz : TS} {i j l : Nat} {ta : TA} {S : List V → Hp → Hp → Prop} {T3' : V → V → V → Hp → Prop} (h : EvAR ta σ H S) (hS : ∀ vs H1, Ex H H1 → S vs H H1 → ∃ x y z, vs = [x, y, z] ∧ T3' x y z H1) (k : ∀ x y z H1, Ex H H1 → T3' x y z H1 → tz D (((σ.set i (some x)).set j (some y)).set l (some z)) H1) :
    tSeq (tPar3 i j l ta) tz D σ H := h H (Ex.refl H) _ fun vs H1 e s => by
  obtain ⟨x, y, z, rfl, hT⟩ := hS vs H1 e s
  exact ⟨x, y, z, rfl, k x y z H1 e hT⟩
theorem q_putN {σ : L2.St} {H : Hp} {D : Ends} {tz : TS} {td ty : TE} {dk : Addr} {n : Nd} {ks : List (Nd × Addr)} (hd : Ev td σ H (.ref dk)) (hk : EvR ty σ H (RKey n)) (hkn : KnownAt P w H dk ks) (hn : n ∉ ks.map Prod.fst) (hl : ks.length ≤ 10000) (k : ∀ kt H1, Ex H H1 → KeyAt H1 kt n → tz D σ (upd H1 dk (DN P w dk (ks ++ [(n, kt)])))) :
    tSeq (sPutN P w td ty (tC (.bl true))) tz D σ H := hd H (Ex.refl H) _ fun H1 e1 => hk H1 e1 _ fun v H2 e2 ⟨kt, ev, hkt⟩ => ⟨kt, n, dk, ks, rfl, rfl, ev, hkt, hkn.ex (e1.trans e2), hn, sz_lt (by omega), k kt H2 (e1.trans e2) hkt⟩
theorem gap_hid {Q : Addr → Prop} {H1 H2 : Hp} {t : Addr} {g : Gp} (h : ∀ b, Q b → H1 b ≠ none) (hg : GapAt H2 t g) (hf : GapFr H1 H2 t) : GapAt (hideP Q H2) t g := by
  obtain ⟨a, b, h1, h2, h3⟩ := hg
  obtain ⟨a', b', k1, k2, k3, k4⟩ := hf
  rw [h1] at k1
  injection k1 with k1
  injection k1 with k1
  injection k1 with k1 k5
  injection k5 with k5 _
  injection k1 with k1
  injection k5 with k5
  subst k1
  subst k5
  exact ⟨a, b, hid_new h k2 h1, hid_new h k3 h2, hid_new h k4 h3⟩
theorem key_hid {nl ll kd : Addr} {H : Hp} {kt : Addr} {n : Nd} (hk : KeyAt H kt n) (h : ∀ b, Pm3 nl ll kd b → ∀ xs, H b ≠ some (.tup xs)) : KeyAt (hid nl ll kd H) kt n := by
  have tn : ∀ x xs, H x = some (.tup xs) → hid nl ll kd H x = some (.tup xs) := fun x xs hx => (hideP_ne fun q => h x q xs hx).trans hx
  obtain ⟨x, y, z, h1, h2, h3, h4⟩ := hk
  exact ⟨x, y, z, tn _ _ h1, tn _ _ h2, tn _ _ h3, tn _ _ h4⟩
/-- what one turn of the inner loop makes -/
theorem inner_cons {ν γ κ : Type} [DecidableEq ν] [DecidableEq γ] {gap : ν → Option γ} {limit : Nat} {line : List κ} {k : κ} {later : ν} {due : γ} {r : List (κ × ν × γ)} {ns : List ν} {ls : List (List κ)} : inner gap limit line ((k, later, due) :: r) ns ls = if gap later = some due then (if later ∈ ns then inner gap limit line r ns ls else if ns.length = limit then .many else inner gap limit line r (ns ++ [later]) (ls ++ [line ++ [k]])) else .apart (line ++ [k]) := by
  conv => lhs; unfold inner
theorem ok_compare {fI : Addr} (T : Tp K mg) (TD : TmD P K (He.ga K "TooMany") fI) (F : FD K d_compare) (c_gap_of : C8.Cal P w K mg base 4 "gap_of" (spGap K) []) (c_next_kinds : C8.Cal P w K mg base 2 "next_kinds" (spNextKinds K) []) (c_next_node : C8.Cal P w K mg base 3 "next_node" (spNextNode K) []) (c_key_of : C8.Cal P w K mg base 1 "key_of" spKey [])
    (hTMx : ∃ fd, FnOk P w K mg base C8.CX0 1 fI fd ["self", "limit"] (spTM (He.ga K "TooMany")) ∧ Binds K fd ["self", "limit"] []) : ∃ fd, FnOk P w K mg base (L2.CX P w) 5 (He.fAd K d_compare.at_) fd ["suits", "one", "other", "limit"] (spCompare K) ∧ FunD K d_compare.name d_compare.qual d_compare.params d_compare.body d_compare.scope (d_compare.dvs K) (d_compare.kws K) (He.fAd K d_compare.at_) fd := by
  obtain ⟨fdT, hTM, bTM⟩ := hTMx
  obtain ⟨fd, F⟩ := F
  refine ⟨fd, F.ok sc_compare (fun vs H Q E h => ?_) (fun cdv A outer s H vs Q E hr h => ?_), F⟩
  · obtain ⟨S, p, r, lim, d, a, b, rfl, _⟩ := h
    rfl
  · obtain ⟨S, p, r, lim, d, a, b, rfl, hS, hd, hA, hB, hp, hr', hl1, hl2, hend⟩ := h
    refine ⟨_, (pss_cons (ps_set (i := 4) (sc_compare).nd rfl (.inl rfl) (pe_tup (pa_cons (pe_callTy (k_list (K := K) rfl) (by rfl) T.f_list PyProof.Rows.boot_list (pa_cons (pv 1) pa_nil)) (pa_cons (pe_callTy (k_list (K := K) rfl) (by rfl) T.f_list PyProof.Rows.boot_list (pa_cons (pv 2) pa_nil)) (pa_cons (pe_lst pa_nil) pa_nil)))))
  (pss_cons (ps_if (pt_cmpR (k_neD (K := K) rfl hr) (C8.pe_c c_gap_of hr (by decide) (by rfl) (pa_cons (pv 0) (pa_cons (pv 4) pa_nil))) (pe_tup (pa_cons (pe_lst pa_nil) (pa_cons (pe_lst pa_nil) pa_nil))) (nomark _))
  (pss_one (ps_ret (pe_tup (pa_cons pe_str (pa_cons (pe_lst pa_nil) pa_nil)))))
  pss_nil)
  (pss_cons (ps_par3 (i := 5) (j := 6) (l := 7) (by rfl) (sc_compare).nd rfl rfl rfl (by decide) (by decide) (by decide) rfl rfl rfl (pa_cons (pe_lst (pa_cons (pv 4) pa_nil)) (pa_cons (pe_lst (pa_cons (pe_lst pa_nil) pa_nil)) (pa_cons (pe_dispN (P := P) (w := w) rfl rfl hr (C8.pe_c c_key_of hr (by decide) (by rfl) (pa_cons (pv 4) pa_nil))) pa_nil))) (by rfl))
  (pss_cons (ps_set (i := 8) (sc_compare).nd rfl (.inl rfl) pe_int)
  (pss_cons (ps_while (passes_of rfl) (pt_cmpR op_lt (pv 8) (pe_callB (k_len (K := K) rfl) (by rfl) T.f_len PySem.boot_len (pa_cons (pv 5) pa_nil)) (nomark _))
  (pss_cons (ps_set (i := 9) (sc_compare).nd rfl (.inl rfl) (C8.pe_c c_gap_of hr (by decide) (by rfl) (pa_cons (pv 0) (pa_cons (pe_ix (k_ixL (K := K) rfl) (pv 5) (pv 8) (fun _ _ => rfl)) pa_nil))))
  (pss_cons (ps_for (passes_of rfl) rfl (k_piList (K := K) rfl (C8.pe_c c_next_kinds hr (by decide) (by rfl) (pa_cons (pv 0) (pa_cons (pe_ix (k_ixL (K := K) rfl) (pv 5) (pv 8) (fun _ _ => rfl)) pa_nil)))) (pg_name (i := 10) (sc_compare).nd rfl (.inl rfl))
  (pss_cons (ps_asg (C8.pe_c c_next_node hr (by decide) (by rfl) (pa_cons (pv 0) (pa_cons (pe_ix (k_ixL (K := K) rfl) (pv 5) (pv 8) (fun _ _ => rfl)) (pa_cons (pv 9) (pa_cons (pv 10) pa_nil))))) (k_pgTup (K := K) rfl rfl (pgs_cons (pg_name (i := 11) (sc_compare).nd rfl (.inl rfl)) (pgs_cons (pg_name (i := 12) (sc_compare).nd rfl (.inl rfl)) pgs_nil))))
  (pss_cons (ps_if (pt_cmpR (k_neD (K := K) rfl hr) (C8.pe_c c_gap_of hr (by decide) (by rfl) (pa_cons (pv 0) (pa_cons (pv 11) pa_nil))) (pv 12) (nomark _))
  (pss_one (ps_ret (pe_tup (pa_cons pe_str (pa_cons (pe_op op_cat (pe_ix (k_ixL (K := K) rfl) (pv 6) (pv 8) (fun _ _ => rfl)) (pe_lst (pa_cons (pv 10) pa_nil))) pa_nil)))))
  pss_nil)
  (pss_one (ps_if (pt_cmpR (op_notinN (P := P) (w := w) rfl rfl hr) (C8.pe_c c_key_of hr (by decide) (by rfl) (pa_cons (pv 11) pa_nil)) (pv 7) (by rfl))
  (pss_cons (ps_if (pt_cmpR op_eq (pe_callB (k_len (K := K) rfl) (by rfl) T.f_len PySem.boot_len (pa_cons (pv 5) pa_nil)) (pv 3) (nomark _))
  (pss_one (ps_raise rfl (takes_of rfl rfl rfl rfl) (pmk_oex TD.oex TD.iC TD.tI hTM (hr.mono (by decide)) bTM .nil C8.pass0 rfl T.g_TooMany (pa_cons (pv 3) pa_nil))))
  pss_nil)
  (pss_cons (ps_putN (P := P) (w := w) rfl rfl hr (pv 7) (C8.pe_c c_key_of hr (by decide) (by rfl) (pa_cons (pv 11) pa_nil)) pe_bl rfl)
  (pss_cons (ps_expr (k_bm (K := K) rfl PySem.F.plainAttrs_list PySem.F.slot_list_append PySem.F.type_list_append mt_append (pv 5) (pa_cons (pv 11) pa_nil)))
  (pss_one (ps_expr (k_bm (K := K) rfl PySem.F.plainAttrs_list PySem.F.slot_list_append PySem.F.type_list_append mt_append (pv 6) (pa_cons (pe_op op_cat (pe_ix (k_ixL (K := K) rfl) (pv 6) (pv 8) (fun _ _ => rfl)) (pe_lst (pa_cons (pv 10) pa_nil))) pa_nil)))))))
  pss_nil)))))
  (pss_one (ps_aug (i := 8) (sc_compare).nd rfl (.inl rfl) pe_int ip_add)))))
  (pss_one (ps_ret (pe_tup (pa_cons pe_str (pa_cons (pv 5) pa_nil)))))))))), ?_⟩
    have hd8 := hd.len
    refine q_asgR (er_start (ev_var rfl) (ev_var rfl) hp hr') fun v H1 e1 ⟨st, ev, hst⟩ => ?_
    subst ev
    have hso : NodeOk d a b (a, b, []) := ⟨List.Sublist.refl _, List.Sublist.refl _, .nil, fun k hk => nomatch hk⟩
    refine q_when (b := !decide (gapR d (a, b, []) = some ([], []))) (et_neG (due := ([], [])) (er_gapOf (ev_var rfl) (ev_var rfl) (hS.ex e1) hd hst.at_ (hso.ndin hA hB)) (fun _ _ _ r => r) (er_gap (xs := []) (ys := []) (el_lst ea_nil (by simp)) (el_lst ea_nil (by simp))) (fun x Ha Hb ea eb r => r) (fun x hx => (gapR_in hso hA hB hx).ok hd) ⟨(fun x hx => nomatch hx), fun x hx => nomatch hx⟩) (fun hb H2 e2 => ?_) fun hb H2 e2 => ?_
    · have hne : ¬ gapR d (a, b, []) = some ([], []) := of_decide_eq_false (by simpa using hb)
      unfold searchR at hend
      rw [if_neg hne] at hend
      refine s_retR (er_apart (l := []) (el_lst ea_nil (by simp))) fun v H3 e3 r => hend v H3 ((e1.trans e2).trans e3) ?_
      obtain ⟨t, p', rfl, f1, f2, g1, g2⟩ := r
      exact ⟨t, p', rfl, fresh_back (e1.trans e2) f1, fresh_back (e1.trans e2) f2, g1, g2⟩
    have hg0 : gapR d (a, b, []) = some ([], []) := of_decide_eq_true (by simpa using hb)
    unfold searchR at hend
    rw [if_pos hg0] at hend
    generalize hres : K64.outer (gapR d) (leadsR d) lim (lim + 1) [(a, b, [])] [[]] 0 = res at hend
    obtain ⟨p1, p2, p3, hnd, f1, f2, f3, f4, d1, d2, d3⟩ := hst
    have hnd2 := hnd.ex e2
    have e12 := e1.trans e2
    refine q_par3 (T3' := fun x y z H3 => ∃ nl ll la kd kt, x = .ref nl ∧ y = .ref ll ∧ z = .ref kd ∧ H2 nl = none ∧ H2 ll = none ∧ H2 la = none ∧ H2 kd = none ∧ nl ≠ ll ∧ la ≠ nl ∧ la ≠ ll ∧ H3 nl = some (.lst [.ref st]) ∧ H3 ll = some (.lst [.ref la]) ∧ H3 la = some (.lst []) ∧ KnownAt P w H3 kd [((a, b, []), kt)])
      (ear_cons (er_l (el_lst (ea_cons (ev_var rfl) ea_nil) (by simp))) (ear_cons (er_lstN (el_lst ea_nil (by simp))) (ear_cons (er_disp (n := (a, b, [])) fun Hx hx => er_keyOf (ev_var rfl) ⟨p1, p2, p3, hnd2.ex hx⟩) ear_nil))) ?_ ?_
    · rintro vs H3 e3 ⟨v, r1, Ha, rfl, ea, eb, ⟨nl, rfl, n1, n2⟩, v2, r2, Hb, rfl, ec, ed, ⟨ll, la, rfl, m1, m2, m3, m4, m5⟩, v3, r3, Hc, rfl, ef, eg, ⟨kd, kt, rfl, k1, k2⟩, rfl⟩
      exact ⟨_, _, _, rfl, nl, ll, la, kd, kt, rfl, rfl, rfl, n1, fresh_back ea m1, fresh_back ea m2, fresh_back (ea.trans ec) k1, ne_of_none n2 m1, (ne_of_none n2 m2).symm, m3.symm, eg _ _ (ef _ _ (ec _ _ n2)), eg _ _ (ef _ _ m4), eg _ _ (ef _ _ m5), k2.ex eg⟩
    rintro x y z H3 e3 ⟨nl, ll, la, kd, kt, rfl, rfl, rfl, w1, w2, w3, w4, nll, lan, lal, u1, u2, u3, kn3⟩
    have e13 := e12.trans e3
    have kl : kd ≠ nl := fun e => by
      have := kn3.1
      rw [e, u1] at this
      cases this
    have kll : kd ≠ ll := fun e => by
      have := kn3.1
      rw [e, u2] at this
      cases this
    have lak : la ≠ kd := fun e => by
      have := kn3.1
      rw [← e, u3] at this
      cases this
    have hP2 : ∀ x, Pm3 nl ll kd x → H2 x = none := by
      rintro x (rfl | rfl | rfl)
      · exact w1
      · exact w2
      · exact w4
    have hid2 : Ex H2 (hid nl ll kd H3) := ex_hideP e3 hP2
    have ci0 : CInv P w d lim H nl ll kd H3 [(a, b, [])] [[]] [(st, p1, p2, p3)] [la] [((a, b, []), kt)] := by
      refine ⟨e12.trans hid2, u1, u2, kn3.1, ⟨.cons (hnd2.ex hid2) .nil, fun q hq => ?_, by simp [d1, d2, d3]⟩, .cons ?_ .nil, fun p hp => ?_, rfl, by simpa using hl1, rfl, fun i l hi => ?_⟩
      · have eq : q = (st, p1, p2, p3) := by simpa using hq
        subst eq
        exact ⟨f4, f1, f2, f3⟩
      · refine (hideP_ne ?_).trans u3
        rintro (e | e | e)
        · exact lan e
        · exact lal e
        · exact lak e
      · have ep : p = ((a, b, []), kt) := by simpa using hp
        subst ep
        refine key_hid (kn3.2 _ List.mem_cons_self) ?_
        rintro x (rfl | rfl | rfl) xs hx
        · rw [u1] at hx; cases hx
        · rw [u2] at hx; cases hx
        · rw [kn3.1] at hx; cases hx
      · have hi' := (List.getElem?_eq_some_iff.mp hi)
        obtain ⟨hlt, hl⟩ := hi'
        have : i = 0 := by simpa using hlt
        subst this
        have : l = [] := hl.symm
        subst this
        exact Nat.le_refl _
    have si0 : SInv (gapR d) (leadsR d) (NodeOk d a b) (a, b, []) [(a, b, [])] 0 := SInv.start hso hg0
    have hstep : ∀ n g, NodeOk d a b n → gapR d n = some g → ∀ r ∈ leadsR d n g, NodeOk d a b r.2.1 := fun n g hn hg r hr => by
      obtain ⟨k, hk, rfl⟩ := List.mem_map.mp hr
      exact hn.step (nextK_mem hk)
    refine q_asg ev_c fun H4 e4 => ?_
    let W : Nat → L2.St → Hp → Prop := fun m σ' H' => ∃ (at_ f : Nat) (ns : List Nd) (ls : List (List Str)) (qs : List Qd) (lts : List Addr) (ks : List (Nd × Addr)) (y9 y10 y11 y12 : Option V), m = f ∧ σ' = [some (.ref S), some (.ref p), some (.ref r), some (.int (lim : Int)), some (.ref st), some (.ref nl), some (.ref ll), some (.ref kd), some (.int (at_ : Int)), y9, y10, y11, y12] ∧
      CInv P w d lim H nl ll kd H' ns ls qs lts ks ∧ SInv (gapR d) (leadsR d) (NodeOk d a b) (a, b, []) ns at_ ∧ f + at_ = lim + 1 ∧ K64.outer (gapR d) (leadsR d) lim f ns ls at_ = res
    refine q_while W (lim + 1) ⟨0, lim + 1, _, _, _, _, _, none, none, none, none, rfl, rfl, ci0.ex e4, si0, rfl, hres⟩ ?_
    rintro m σ' H5 ⟨at_, f, ns, ls, qs, lts, ks, y9, y10, y11, y12, rfl, rfl, ci, si, hf, hou⟩
    have hlq := Paired.length ci.no.each
    refine ⟨decide (at_ < ns.length), et_is (et_B (ev_op (ev_var rfl) (ev_len (ev_var rfl) (SqL.of ci.hnl)) rv_I0)) (by simp [hlq]), fun hb H6 e6 => ?_, fun hb H6 e6 => ?_⟩
    rotate_left
    · have hb := of_decide_eq_false hb
      rw [outer_end (by omega)] at hou
      subst hou
      have ci6 := ci.ex e6
      refine s_retR (er_u (eu_tup (ea_cons ev_c (ea_cons (ev_var rfl) ea_nil)) (by simp))) fun v H7 e7 ⟨t, ev, ht, ht'⟩ => hend v H7 (ci6.old.trans e7) ⟨t, nl, qs, ev, fresh_back ci6.old ht, fresh_back e12 w1, ht', (ci6.ex e7).hnl, (ci6.ex e7).no.ex (hideP_ex _ _), fun hm => ?_⟩
      obtain ⟨xs, hx⟩ := ci6.no.cell hm
      have hx' : hid nl ll kd H6 nl = none := hideP_yes (.inl rfl)
      rw [hx'] at hx
      cases hx
    have hat := of_decide_eq_true hb
    obtain ⟨f2, ef2⟩ : ∃ f', m = f' + 1 := ⟨m - 1, by have := ci.len; omega⟩
    subst ef2
    have hn : ns[at_]? = some ns[at_] := List.getElem?_eq_getElem hat
    have hln : ls[at_]? = some (ls[at_]'(by have := ci.eq; omega)) := List.getElem?_eq_getElem (by have := ci.eq; omega)
    generalize ns[at_] = n at hn
    generalize (ls[at_]'(by have := ci.eq; omega)) = line at hln
    have hnm := List.mem_of_getElem? hn
    have ho := si.good n hnm
    obtain ⟨g, hg⟩ := si.gp n hnm
    rw [outer_go hn hln hg] at hou
    have hgi := gapR_in ho hA hB hg
    have ci6 := ci.ex e6
    obtain ⟨t, htx, htn⟩ := ci6.node hn
    refine ⟨fun σ' H' => ∃ m', m' < f2 + 1 ∧ W m' σ' H', fun _ _ h => h, ?_⟩
    refine q_asgR (er_gapOf (ev_var rfl) (ev_ixL (ev_var rfl) (ev_var rfl) (SqL.of ci6.hnl) htx) (hS.ex ci6.old) hd (htn.ex (hideP_ex _ _)) (ho.ndin hA hB)) fun v H7 e7 rg => ?_
    rw [hg] at rg
    obtain ⟨pg, rfl, hpg, hpf⟩ := rg
    have ci7 := ci6.ex e7
    have hpg7 : GapAt (hid nl ll kd H7) pg g := gap_hid ci6.there hpg hpf
    obtain ⟨t7, htx7, htn7⟩ := ci7.node hn
    generalize hin : inner (gapR d) lim line (leadsR d n g) ns ls = tgt at hou
    refine q_forNLn (el_nextKinds (ev_var rfl) (ev_ixL (ev_var rfl) (ev_var rfl) (SqL.of ci7.hnl) htx7) (hS.ex ci7.old) (by omega) (htn7.ex (hideP_ex _ _)))
      (fun pk i σ' H' => ∃ (ns' : List Nd) (ls' : List (List Str)) (qs' : List Qd) (lts' : List Addr) (ks' : List (Nd × Addr)) (y10 y11 y12 : Option V), σ' = [some (.ref S), some (.ref p), some (.ref r), some (.int (lim : Int)), some (.ref st), some (.ref nl), some (.ref ll), some (.ref kd), some (.int (at_ : Int)), some (.ref pg), y10, y11, y12] ∧
        CInv P w d lim H nl ll kd H' ns' ls' qs' lts' ks' ∧ inner (gapR d) lim line ((leadsR d n g).drop i) ns' ls' = tgt ∧ hid nl ll kd H' pk = some (.lst (svs (nextK d n.2.2))) ∧ GapAt (hid nl ll kd H') pg g ∧ ns'[at_]? = some n ∧ ls'[at_]? = some line)
      (fun pk H8 hpk e8 h8 => ⟨ns, ls, qs, lts, ks, _, _, _, rfl, ci7.ex e8, hin, hid_new ci7.there hpk h8, hpg7.ex (hideP_mono e8), hn, hln⟩) ?_ ?_ ?_
    · rintro pk i σ' H' _ ⟨ns', ls', qs', lts', ks', y10, y11, y12, rfl, ci', _, hk, _⟩
      exact SqL.of (hideP_ex _ _ _ _ hk)
    · rintro pk i x σ' H8 hx ⟨ns', ls', qs', lts', ks', y10, y11, y12, rfl, ci', hi', hk', hg', hn', hl'⟩
      obtain ⟨k, hk, rfl⟩ : ∃ k, (nextK d n.2.2)[i]? = some k ∧ x = .str k := by
        rw [List.getElem?_map] at hx
        cases hh : (nextK d n.2.2)[i]? with
        | none =>
          rw [hh] at hx
          cases hx
        | some k =>
          rw [hh] at hx
          exact ⟨k, rfl, (Option.some.inj hx).symm⟩
      have hks := nextK_mem (List.mem_of_getElem? hk)
      obtain ⟨hil, hie⟩ := List.getElem?_eq_some_iff.mp hk
      have hdrop : (leadsR d n g).drop i = (k, stepP d n g k) :: (leadsR d n g).drop (i + 1) := by
        unfold leadsR
        rw [← List.map_drop, List.drop_eq_getElem_cons hil, hie, List.map_cons, List.map_drop]
      rw [hdrop, show ((k, stepP d n g k) : Str × Nd × Gp) = (k, (stepP d n g k).1, (stepP d n g k).2) from rfl, inner_cons] at hi'
      have ho' := ho.step (g := g) hks
      obtain ⟨t8, htx8, htn8⟩ := ci'.node hn'
      refine q_asg2 (T := fun t x y Ha Hb => ∃ u p, x = .ref u ∧ y = .ref p ∧ NewNd Ha Hb u (stepP d n g k).1 ∧ GapAt Hb p (stepP d n g k).2) (er_nextNode (ev_var rfl) (ev_ixL (ev_var rfl) (ev_var rfl) (SqL.of ci'.hnl) htx8) (ev_var rfl) (ev_var rfl) (hS.ex ci'.old) hd hA hB (htn8.ex (hideP_ex _ _)) ho (hg'.ex (hideP_ex _ _)) hgi hks) (fun v H5 e5 ⟨t, u, p, h1, h2, h3, h4⟩ => ⟨t, _, _, h1, st_of h2, u, p, rfl, rfl, h3, h4⟩) ?_
      rintro t1 x1 y1 H9 e9 ⟨u, pd, rfl, rfl, hu, hpd⟩
      have ci9 := ci'.ex e9
      refine q_when (b := !decide (gapR d (stepP d n g k).1 = some (stepP d n g k).2)) (et_neG (er_gapOf (ev_var rfl) (ev_var rfl) (hS.ex ci9.old) hd hu.at_ (ho'.ndin hA hB)) (fun _ _ _ r => r) (er_v (ev_var rfl)) (fun x Ha Hb ea eb r => ⟨pd, r, hpd.ex (ea.trans eb)⟩) (fun x hx => (gapR_in ho' hA hB hx).ok hd) (due_ok hd hgi hks)) (fun hb H10 e10 => ?_) fun hb H10 e10 => ?_
      · have hne : ¬ gapR d (stepP d n g k).1 = some (stepP d n g k).2 := of_decide_eq_false (by simpa using hb)
        rw [if_neg hne] at hi'
        subst hi'
        subst hou
        have ci10 := ci9.ex e10
        obtain ⟨lt, hlx, hlt⟩ := ci10.line hl'
        have hlb := ci10.lb _ _ hl'
        have := ci10.len
        have := ci10.eq
        have := (List.getElem?_eq_some_iff.mp hl').1
        refine s_retR (er_apart (l := line ++ [k]) (el_is (el_catV (ev_ixL (ev_var rfl) (ev_var rfl) (SqL.of ci10.hll) hlx) hlt (el_lst (ea_cons (ev_var rfl) ea_nil) (by simp)) (by rw [svs_len]; simp; omega)) (by simp))) fun v H11 e11 rr => hend v H11 (ci10.old.trans e11) ?_
        obtain ⟨t', p', rfl, z1, z2, z3, z4⟩ := rr
        exact ⟨t', p', rfl, fresh_back ci10.old z1, fresh_back ci10.old z2, z3, z4⟩
      have heq : gapR d (stepP d n g k).1 = some (stepP d n g k).2 := of_decide_eq_true (by simpa using hb)
      rw [if_pos heq] at hi'
      have ci10 := ci9.ex e10
      have e810 := e9.trans e10
      refine s_if (b := !decide ((stepP d n g k).1 ∈ ns')) (et_B (ev_is (ev_inN (er_keyOf (ev_var rfl) (hu.at_.ex e10)) (ev_var rfl) ci10.known) (by rw [ci10.kn]; rfl))) (fun hb H11 e11 => ?_) fun hb H11 e11 => ?_
      · have hnot : ¬ (stepP d n g k).1 ∈ ns' := of_decide_eq_false (by simpa using hb)
        rw [if_neg hnot] at hi'
        have ci11 := ci10.ex e11
        have hlq' := Paired.length ci11.no.each
        refine q_when (b := decide (ns'.length = lim)) (et_is (et_B (ev_op (ev_len (ev_var rfl) (SqL.of ci11.hnl)) (ev_var rfl) (rv_eq rfl))) (by simp [hlq']; omega)) (fun hb H12 e12' => ?_) fun hb H12 e12' => ?_
        · have hlm := of_decide_eq_true hb
          rw [if_pos hlm] at hi'
          subst hi'
          subst hou
          have ci12 := ci11.ex e12'
          refine ⟨_, rfl, by simp, fun ea hea => ⟨ea, (lim : Int), rfl, upd_same, fun dx hdx hne => ⟨rfl, dx, [("limit", .int (lim : Int))], upd_same, ?_, ?_, ?_⟩⟩⟩
          · rw [upd_ne hne]
            exact upd_same
          · rw [upd_ne hne] at hdx
            exact hdx
          · have hdx' : H12 dx = none := by
              rw [upd_ne hne] at hdx
              exact hdx
            refine hend dx _ (fun x o hx => ?_) (fresh_back ci12.old hdx') upd_same
            have hx12 := ci12.old _ _ hx
            rw [upd_ne (ne_of_none hx12 hdx'), del_ne (ne_of_none hx12 hea), upd_ne (ne_of_none hx12 hea), upd_ne (ne_of_none hx12 hdx'), upd_ne (ne_of_none hx12 hea)]
            exact hx12
        · have hlm := of_decide_eq_false hb
          rw [if_neg hlm] at hi'
          have ci12 := ci11.ex e12'
          have e912 := (e10.trans e11).trans e12'
          have lns := ci12.len
          have leq := ci12.eq
          have hat' := (List.getElem?_eq_some_iff.mp hl').1
          have hlb := ci12.lb _ _ hl'
          have kln : ks'.length = ns'.length := by rw [← ci12.kn, List.length_map]
          refine q_putN (ev_var rfl) (er_keyOf (ev_var rfl) (hu.at_.ex e912)) ci12.known (by rw [ci12.kn]; exact hnot) (by omega) fun kt13 H13 e13 hkt13 => ?_
          have ci13 := ci12.ex e13
          have hkd13 : upd H13 kd (DN P w kd (ks' ++ [((stepP d n g k).1, kt13)])) nl = some (.lst (rvs (qs'.map (·.1)))) := by
            rw [upd_ne kl.symm]
            exact ci13.hnl
          refine q_app hkd13 (ev_var rfl) (ev_var rfl) (by rw [List.length_map, List.length_map]; have := Paired.length ci13.no.each; omega) fun H14 e14 => ?_
          have hll14 : upd H14 nl (.lst (rvs (qs'.map (·.1)) ++ [.ref u])) ll = some (.lst (rvs lts')) := by
            rw [upd_ne nll.symm]
            refine e14 _ _ ?_
            rw [upd_ne kll.symm]
            exact ci13.hll
          have hlq13 := Paired.length ci13.li
          obtain ⟨lt, hlx, hlt⟩ := ci13.line hl'
          have hnolt : lt ≠ nl ∧ lt ≠ kd := by
            have hh : ∃ t, (rvs lts')[at_]? = some (.ref t) ∧ hid nl ll kd H13 t = some (.lst (svs line)) := by
              have hi2 : at_ < lts'.length := by omega
              have hq : lts'[at_]? = some lts'[at_] := List.getElem?_eq_getElem hi2
              obtain ⟨l2, z1, z2⟩ := paired_at ci13.li hq
              rw [hl'] at z1
              cases z1
              exact ⟨lts'[at_], by rw [List.getElem?_map, hq]; rfl, z2⟩
            obtain ⟨t2, z1, z2⟩ := hh
            rw [hlx] at z1
            cases z1
            refine ⟨fun e => ?_, fun e => ?_⟩
            · rw [e] at z2
              have z3 : hid nl ll kd H13 nl = none := hideP_yes (.inl rfl)
              rw [z3] at z2
              cases z2
            · rw [e] at z2
              have z3 : hid nl ll kd H13 kd = none := hideP_yes (.inr (.inr rfl))
              rw [z3] at z2
              cases z2
          have hlt14 : upd H14 nl (.lst (rvs (qs'.map (·.1)) ++ [.ref u])) lt = some (.lst (svs line)) := by
            rw [upd_ne hnolt.1]
            refine e14 _ _ ?_
            rw [upd_ne hnolt.2]
            exact hlt
          refine s_appL (ys := svs (line ++ [k])) hll14 (ev_var rfl) (el_is (el_catV (ev_ixL (ev_var rfl) (ev_var rfl) (SqL.of hll14) hlx) hlt14 (el_lst (ea_cons (ev_var rfl) ea_nil) (by simp)) (by rw [svs_len]; simp; omega)) (by simp)) (by rw [List.length_map]; omega) fun lp H15 hlp e15 hlp' => ?_
          obtain ⟨ua, ub, uc, hun, q1, q2, q3, q4, q5, q6, q7⟩ := hu
          have cip := ci'.put (Hb := H8) (H1 := H13) (H2 := upd H13 kd (DN P w kd (ks' ++ [((stepP d n g k).1, kt13)]))) (H3 := H14) (H4 := upd H14 nl (.lst (rvs (qs'.map (·.1)) ++ [.ref u]))) (H5 := H15) (l := line ++ [k]) ((e9.trans e912).trans e13) (hun.ex (e912.trans e13)) q1 q2 q3 q4 q5 q6 q7 hkt13 rfl e14 rfl e15 hlp hlp' (by omega) (by rw [List.length_append, List.length_singleton]; omega) kl kll nll
          have x1 : Ex (hid nl ll kd H8) (hid nl ll kd H13) := hideP_mono ((e9.trans e912).trans e13)
          have x2 : Ex (hid nl ll kd H13) (hid nl ll kd H14) := by
            have := hideP_mono (Q := Pm3 nl ll kd) e14
            have z : hideP (Pm3 nl ll kd) (upd H13 kd (DN P w kd (ks' ++ [((stepP d n g k).1, kt13)]))) = hid nl ll kd H13 := hid_kd
            rw [z] at this
            exact this
          have x3 : Ex (hid nl ll kd H14) (hid nl ll kd H15) := by
            have := hideP_mono (Q := Pm3 nl ll kd) e15
            have z : hideP (Pm3 nl ll kd) (upd H14 nl (.lst (rvs (qs'.map (·.1)) ++ [.ref u]))) = hid nl ll kd H14 := hid_nl
            rw [z] at this
            exact this
          have x4 : Ex (hid nl ll kd H8) (hid nl ll kd (upd H15 ll (.lst (rvs lts' ++ [.ref lp])))) := by
            rw [hid_ll]
            exact (x1.trans x2).trans x3
          refine ⟨_, _, _, _, _, _, _, _, rfl, cip, hi', x4 _ _ hk', hg'.ex x4, ?_, ?_⟩
          · rw [List.getElem?_append_left (List.getElem?_eq_some_iff.mp hn').1]
            exact hn'
          · rw [List.getElem?_append_left hat']
            exact hl'
      · have hmem : (stepP d n g k).1 ∈ ns' := of_decide_eq_true (by simpa using hb)
        rw [if_pos hmem] at hi'
        have ci11 := ci10.ex e11
        have eh := hideP_mono (Q := Pm3 nl ll kd) (e810.trans e11)
        exact ⟨ns', ls', qs', lts', ks', _, _, _, rfl, ci11, hi', eh _ _ hk', hg'.ex eh, hn', hl'⟩
    · rintro pk σ' H8 ⟨ns', ls', qs', lts', ks', y10, y11, y12, rfl, ci', hi', hk', hg', hn', hl'⟩
      rw [List.drop_of_length_le (by unfold leadsR; rw [List.length_map, svs_len]; exact Nat.le_refl _)] at hi'
      have hi' : Inn.go ns' ls' = tgt := hi'
      subst hi'
      refine s_aug rfl ev_c fun H9 e9 => ⟨f2, by omega, at_ + 1, f2, ns', ls', qs', lts', ks', _, _, _, _, rfl, rfl, ci'.ex e9, si.turn hstep hn hg hin, by omega, hou⟩
end
end K64
set_option Elab.async false
set_option linter.all false
set_option maxRecDepth 100000
set_option maxHeartbeats 8000000
/-! _law_told: compare within a try. -/
namespace K64
open PySem PySem.Spec PyProof.Rows L2 Evl
section
variable {X : Cx} {K : PySem.W.Frag} {a : Addr} {oe : Obj} {cls : Value} {d : Option Addr} {pn : List (Addr × Obj)}
/-- the caught error is a TooMany, its dict stands -/
def Caught (K : PySem.W.Frag) (cls : Value) (d : Option Addr) (H : Hp) : Prop := cls = .ref (He.ga K "TooMany") ∧ ∃ dd fs, d = some dd ∧ H dd = some (.xd fs)
theorem caught_at {pins : List (Addr × Obj)} {σ : L2.St} {H : Hp} {s : Shared} (hz : Zc cls d oe) (hf : ∃ vs, oe.data = .fields vs) (hc : Caught K cls d H) (I : L2.Inv (X.suite a ((a, oe) :: pn)) pins σ H s) : ∃ od, PySem.W.InstAt s.heap a oe (He.ga K "TooMany") od := by
  obtain ⟨rfl, dd, fs, rfl, hdd⟩ := hc
  obtain ⟨ha, _⟩ := I.pin (a, oe) (List.mem_append_left _ List.mem_cons_self)
  obtain ⟨vs, hd⟩ := hf
  have hx : ObjOk X.prog X.w H s.heap dd (.xd fs) := I.hok dd _ hdd
  obtain ⟨mA, hns, hr⟩ := hx
  obtain ⟨od, _, _, ho, _⟩ := hns
  exact ⟨some od, ha, hz.1, by unfold PySem.W.notCls; rw [hd] <;> rfl, by rw [hz.2]; exact ho⟩
/-- isinstance(e, c), c one class -/
def rIsX (K : PySem.W.Frag) (cls : Value) (d : Option Addr) (a : Addr) : List V → Hp → VK → Prop := fun xs H Q => Caught K cls d H ∧ ∃ (c : V) (cv : Value) (b : Bool), xs = [.ref a, c] ∧ (∀ u, RelV c u → u = cv) ∧ PySem.W.kitOne K (.ref (He.ga K "TooMany")) cv = some b ∧ Q (.bl b) H
theorem call_isX (hK : X.K = K) (E : TmI K) (hz : Zc cls d oe) (hf : ∃ vs, oe.data = .fields vs) : CallR (X.suite a ((a, oe) :: pn)) (.builtin "isinstance") (rIsX K cls d a) := by
  subst hK
  intro pins s σ H xs us Q I r h
  obtain ⟨hc, c, cv, b, rfl, hcv, e, q⟩ := h
  obtain ⟨od, J⟩ := caught_at hz hf hc I
  obtain ⟨u1, u2, rfl, r1, r2⟩ := vals2 r
  obtain rfl : u1 = Value.ref a := r1
  obtain rfl := hcv _ r2
  exact PySem.W.kia_one (PySem.W.kitx_exc E.hcl E.hga E.hgt E.hsub E.ha E.hn E.htk E.hm) I.kIn J e (fun z => nomatch z) fun tk => ⟨.bl b, H, I.kept (t' := tk) fun _ _ z => z, rfl, q⟩
/-- isinstance(e, (c1, c2, ..)) -/
def rIsXT (K : PySem.W.Frag) (cls : Value) (d : Option Addr) (a : Addr) : List V → Hp → VK → Prop := fun xs H Q => Caught K cls d H ∧ ∃ (tp : Addr) (cs : List V) (us : List Value) (b : Bool), xs = [.ref a, .ref tp] ∧ H tp = some (.tup cs) ∧ Paired ClsV cs us ∧ PySem.W.kitAny K (.ref (He.ga K "TooMany")) us = some b ∧ Q (.bl b) H
theorem call_isXT (hK : X.K = K) (E : TmI K) (hz : Zc cls d oe) (hf : ∃ vs, oe.data = .fields vs) : CallR (X.suite a ((a, oe) :: pn)) (.builtin "isinstance") (rIsXT K cls d a) := by
  subst hK
  intro pins s σ H xs us Q I r h
  obtain ⟨hc, tp, cs, ws, b, rfl, hT, k, e, q⟩ := h
  obtain ⟨od, J⟩ := caught_at hz hf hc I
  obtain ⟨u1, u2, rfl, r1, r2⟩ := vals2 r
  obtain rfl : u1 = Value.ref a := r1
  obtain rfl : u2 = Value.ref tp := r2
  obtain ⟨_, its, rv, o, h1, h2, n, h3⟩ := (show ObjOk X.prog X.w H s.heap tp (.tup cs) from I.hok tp _ hT)
  have e3 := ClsV.all k rv
  subst e3
  obtain ⟨oc, odd, dt, sl⟩ := o
  simp only at h2 h3
  subst h2 h3
  exact PySem.W.kia_tup (PySem.W.kitx_exc E.hcl E.hga E.hgt E.hsub E.ha E.hn E.htk E.hm) I.kIn J h1 e (fun z => nomatch z) fun tk => ⟨.bl b, H, I.kept (t' := tk) fun _ _ z => z, rfl, q⟩
end
section
variable {X : Cx} {CX : CXT} {k : Nat} {f : Addr} {fd : FuncData} {ps ks : List Str} {sp : Sp} {E : L2.St → XK} {x : Str} {p pos : Pos} {e : Expr} {es : List Expr} {kws : List Keyword} {t tk : TA} {g : List Value → List Value → List Value} {gV : List V → List V → List V}
/-- f(e, .., k = v), what is raised wished for at the caller's slots -/
def tCallSK (n m : Nat) (sp : Sp) (gV : List V → List V → List V) (E : L2.St → XK) (t tk : TA) : TE := fun σ H Q => t σ H fun vs H1 => tk σ H1 fun zs H2 => vs.length = n ∧ zs.length = m ∧ sp (gV vs zs) H2 Q (E σ)
theorem pe_callSK {n : Nat} (F : FnOk X.prog X.w X.K X.mg X.base CX k f fd ps sp) (hr : Room k X.A) (hg : Gl X x) (hm : X.mg x = some (.ref f)) (hk : PySem.W.keepIn X.K (.ref f) = true) (hb : KBn X.K fd ps n ks g gV) (hx : ∀ σ, PassesAt CX X σ (E σ))
    (ha : PA X (e :: es) t) (hkw : PK X kws tk) (hall : (backToKw pos (keywordEach kws X.env)).all (·.1.isSome) = true := by rfl) (hks : (backToKw pos (keywordEach kws X.env)).filterMap (·.1) = ks := by rfl)
    (hdb : (x == ("__debug__" : Str)) = false := by decide) (he : starEach (e :: es) X.env = (false, eval e X.env) :: starEach es X.env := by rfl)
    (hpl : ((backTo pos (starEach (e :: es) X.env)).any (·.1) || (backToKw pos (keywordEach kws X.env)).any (·.1.isNone)) = false := by rfl) : PE X (.Call (.Name x p) (e :: es) kws pos) (tCallSK n ks.length sp gV E t tk) := by
  refine ⟨fun pins s σ H Q I h => ?_⟩
  refine wpAny_Call_Name_kw (ld_glob I hg hm ?_ hdb)
  refine PySem.W.callWith_KW (h₀ := X.base) I.ok.mod.kin hk hall (thn (ha.run pos pins s σ H _ I h) fun us s1 ⟨vs, H1, I1, r, q⟩ => ?_) hpl he
  refine thn (hkw.run pos pins s1 σ H1 _ I1 q) fun ws s2 ⟨zs, H2, I2, rz, l1, l2, q2⟩ => ⟨I2.kIn, ?_⟩
  rw [hks]
  have r2 := hb.rel r rz
  have hl : (g us ws).length = ps.length := by rw [← r2.length]; exact F.len _ _ _ _ q2
  refine wpAny_call (codeAny_mono (F.run X.A X.stack s2 H2 ⟨us, ks.zip ws⟩ (g us ws) (gV vs zs) Q (E σ) hr I2.env0 (hb.to s2 us ws I2.kIn (r.length.symm.trans l1) (rz.length.symm.trans l2)) r2 q2) fun r s' hq => ?_)
  cases r with
  | error err => exact hx σ pins H2 s2 err s' I2 hq
  | ok fl =>
    cases fl with
    | ret u => exact I2.after hq
    | next => exact False.elim hq
    | brk => exact False.elim hq
    | cont => exact False.elim hq
end
/-! ### _law_told -/
def RMany (lim : Nat) : Rel := fun v H1 H2 => ∃ t, v = .ref t ∧ H1 t = none ∧ H2 t = some (.tup [.str "many", .int (lim : Int)])
def RRes (lim : Nat) : Rs Nd Str → Rel
  | .alike ns => RAlike ns
  | .apart l => RApart l
  | .many => RMany lim
/-- a bound that may be None -/
def bndV : Option Nat → V
  | none => .non
  | some n => .int (n : Int)
def RShape (nm : Str) (x : V) : Rel := fun v H1 H2 => ∃ t, v = .ref t ∧ H2 t = some (.tup [.str nm, x])
theorem res_mono {lim : Nat} {res : Rs Nd Str} {v : V} {H0 H1 H2 H3 : Hp} (e : Ex H0 H1) (e3 : Ex H2 H3) (h : RRes lim res v H1 H2) : RRes lim res v H0 H3 := by
  cases res with
  | alike ns =>
    obtain ⟨t, nl, qs, h1, h2, h3, h4, h5, h6, h7⟩ := h
    exact ⟨t, nl, qs, h1, fresh_back e h2, fresh_back e h3, e3 _ _ h4, e3 _ _ h5, ⟨(h6.ex e3).each, fun x hx => ⟨fresh_back e (h6.new x hx).1, fresh_back e (h6.new x hx).2.1, fresh_back e (h6.new x hx).2.2.1, fresh_back e (h6.new x hx).2.2.2⟩, h6.nd⟩, h7⟩
  | apart l =>
    obtain ⟨t, p, h1, h2, h3, h4, h5⟩ := h
    exact ⟨t, p, h1, fresh_back e h2, fresh_back e h3, e3 _ _ h4, e3 _ _ h5⟩
  | many =>
    obtain ⟨t, h1, h2, h3⟩ := h
    exact ⟨t, h1, fresh_back e h2, e3 _ _ h3⟩
def spTold (K : PySem.W.Frag) : Sp := pur fun vs H R => ∃ (S p r : Addr) (bd : Option Nat) (d : Kd) (a b : List Str), vs = [.ref S, .ref p, .ref r, bndV bd] ∧ Su K H S d ∧ KdOk d ∧ RowOk d a ∧ RowOk d b ∧ H p = some (.lst (svs a)) ∧ H r = some (.lst (svs b)) ∧ 1 ≤ bd.getD 400 ∧ bd.getD 400 ≤ 1000 ∧ R = RRes (bd.getD 400) (searchR d a b (bd.getD 400))
section
variable {P : Program} {w : World} {K : PySem.W.Frag} {mg : Str → Option Value} {base : Heap}
theorem sc_L_told : FnScope ["_law_suits_here", "_law_one", "_law_other", "_law_bound", "_law_found", "e"] ["_law_suits_here", "_law_one", "_law_other", "_law_bound"] (defScope s_L_told) := C8.fnScope_by (by decide +kernel)
theorem ok_L_told {fdC : FuncData} (T : Tp K mg) (TD : PySem.W.findIn K (.ref (He.ga K "TooMany")) "limit" = some none) (TI : TmI K) (F : FD K d_L_told) (hC : FnOk P w K mg base (L2.CX P w) 5 (He.fAd K d_compare.at_) fdC ["suits", "one", "other", "limit"] (spCompare K)) (kp : PySem.W.keepIn K (.ref (He.fAd K d_compare.at_)) = true)
    (b0 : ∃ ds, Vals [V.int 400] ds ∧ Binds K fdC ["suits", "one", "other", "limit"] ds) (bK : KBn K fdC ["suits", "one", "other", "limit"] 3 ["limit"] (fun us ws => us ++ ws) (fun vs zs => vs ++ zs)) (gC : mg "compare" = some (.ref (He.fAd K d_compare.at_))) : C8.Cal P w K mg base 6 "_law_told" (spTold K) [] := by
  obtain ⟨ds, hds, hbd⟩ := b0
  refine cal_k F T.g_law_told sc_L_told (fun _ _ _ _ _ _ us hl => match us, hl with | [_, _, _, _], _ => rfl) (fun vs H Q E h => ?_) (fun cdv A outer s H vs Q E hr h => ?_)
  · obtain ⟨R, ⟨S, p, r, bd, d, a, b, rfl, _⟩, _⟩ := h
    rfl
  · obtain ⟨R, ⟨S, p, r, bd, d, a, b, rfl, hS, hd, hA, hB, hp, hr', hl1, hl2, rfl⟩, q⟩ := h
    refine ⟨_, (pss_cons (ps_try_as (i := 5) rfl rfl (sc_L_told).nd rfl rfl ⟨rfl, by decide, .inl T.g_SuitError⟩ takes0
      (fun W pn xe tk _ => pss_cons (ps_set (i := 4) (sc_L_told).nd rfl (.inl rfl) (pe_ifExp (pt_cmpR op_isN (pv 3) pe_non (nomark _)) (pe_callSD hC hr rfl gC kp hbd hds (fun σ => passAt tk σ) (pa_cons (pv 0) (pa_cons (pv 1) (pa_cons (pv 2) pa_nil)))) (pe_callSK hC hr rfl gC kp bK (fun σ => passAt tk σ) (pa_cons (pv 0) (pa_cons (pv 1) (pa_cons (pv 2) pa_nil))) (pk_cons (pv 3) pk_nil))))
        (pss_one (ps_ret (pe_ifExp (pt_cmpR op_eq (pe_ix (k_ixT (K := K) rfl) (pv 4) pe_int (fun _ _ => rfl)) pe_str (nomark _)) (pe_tup (pa_cons pe_str (pa_cons pe_non pa_nil))) (pv 4)))))
      (fun a oe cls d pn hz hf => pss_one (ps_if (PW.pt (pw_and (pt_val (pe_callB (call_isX (K := K) rfl TI hz hf) (by rfl) T.f_isinstance boot_isinstance (pa_cons (pv 5) (pa_cons (pe_glob rfl T.g_TooMany (v := .ref (He.ga K "TooMany")) rfl) pa_nil))))
        (pw_and (pt_not (pt_val (pe_callB (call_isXT (K := K) rfl TI hz hf) (by rfl) T.f_isinstance boot_isinstance (pa_cons (pv 5) (pa_cons (pe_tup (pa_cons (pe_glob rfl T.g_Crowded (v := .ref (He.ga K "Crowded")) rfl) (pa_cons (pe_glob rfl T.g_Lonely (v := .ref (He.ga K "Lonely")) rfl) (pa_cons (pe_glob rfl T.g_NotComplete (v := .ref (He.ga K "NotComplete")) rfl) pa_nil)))) pa_nil)))))
          (pw_and1 (pt_val (pe_callB (call_isX (K := K) rfl TI hz hf) (by rfl) T.f_isinstance boot_isinstance (pa_cons (pv 5) (pa_cons (pe_bltn (by rfl) T.f_ValueError (by decide +kernel) (v := .ty "ValueError") rfl) pa_nil))))))))
        (pss_one (ps_ret (pe_tup (pa_cons pe_str (pa_cons (pe_xf ⟨TI.hga, TI.hgt, TI.hsub, TI.hd⟩ TD hz hf (pv 5)) pa_nil))))) pss_nil)))
      (pss_one (ps_ret (pe_tup (pa_cons pe_str (pa_cons pe_non pa_nil)))))), ?_⟩
    have key : ∀ (lim : Nat) (H1 : Hp) (Qx : VK) (Ex' : XK), Ex H H1 → lim = bd.getD 400 → (∀ v H2, Ex H1 H2 → (∃ nm x, RShape nm x v H1 H2 ∧ nm ≠ "many" ∧ RRes lim (searchR d a b lim) v H1 H2) → Qx v H2) →
        (searchR d a b lim = .many → ∀ dx H2, Ex H1 H2 → H1 dx = none → H2 dx = some (.xd [("limit", .int (lim : Int))]) → Ex' (.ref (He.ga K "TooMany")) (some dx) H2) → spCompare K [.ref S, .ref p, .ref r, .int (lim : Int)] H1 Qx Ex' := by
      intro lim H1 Qx Ex' e el k1 k2
      refine ⟨S, p, r, lim, d, a, b, rfl, hS.ex e, hd, hA, hB, e _ _ hp, e _ _ hr', by omega, by omega, ?_⟩
      cases hs : searchR d a b lim with
      | alike ns =>
        intro v H2 e2 rr
        refine k1 v H2 e2 ?_
        rw [hs]
        obtain ⟨t, nl, qs, h1, h2, h3, h4, h5⟩ := id rr
        exact ⟨_, _, ⟨t, h1, h4⟩, by decide, rr⟩
      | apart l =>
        intro v H2 e2 rr
        refine k1 v H2 e2 ?_
        rw [hs]
        obtain ⟨t, p', h1, h2, h3, h4, h5⟩ := id rr
        exact ⟨_, _, ⟨t, h1, h4⟩, by decide, rr⟩
      | many => exact fun dx H2 e2 h1 h2 => k2 hs dx H2 e2 h1 h2
    have rest : ∀ (lim : Nat) (H1 : Hp) (W0 : WX) (D0 : Ends) (σ0 : L2.St), lim = bd.getD 400 → Ex H H1 → D0.rt = Q → ∀ v H2, Ex H1 H2 → (∃ nm x, RShape nm x v H1 H2 ∧ nm ≠ "many" ∧ RRes lim (searchR d a b lim) v H1 H2) → tRet (tIf (tTest (tOp rEq (tOp (rIxT K) (tVar 4) (tC (.int 0))) (tC (.str "many")))) (tTup (tCons (tC (.str "odd")) (tCons (tC .non) tNil))) (tVar 4)) D0 [some (.ref S), some (.ref p), some (.ref r), some (bndV bd), some v, none] H2 := by
      intro lim H1 W0 D0 σ0 el e hD v H2 e2 ⟨nm, x, ⟨t, ev, ht⟩, hnm, hr⟩
      subst ev
      have ht' : Ev (tOp (rIxT K) (tVar 4) (tC (.int 0))) [some (.ref S), some (.ref p), some (.ref r), some (bndV bd), some (.ref t), none] H2 (.str nm) := ev_ixT (ev_var rfl) (ev_c (v := .int ((0 : Nat) : Int))) ht rfl
      refine s_retR (er_if (b := false) (R := RV (.ref t)) (et_is (et_B (ev_op ht' ev_c (rv_eq rfl))) (by simp [hnm])) (fun h => nomatch h) fun _ => er_v (ev_var rfl)) fun v' H3 e3 rv => ?_
      have rv : v' = .ref t := rv
      subst rv
      rw [hD]
      refine q _ H3 ((e.trans e2).trans e3) ?_
      rw [← el]
      exact res_mono e e3 hr
    have suite : ∀ (lim : Nat) (D0 : Ends) (a0 : Addr) (dx : Addr) (σ0 : L2.St) (H2 : Hp), lim = bd.getD 400 → searchR d a b lim = .many → Ex H H2 → D0.rt = Q → H2 dx = some (.xd [("limit", .int (lim : Int))]) → σ0[5]? = some (some (.ref a0)) →
        tIfS (tAnd (tTest (tCB (rIsX K (.ref (He.ga K "TooMany")) (some dx) a0) (tCons (tVar 5) (tCons (tC (.ref (He.ga K "TooMany"))) tNil)))) (tAnd (tNot (tTest (tCB (rIsXT K (.ref (He.ga K "TooMany")) (some dx) a0) (tCons (tVar 5) (tCons (tTup (tCons (tC (.ref (He.ga K "Crowded"))) (tCons (tC (.ref (He.ga K "Lonely"))) (tCons (tC (.ref (He.ga K "NotComplete"))) tNil)))) tNil))))) (tTest (tCB (rIsX K (.ref (He.ga K "TooMany")) (some dx) a0) (tCons (tVar 5) (tCons (tC (.ty "ValueError")) tNil))))))
          (tRet (tTup (tCons (tC (.str "many")) (tCons (tXf a0 (.ref (He.ga K "TooMany")) (some dx) (He.ga K "TooMany") "limit" (tVar 5)) tNil)))) tNext D0 σ0 H2 := by
      intro lim D0 a0 dx σ0 H2 el hs e2 hD hdx h5
      have hca : ∀ H3, Ex H2 H3 → Caught K (.ref (He.ga K "TooMany")) (some dx) H3 := fun H3 e3 => ⟨rfl, dx, _, rfl, e3 _ _ hdx⟩
      refine s_if (b := true) (et_is (et_and (a := true) (b := true) (et_test (ev_cb (ea_cons (ev_var h5) (ea_cons ev_c ea_nil)) fun H3 e3 Q' q' => ⟨hca H3 e3, _, _, true, rfl, fun u h => h, TI.isT, q' H3 (Ex.refl H3)⟩)) fun _ => et_is (et_and (a := true) (b := true) (et_is (et_not (a := false) (et_er (er_cb (ear_cons (er_v (ev_var h5)) (ear_cons (er_u (eu_tup (ea_cons ev_c (ea_cons ev_c (ea_cons ev_c ea_nil))) (by simp))) ear_nil)) ?_))) rfl) fun _ => et_test (ev_cb (ea_cons (ev_var h5) (ea_cons ev_c ea_nil)) fun H3 e3 Q' q' => ⟨hca H3 e3, _, _, true, rfl, fun u h => h, TI.isV, q' H3 (Ex.refl H3)⟩)) rfl) rfl) (fun _ H3 e3 => ?_) fun h => nomatch h
      · rintro vs H3 H4 e3 e4 ⟨v, r1, H5, rfl, e5, e6, rfl, v2, r2, H6, rfl, e7, e8, ⟨tp, rfl, _, htp⟩, rfl⟩ Q' q'
        exact ⟨hca H4 (e3.trans e4), tp, _, _, false, rfl, e8 _ _ htp, .cons (.own _) (.cons (.own _) (.cons (.own _) .nil)), TI.isN, q' _ H4 (Ex.refl H4) rfl⟩
      · refine s_retR (R := RMany lim) (EvR.imp (er_u (eu_tup (vs := [.str "many", .int (lim : Int)]) (ea_cons ev_c (ea_cons (fun H4 e4 Q' q' => ⟨_, h5, rfl, rfl, dx, _, .int (lim : Int), rfl, (e3.trans e4) _ _ hdx, rfl, q' H4 (Ex.refl H4)⟩) ea_nil)) (by simp))) fun v Ha Hb ea eb ⟨t, h1, h2, h3⟩ => ⟨t, h1, h2, h3⟩) fun v H4 e4 rr => ?_
        rw [hD]
        refine q v H4 ((e2.trans e3).trans e4) ?_
        rw [← el, hs]
        obtain ⟨t, h1, h2, h3⟩ := rr
        exact ⟨t, h1, fresh_back (e2.trans e3) h2, h3⟩
    have tst : EvT (tTest (tOp (fun x y H Q => y = V.non ∧ Q (.bl (decide (x = .non))) H) (tVar 3) (tC .non))) [some (.ref S), some (.ref p), some (.ref r), some (bndV bd), none, none] H (decide (bndV bd = .non)) := et_B (ev_op (ev_var rfl) ev_c fun H5 _ Q q => ⟨rfl, q H5 (Ex.refl H5)⟩)
    refine tst H (Ex.refl H) _ fun H1 e1 => ?_
    cases bd with
    | none =>
      refine iteT ?_
      refine (ea_cons (ev_var rfl) (ea_cons (ev_var rfl) (ea_cons (ev_var rfl) ea_nil)) : EvA _ _ H1 [.ref S, .ref p, .ref r]) H1 (Ex.refl H1) _ fun H2 e2 => ?_
      refine key 400 H2 _ _ (e1.trans e2) rfl (fun v H3 e3 hh => ?_) fun hs dx H3 e3 h1 h2 => ?_
      · exact rest 400 H2 (fun _ _ _ _ => False) _ [] rfl (e1.trans e2) rfl v H3 e3 hh
      · exact ⟨true, TI.exm, fun _ a0 ha0 => suite 400 _ a0 dx _ H3 rfl hs ((e1.trans e2).trans e3) rfl h2 rfl, fun h => nomatch h⟩
    | some n =>
      refine iteF ?_
      refine (ea_cons (ev_var rfl) (ea_cons (ev_var rfl) (ea_cons (ev_var rfl) ea_nil)) : EvA _ _ H1 [.ref S, .ref p, .ref r]) H1 (Ex.refl H1) _ fun H2 e2 => ?_
      refine (ea_cons (ev_var rfl) ea_nil : EvA _ _ H2 [.int (n : Int)]) H2 (Ex.refl H2) _ fun H3 e3 => ?_
      have e13 := (e1.trans e2).trans e3
      refine ⟨rfl, rfl, key n H3 _ _ e13 rfl (fun v H4 e4 hh => ?_) fun hs dx H4 e4 h1 h2 => ?_⟩
      · exact rest n H3 (fun _ _ _ _ => False) _ [] rfl e13 rfl v H4 e4 hh
      · exact ⟨true, TI.exm, fun _ a0 ha0 => suite n _ a0 dx _ H4 rfl hs (e13.trans e4) rfl h2 rfl, fun h => nomatch h⟩
/-- how a call of compare binds -/
theorem compare_b0 {fd : FuncData} (F : FunD K d_compare.name d_compare.qual d_compare.params d_compare.body d_compare.scope (d_compare.dvs K) (d_compare.kws K) (He.fAd K d_compare.at_) fd) : ∃ ds, Vals [V.int 400] ds ∧ Binds K fd ["suits", "one", "other", "limit"] ds :=
  FunD.binds0 (kws := [("limit", V.int 400)]) F 3 (by simp) rfl fun D doc pm an cdv ct us ks l1 l2 => match us, ks, l1, l2 with
    | [_, _, _], [_], _, _ => ⟨_, _, _, _, _, _, rfl, rfl, rfl⟩
theorem compare_bK {fd : FuncData} (F : FunD K d_compare.name d_compare.qual d_compare.params d_compare.body d_compare.scope (d_compare.dvs K) (d_compare.kws K) (He.fAd K d_compare.at_) fd) : KBn K fd ["suits", "one", "other", "limit"] 3 ["limit"] (fun us ws => us ++ ws) (fun vs zs => vs ++ zs) := by
  obtain ⟨oc, od, dV, kV, doc, pm, an, cdv, ct, osl, rfl, lk, hcd, hD, hK⟩ := F.ex
  refine ⟨fun s us ws X l1 l2 => ?_, fun r rz => r.append rz⟩
  have hd : dV = .none := by
    rcases hD with ⟨_, h⟩ | ⟨e, _⟩
    · exact h
    · exact absurd rfl e
  subst hd
  match us, ws, l1, l2 with
  | [_, _, _], [_], _, _ => exact .of_eq rfl
end
end K64
set_option Elab.async false
set_option linter.all false
set_option maxRecDepth 100000
set_option maxHeartbeats 4000000
/-! Suits.pairs, lonely, is_calm, calm_sets. -/
namespace K64
open PySem PySem.Spec PyProof.Rows L2 Evl
section
variable {P : Program} {w : World} {K : PySem.W.Frag} {mg : Str → Option Value} {base : Heap}
/-! ### lists of things -/
def RObjs {β : Type} (F : Addr → β → Hp → Prop) (bs : List β) : Rel := fun v H1 H2 => ∃ p ps, v = .ref p ∧ H1 p = none ∧ H2 p = some (.lst (rvs ps)) ∧ Paired (fun a b => F a b H2) ps bs
theorem bk_objs {β : Type} {F : Addr → β → Hp → Prop} {bs : List β} : Bk (RObjs F bs) := fun _ _ _ _ e ⟨p, ps, h1, h2, h3, h4⟩ => ⟨p, ps, h1, fresh_back e h2, h3, h4⟩
abbrev FL (a : Addr) (xs : List Str) (H : Hp) : Prop := H a = some (.lst (svs xs))
abbrev FP (a : Addr) (p : Str × Str) (H : Hp) : Prop := PairAt H a p
theorem paired_refs {β : Type} {F : Addr → β → Prop} : ∀ {vs : List V} {bs : List β}, Paired (fun b v => ∃ a, v = V.ref a ∧ F a b) bs vs → ∃ ps, vs = rvs ps ∧ Paired F ps bs
  | _, _, .nil => ⟨[], rfl, .nil⟩
  | _, _, .cons h t => by
    obtain ⟨a, rfl, ha⟩ := h
    obtain ⟨ps, rfl, hp⟩ := paired_refs t
    exact ⟨a :: ps, rfl, .cons ha hp⟩
theorem paired_mapL {α β γ : Type} {g : α → β} {F : β → γ → Prop} : ∀ {as : List α} {cs : List γ}, Paired (fun a c => F (g a) c) as cs → Paired F (as.map g) cs
  | _, _, .nil => .nil
  | _, _, .cons h t => .cons h (paired_mapL t)
theorem paired_app {α β : Type} {F : α → β → Prop} : ∀ {as as' : List α} {bs bs' : List β}, Paired F as bs → Paired F as' bs' → Paired F (as ++ as') (bs ++ bs')
  | _, _, _, _, .nil, h => h
  | _, _, _, _, .cons r t, h => .cons r (paired_app t h)
theorem paired_zip {β : Type} {F : Addr → β → Prop} : ∀ {ps : List Addr} {bs : List β}, Paired F ps bs → ∀ {z : V × β}, z ∈ (rvs ps).zip bs → ∃ a, z.1 = .ref a ∧ F a z.2
  | _, _, .nil, _, h => by simp at h
  | a :: _, b :: _, .cons r t, z, h => by
    rcases List.mem_cons.mp (show z ∈ (V.ref a, b) :: _ from h) with e | h
    · rw [e]
      exact ⟨a, rfl, r⟩
    · exact paired_zip t h
theorem paired_of_mem {β : Type} {F : Addr → β → Prop} : ∀ {zs : List (V × β)}, (∀ z ∈ zs, ∃ a, z.1 = .ref a ∧ F a z.2) → Paired (fun b v => ∃ a, v = V.ref a ∧ F a b) (zs.map Prod.snd) (zs.map Prod.fst)
  | [], _ => .nil
  | z :: r, h => .cons (h z List.mem_cons_self) (paired_of_mem fun y hy => h y (List.mem_cons_of_mem _ hy))
/-- [e for x in xs], xs a list of things at addresses -/
theorem er_compPd {β : Type} {σ : L2.St} {H : Hp} {wi : TI} {tt : TT} {te : TE} {vs : List Nat} {j : Nat} {ps : List Addr} {bs : List β} {G : Addr → β → Hp → Prop} (hI : EvI wi σ H (rvs ps).length (YAt (rvs ps))) (hp : Paired (fun a b => G a b H) ps bs) (hG : ∀ a b A B, Ex A B → G a b A → G a b B) (hz : ps.length ≤ 100000) (p : β → Bool) (Rl : β → Rel) (F : β → V → Hp → Prop)
    (hF : ∀ y v A B, Ex A B → F y v A → F y v B) (hR : ∀ y v A B D, H D = none → Ex H A → A D ≠ none → Ex A B → Rl y v A B → F y v (hideA D B)) (hw : ∀ x, wipe ((wipe σ vs).set j (some x)) vs = wipe σ vs)
    (ht : ∀ a b H1, Ex H H1 → G a b H1 → b ∈ bs → EvT tt ((wipe σ vs).set j (some (.ref a))) H1 (p b)) (he : ∀ a b H1, Ex H H1 → G a b H1 → b ∈ bs → p b = true → EvR te ((wipe σ vs).set j (some (.ref a))) H1 (Rl b)) : EvR (tLc wi (gName j) tt te vs) σ H (RComp (bs.filter p) F) := by
  have hlen := Paired.length hp
  refine er_comp hI bs (by rw [List.length_map]; exact hlen.symm) (by rw [List.length_map]; exact hz) p Rl F hF hR fun i y x H1 H2 hy e yy => ?_
  obtain ⟨rfl, hx⟩ := yy
  have hi : i < ps.length := by have := (List.getElem?_eq_some_iff.mp hy).1; omega
  have ha : ps[i]? = some ps[i] := List.getElem?_eq_getElem hi
  obtain ⟨b, h1, h2⟩ := paired_at hp ha
  rw [hy] at h1
  cases h1
  rw [List.getElem?_map, ha] at hx
  cases hx
  exact ⟨Ex.refl _, fun Qg k => k _ _ (Ex.refl _) (hw _) (ht _ _ _ e (hG _ _ _ _ e h2) (List.mem_of_getElem? hy)) fun hp => he _ _ _ e (hG _ _ _ _ e h2) (List.mem_of_getElem? hy) hp⟩
/-- xs + [..] of things at addresses -/
theorem er_catObjs {β : Type} {σ : L2.St} {H : Hp} {ta tb : TE} {F : Addr → β → Hp → Prop} {p : Addr} {ps : List Addr} {bs cs : List β} (hF : ∀ a b A B, Ex A B → F a b A → F a b B) (ha : Ev ta σ H (.ref p)) (hp : H p = some (.lst (rvs ps))) (hps : Paired (fun a b => F a b H) ps bs) (hb : EvR tb σ H (RObjs F cs)) (hz : bs.length + cs.length ≤ 100000) : EvR (tOp rCat ta tb) σ H (RObjs F (bs ++ cs)) :=
  er_op (er_v ha) hb fun x y H1 H2 H3 e1 e2 e3 rx ry Q q => by
    have rx : x = .ref p := rx
    subst rx
    obtain ⟨l, ls, rfl, hl, hl', hls⟩ := ry
    have l1 := Paired.length hps
    have l2 := Paired.length hls
    refine ⟨p, l, _, _, rfl, rfl, ((e1.trans e2).trans e3) _ _ hp, hl', sz_of (by rw [List.length_map, List.length_map]; omega), fun t ht => q _ _ (Ex.new ht) ⟨t, ps ++ ls, rfl, fresh_back (e2.trans e3) ht, ?_, ?_⟩⟩
    · rw [upd_same]
      show _ = some (HO.lst (List.map V.ref (_ ++ _)))
      rw [List.map_append]
    · have en := Ex.new (o := HO.lst (rvs ps ++ rvs ls)) ht
      exact paired_app (Paired.mapP hps fun a b h => hF _ _ _ _ (((e1.trans e2).trans e3).trans en) h) (Paired.mapP hls fun a b h => hF _ _ _ _ en h)
theorem er_ofComp {α β : Type} {σ : L2.St} {H : Hp} {te : TE} {F : Addr → β → Hp → Prop} {ys : List α} (g : α → β) (h : EvR te σ H (RComp ys fun y v H => ∃ a, v = .ref a ∧ F a (g y) H)) : EvR te σ H (RObjs F (ys.map g)) :=
  EvR.imp h fun v H1 H2 _ _ ⟨p, vs, h1, h2, h3, h4⟩ => by
    have h5 : Paired (fun b v => ∃ a, v = V.ref a ∧ F a b H2) (ys.map g) vs := paired_mapL h4
    obtain ⟨ps, rfl, h6⟩ := paired_refs h5
    exact ⟨p, ps, h1, h2, h3, h6⟩
/-- sorted(xs), xs new, of things that read as data -/
theorem er_sortedObjs {β : Type} [DecidableEq β] [PySem.W.Datum β] {σ : L2.St} {H : Hp} {te : TE} {F : Addr → β → Hp → Prop} {bs : List β} (hd : ∀ a b A, F a b A → Dp K A (.ref a) (PySem.W.Datum.toD b)) (hF : ∀ a b A B, Ex A B → F a b A → F a b B) (hal : PySem.W.AllAlike (bs.map PySem.W.Datum.toD)) (hs : PySem.W.Sortable (bs.map PySem.W.Datum.toD)) (hz : bs.length ≤ 100000) (hdp : PySem.W.Datum.depth β ≤ 40)
    (h : EvR te σ H (RObjs F bs)) : EvR (tCB (rSortedD K) (tCons te tNil)) σ H (RObjs F (bs.mergeSort (PySem.W.dataLe (β := β) false fun b => PySem.W.Datum.toD b))) := fun H1 e Q q =>
  h H1 e _ fun v H2 e2 ⟨p, ps, ev, hp, hp', hps⟩ => by
    subst ev
    have hl := Paired.length hps
    have z1 : ((rvs ps).zip bs).map Prod.fst = rvs ps := List.map_fst_zip (by rw [List.length_map]; omega)
    have z2 : ((rvs ps).zip bs).map Prod.snd = bs := List.map_snd_zip (by rw [List.length_map]; omega)
    have hm : ∀ z ∈ (rvs ps).zip bs, ∃ a, z.1 = .ref a ∧ F a z.2 H2 := fun z hz => paired_zip hps hz
    refine ⟨p, β, fun b => PySem.W.Datum.toD b, (rvs ps).zip bs, rfl, SqL.of (by rw [z1]; exact hp'), fun z hz => ?_, by rw [show ((rvs ps).zip bs).map (fun z => PySem.W.Datum.toD z.2) = (((rvs ps).zip bs).map Prod.snd).map PySem.W.Datum.toD by rw [List.map_map]; rfl, z2]; exact hal, by rw [show ((rvs ps).zip bs).map (fun z => PySem.W.Datum.toD z.2) = (((rvs ps).zip bs).map Prod.snd).map PySem.W.Datum.toD by rw [List.map_map]; rfl, z2]; exact hs, by rw [List.length_zip, List.length_map]; omega, fun z hz => Nat.le_trans (PySem.W.Datum.depth_le _) hdp, fun t ht => ?_⟩
    · obtain ⟨a, ea, ha⟩ := hm z hz
      rw [ea]
      exact hd a z.2 H2 ha
    · have en := Ex.new (o := HO.lst ((((rvs ps).zip bs).mergeSort (PySem.W.dataLe false fun z => PySem.W.Datum.toD z.2)).map Prod.fst)) ht
      refine q _ _ (e2.trans en) ?_
      have hs2 : (((rvs ps).zip bs).mergeSort (PySem.W.dataLe false fun z => PySem.W.Datum.toD z.2)).map Prod.snd = bs.mergeSort (PySem.W.dataLe (β := β) false fun b => PySem.W.Datum.toD b) := by
        conv => rhs; rw [← z2]
        exact List.map_mergeSort fun a _ b _ => rfl
      have hm2 : ∀ z ∈ ((rvs ps).zip bs).mergeSort (PySem.W.dataLe false fun z => PySem.W.Datum.toD z.2), ∃ a, z.1 = .ref a ∧ F a z.2 (upd H2 t (.lst ((((rvs ps).zip bs).mergeSort (PySem.W.dataLe false fun z => PySem.W.Datum.toD z.2)).map Prod.fst))) := fun z hz => by
        obtain ⟨a, h1, h2⟩ := hm z ((List.mergeSort_perm _ _).mem_iff.mp hz)
        exact ⟨a, h1, hF _ _ _ _ en h2⟩
      have h5 := paired_of_mem (F := fun a b => F a b (upd H2 t (.lst ((((rvs ps).zip bs).mergeSort (PySem.W.dataLe false fun z => PySem.W.Datum.toD z.2)).map Prod.fst)))) hm2
      rw [hs2] at h5
      obtain ⟨qs, h6, h7⟩ := paired_refs h5
      refine ⟨t, qs, rfl, fresh_back e2 ht, ?_, h7⟩
      rw [upd_same, h6]
/-! ### pairs, lonely -/
def spPairs (K : PySem.W.Frag) : Sp := pur fun vs H R => ∃ S d k p m dx ma pa, vs = [.ref S] ∧ SuAt K H S d k p m dx ma pa ∧ R = RL (rvs pa)
theorem sc_S_pairs : FnScope ["self"] ["self"] (defScope s_S_pairs) := C8.fnScope_by (by decide +kernel)
theorem ok_S_pairs (T : Tp K mg) (F : FD K d_S_pairs) : C8.Met P w K mg base 1 (He.ga K "Suits") "pairs" (spPairs K) [] := by
  refine met_k T.cl T.m_pairs F sc_S_pairs (fun _ _ _ _ _ _ us hl => match us, hl with | [_], _ => rfl) (fun vs H Q E h => ?_) (fun cdv A outer s H vs Q E hr h => ?_)
  · obtain ⟨R, ⟨S, d, k, p, m, dx, ma, pa, rfl, _⟩, _⟩ := h
    rfl
  · obtain ⟨R, ⟨S, d, k, p, m, dx, ma, pa, rfl, hS, rfl⟩, q⟩ := h
    refine ⟨_, (pss_one (ps_ret (pe_callTy (k_list (K := K) rfl) (by rfl) T.f_list PyProof.Rows.boot_list (pa_cons (k_fld (K := K) rfl (pv 0) rfl) pa_nil)))), ?_⟩
    exact s_retR (er_l (el_list (ev_fld (ev_var rfl) hS.ins T.cl T.n_its_pairs rfl) (SqL.of hS.pairs))) q
def lonelyR (d : Kd) : List Str := d.sk.filter fun k => decide (d.mates k = [])
def spLonely (K : PySem.W.Frag) : Sp := pur fun vs H R => ∃ S d, vs = [.ref S] ∧ Su K H S d ∧ KdOk d ∧ R = RL (svs (lonelyR d))
theorem sc_S_lonely : FnScope ["self", "kind"] ["self"] (defScope s_S_lonely) := C8.fnScope_by (by decide +kernel)
theorem mates_sub {d : Kd} {k x : Str} (h : x ∈ d.mates k) : x ∈ d.sk := (List.mem_filter.mp h).1
theorem ok_S_lonely (T : Tp K mg) (F : FD K d_S_lonely) : C8.Met P w K mg base 1 (He.ga K "Suits") "lonely" (spLonely K) [] := by
  refine met_k T.cl T.m_lonely F sc_S_lonely (fun _ _ _ _ _ _ us hl => match us, hl with | [_], _ => rfl) (fun vs H Q E h => ?_) (fun cdv A outer s H vs Q E hr h => ?_)
  · obtain ⟨R, ⟨S, d, rfl, _⟩, _⟩ := h
    rfl
  · obtain ⟨R, ⟨S, d, rfl, ⟨k, p, m, dx, ma, pa, hS⟩, hd, rfl⟩, q⟩ := h
    have := hd.len
    refine ⟨_, (pss_one (ps_ret (pe_lc (own := [("kind", 1)]) (g := (gName 1)) (by rfl) (sc_S_lonely).nd (k_piList (K := K) rfl (k_fld (K := K) rfl (pv 0) rfl)) (blkOk_by (own := [("kind", 1)]) (N := ["self", "kind"]) (sc := defScope s_S_lonely) (by decide +kernel)) (fun _ _ _ _ _ => (pg_name (i := 1) (sc_S_lonely).nd rfl (by first | exact .inl rfl | exact .inr rfl))) (fun _ _ _ _ _ => (pts_one (pt_cmpR (k_eqD (K := K) rfl hr) (pe_dget (hu_of hr) (k_fld (K := K) rfl (pv 0) rfl) (pv 1) (fun _ _ => rfl)) (pe_lst pa_nil) (nomark _)))) (fun _ _ _ _ _ => (pv 1))))), ?_⟩
    refine s_retR (er_l (el_is (el_compN (α := Str) V.str (ei_list (ev_fld (ev_var rfl) hS.ins T.cl T.n_its_kinds rfl) (SqL.of hS.kinds)) rfl (by omega) (fun k => decide (d.mates k = [])) V.str (fun _ => rfl) (fun y hy H1 e => ?_) (fun y hy _ H1 e => ev_var rfl)) rfl)) q
    have hS1 := hS.ex e
    exact et_B (ev_opL (ev_dget (ev_fld (ev_var rfl) hS1.ins T.cl T.n_its_mates rfl) (ev_var rfl) hS1.mates (Su.mate hS1 hy)) (el_lst ea_nil (by simp)) fun p H2 hp e2 => rv_eqS (e2 _ _ (hS1.mate y hy)) hp (fun x hx => (hd.good x (mates_sub hx)).ok) fun x hx => nomatch hx)
theorem alike_strs : ∀ xs ys : List Str, PySem.W.alikeAll (xs.map PySem.W.Datum.toD) (ys.map PySem.W.Datum.toD) = true
  | [], _ => by simp [PySem.W.alikeAll]
  | _ :: _, [] => by simp [PySem.W.alikeAll]
  | x :: xs, y :: ys => by
    rw [List.map_cons, List.map_cons, PySem.W.alikeAll, alike_strs xs ys, Bool.and_true]
    show PySem.W.alike (.str x) (.str y) = true
    simp [PySem.W.alike]
theorem alike_svs (xs ys : List Str) : PySem.W.alike (PySem.W.Datum.toD xs) (PySem.W.Datum.toD ys) = true := by
  show PySem.W.alike (.list _) (.list _) = true
  rw [PySem.W.alike]
  exact alike_strs xs ys
/-! ### is_calm, calm_sets -/
def calmB (d : Kd) (ks : List Str) : Bool := !((d.matesAll ks).any fun k => decide (k ∈ ks))
def spCalm (K : PySem.W.Frag) : Sp := pur fun vs H R => ∃ S d l ks, vs = [.ref S, .ref l] ∧ Su K H S d ∧ d.sk.length ≤ 100 ∧ H l = some (.lst (svs ks)) ∧ R = RV (.bl (calmB d ks))
theorem sc_S_is_calm : FnScope ["self", "kinds", "kind"] ["self", "kinds"] (defScope s_S_is_calm) := C8.fnScope_by (by decide +kernel)
theorem matesAll_len (d : Kd) (ks : List Str) : (d.matesAll ks).length ≤ d.sk.length := List.length_filter_le _ _
/-- a method of the suits, all arguments standing -/
theorem er_methA' {σ : L2.St} {H : Hp} {D : List V → Hp → Rel → Prop} {ta : TE} {t : TA} {E : XK} {R : Rel} {S : Addr} {d : Kd} {m : Str} {vs : List V} (ho : Ev ta σ H (.ref S)) (hS : Su K H S d) (h1 : m ≠ "its_kinds") (h2 : m ≠ "its_pairs") (h3 : m ≠ "its_mates") (h : EvA t σ H vs)
    (hd : ∀ H1, Ex H H1 → D (.ref S :: (vs ++ [])) H1 R) (hR : Bk R) : EvR (tMeth (He.ga K "Suits") m (pur D) [] E ta t) σ H R := by
  obtain ⟨dx, fs, z1, z2⟩ := hS.ref
  exact er_methA ho z1 (z2 m h1 h2 h3) h hd hR
theorem ok_S_is_calm (T : Tp K mg) (F : FD K d_S_is_calm) (c_S_mates : C8.Met P w K mg base 1 (He.ga K "Suits") "mates" (spMates K) []) : C8.Met P w K mg base 2 (He.ga K "Suits") "is_calm" (spCalm K) [] := by
  refine met_k T.cl T.m_is_calm F sc_S_is_calm (fun _ _ _ _ _ _ us hl => match us, hl with | [_, _], _ => rfl) (fun vs H Q E h => ?_) (fun cdv A outer s H vs Q E hr h => ?_)
  · obtain ⟨R, ⟨S, d, l, ks, rfl, _⟩, _⟩ := h
    rfl
  · obtain ⟨R, ⟨S, d, l, ks, rfl, hS, hd, hl, rfl⟩, q⟩ := h
    have := matesAll_len d ks
    refine ⟨_, (pss_one (ps_ret (pe_not (pe_callB (k_any (K := K) rfl rfl) (by rfl) T.f_any boot_any (pa_cons (pe_lc (own := [("kind", 2)]) (g := (gName 2)) (by rfl) (sc_S_is_calm).nd (k_piList (K := K) rfl (C8.pe_mt c_S_mates hr (by decide) (pv 0) (pa_cons (pv 1) pa_nil))) (blkOk_by (own := [("kind", 2)]) (N := ["self", "kinds", "kind"]) (sc := defScope s_S_is_calm) (by decide +kernel)) (fun _ _ _ _ _ => (pg_name (i := 2) (sc_S_is_calm).nd rfl (by first | exact .inl rfl | exact .inr rfl))) (fun _ _ _ _ _ => pts_nil) (fun _ _ _ _ _ => (pe_cmpR (k_in (K := K) rfl) (pv 2) (pv 1) (by rfl)))) pa_nil))))), ?_⟩
    refine s_ret (ev_notV (ev_any (ys := d.matesAll ks) (g := fun k => decide (k ∈ ks)) (el_compN (α := Str) V.str (ei_listN (el_mates (ev_var rfl) hS hd (ev_var rfl) hl)) rfl (by omega) (fun _ => true) _ (fun _ => rfl) (fun _ _ _ _ => et_yes) fun y hy _ H2 e2 => ev_inS (ev_var rfl) (ev_var rfl) (SqL.of (e2 _ _ hl))))) fun H2 e2 => q _ H2 e2 rfl
def calmAll : List Str → List (List Str) → List (List Str)
  | [], f => f
  | k :: r, f => calmAll r (f ++ f.map fun s => s ++ [k])
def calmLe (a b : List Str) : Bool := PySem.W.dataLe (β := List Str) false (fun s => PySem.W.Datum.toD s) a b
def calmR (d : Kd) : List (List Str) := ((calmAll d.sk [[]]).filter (calmB d)).mergeSort calmLe
abbrev FLn (H0 : Hp) (a : Addr) (xs : List Str) (H : Hp) : Prop := H0 a = none ∧ H a = some (.lst (svs xs))
def RCalm (d : Kd) : Rel := fun v H1 H2 => RObjs (FLn H1) (calmR d) v H1 H2
def spCalmSets (K : PySem.W.Frag) : Sp := pur fun vs H R => ∃ S d, vs = [.ref S] ∧ Su K H S d ∧ KdOk d ∧ R = RCalm d
theorem sc_S_calm_sets : FnScope ["self", "found", "kind", "some"] ["self"] (defScope s_S_calm_sets) := C8.fnScope_by (by decide +kernel)
theorem calmAll_snoc (k : Str) : ∀ (ks : List Str) (f : List (List Str)), calmAll (ks ++ [k]) f = calmAll ks f ++ (calmAll ks f).map fun s => s ++ [k]
  | [], f => rfl
  | a :: r, f => calmAll_snoc k r _
theorem calmAll_len : ∀ (ks : List Str) (f : List (List Str)), (calmAll ks f).length = f.length * 2 ^ ks.length
  | [], f => by simp [calmAll]
  | k :: r, f => by
    unfold calmAll
    rw [calmAll_len r, List.length_append, List.length_map, List.length_cons, Nat.pow_succ]
    have : (f.length + f.length) = f.length * 2 := by omega
    rw [this, Nat.mul_assoc, Nat.mul_comm 2]
theorem calmAll_in {sk : List Str} : ∀ (ks : List Str) (f : List (List Str)) (n : Nat), (∀ k ∈ ks, k ∈ sk) → (∀ s ∈ f, s.length ≤ n ∧ ∀ x ∈ s, x ∈ sk) → ∀ s ∈ calmAll ks f, s.length ≤ n + ks.length ∧ ∀ x ∈ s, x ∈ sk
  | [], f, n, _, h => h
  | k :: r, f, n, hk, h => by
    unfold calmAll
    intro s hs
    have := calmAll_in r _ (n + 1) (fun x hx => hk x (List.mem_cons_of_mem _ hx)) (fun s hs => ?_) s hs
    · exact ⟨by have := this.1; rw [List.length_cons]; omega, this.2⟩
    · rcases List.mem_append.mp hs with hs | hs
      · exact ⟨by have := (h s hs).1; omega, (h s hs).2⟩
      · obtain ⟨t, ht, rfl⟩ := List.mem_map.mp hs
        refine ⟨by have := (h t ht).1; simp; omega, fun x hx => ?_⟩
        rcases List.mem_append.mp hx with hx | hx
        · exact (h t ht).2 x hx
        · have e : x = k := by simpa using hx
          rw [e]
          exact hk k List.mem_cons_self
theorem ok_S_calm_sets (T : Tp K mg) (F : FD K d_S_calm_sets) (c_S_is_calm : C8.Met P w K mg base 2 (He.ga K "Suits") "is_calm" (spCalm K) []) : C8.Met P w K mg base 3 (He.ga K "Suits") "calm_sets" (spCalmSets K) [] := by
  refine met_k T.cl T.m_calm_sets F sc_S_calm_sets (fun _ _ _ _ _ _ us hl => match us, hl with | [_], _ => rfl) (fun vs H Q E h => ?_) (fun cdv A outer s H vs Q E hr h => ?_)
  · obtain ⟨R, ⟨S, d, rfl, _⟩, _⟩ := h
    rfl
  · obtain ⟨R, ⟨S, d, rfl, hSu, hd, rfl⟩, q⟩ := h
    have hd8 := hd.len
    obtain ⟨k, p, m, dx, ma, pa, hS⟩ := id hSu
    refine ⟨_, (pss_cons (ps_set (i := 1) (sc_S_calm_sets).nd rfl (.inl rfl) (pe_lst (pa_cons (pe_lst pa_nil) pa_nil)))
  (pss_cons (ps_for PassesOwn.never rfl (k_piList (K := K) rfl (k_fld (K := K) rfl (pv 0) rfl)) (pg_name (i := 2) (sc_S_calm_sets).nd rfl (.inr rfl))
  (pss_one (ps_set (i := 1) (sc_S_calm_sets).nd rfl (.inl rfl) (pe_op op_cat (pv 1) (pe_lc (own := [("some", 3)]) (g := (gName 3)) (by rfl) (sc_S_calm_sets).nd (k_piList (K := K) rfl (pv 1)) (blkOk_by (own := [("some", 3)]) (N := ["self", "found", "kind", "some"]) (sc := defScope s_S_calm_sets) (by decide +kernel)) (fun _ _ _ _ _ => (pg_name (i := 3) (sc_S_calm_sets).nd rfl (by first | exact .inl rfl | exact .inr rfl))) (fun _ _ _ _ _ => pts_nil) (fun _ _ _ _ _ => (pe_lst (k_star (K := K) rfl (pv 3) (pa_cons (pv 2) pa_nil)))))))))
  (pss_one (ps_ret (pe_callB (k_sortedD (K := K) rfl hr) (by rfl) T.f_sorted boot_sorted (pa_cons (pe_lc (own := [("some", 3)]) (g := (gName 3)) (by rfl) (sc_S_calm_sets).nd (k_piList (K := K) rfl (pv 1)) (blkOk_by (own := [("some", 3)]) (N := ["self", "found", "kind", "some"]) (sc := defScope s_S_calm_sets) (by decide +kernel)) (fun _ _ _ _ _ => (pg_name (i := 3) (sc_S_calm_sets).nd rfl (by first | exact .inl rfl | exact .inr rfl))) (fun _ _ _ _ _ => (pts_one (pt_val (C8.pe_mt c_S_is_calm hr (by decide) (pv 0) (pa_cons (pv 3) pa_nil))))) (fun _ _ _ _ _ => (pv 3))) pa_nil)))))), ?_⟩
    have hsk : ∀ (a : Addr) (b : List Str) (A B : Hp), Ex A B → FLn H a b A → FLn H a b B := fun a b A B e h => ⟨h.1, e _ _ h.2⟩
    refine q_asgR (er_lstN (el_lst ea_nil (by simp))) fun v H1 e1 ⟨f0, l0, ev, n1, n2, n3, n4, n5⟩ => ?_
    subst ev
    have hS1 := hS.ex e1
    refine q_forE (ei_list (ev_fld (ev_var rfl) hS1.ins T.cl T.n_its_kinds rfl) (SqL.of hS1.kinds)) (fun i σ' H' => ∃ (fl : Addr) (ps : List Addr) (y2 y3 : Option V), σ' = [some (.ref S), some (.ref fl), y2, y3] ∧ H' fl = some (.lst (rvs ps)) ∧ Paired (fun a b => FLn H a b H') ps (calmAll (d.sk.take i) [[]]))
      (fun H2 e2 => ⟨f0, [l0], _, _, rfl, e2 _ _ n4, .cons ⟨n2, e2 _ _ n5⟩ .nil⟩) ?_ ?_
    · rintro Hs i x σ' H2 H3 hi e2 e3 ⟨fl, ps, y2, y3, rfl, hfl, hps⟩ ⟨rfl, hx⟩
      have hi' : i < d.sk.length := by rw [svs_len] at hi; exact hi
      rw [List.getElem?_map, List.getElem?_eq_getElem hi'] at hx
      cases hx
      have hlen : (calmAll (d.sk.take i) [[]]).length ≤ 256 := by
        rw [calmAll_len]
        have : (d.sk.take i).length ≤ 8 := by rw [List.length_take]; omega
        have := Nat.pow_le_pow_right (n := 2) (by omega) this
        simpa using this
      have hlp := Paired.length hps
      refine s_asgR (er_catObjs hsk (ev_var rfl) hfl hps (er_ofComp (fun s => s ++ [d.sk[i]]) (er_compPd (G := FLn H) (p := fun _ => true) (Rl := fun s => RL (svs (s ++ [d.sk[i]]))) (F := fun y v H' => ∃ a, v = .ref a ∧ FLn H a (y ++ [d.sk[i]]) H') (ei_list (ev_var rfl) (SqL.of hfl)) hps hsk (by omega) (fun y v A B e ⟨a, h1, h2, h3⟩ => ⟨a, h1, h2, e _ _ h3⟩) (fun y v A B D _ eA hA e ⟨a, h1, h2, h3⟩ => ⟨a, h1, fresh_back (((e1.trans e2).trans e3).trans eA) h2, (hideA_ne (fun q => hA (by rw [← q]; exact h2))).trans h3⟩) (fun _ => rfl) (fun _ _ _ _ _ _ => et_yes) (fun a b H4 e4 g hm _ => er_l (el_is (el_starL (ev_var rfl) g.2 (ea_cons (ev_var rfl) ea_nil) ?_) (by simp))))) ?_) fun v H4 e4 ⟨l4, ps4, ev, _, h2, h3⟩ => ?_
      · have := (calmAll_in (sk := d.sk) (d.sk.take i) [[]] 0 (fun k hk => List.mem_of_mem_take hk) (fun s hs => by
          have e : s = [] := by simpa using hs
          rw [e]
          exact ⟨Nat.le_refl _, fun x hx => nomatch hx⟩) b hm).1
        rw [List.length_take] at this
        rw [svs_len]
        simp
        omega
      · rw [filt_tt, List.length_map]; omega
      · subst ev
        refine ⟨e3.trans e4, l4, ps4, _, _, rfl, h2, ?_⟩
        rw [filt_tt] at h3
        rw [List.take_add_one, List.getElem?_eq_getElem hi', Option.toList_some, calmAll_snoc]
        exact h3
    · rintro σ' H2 e2 ⟨fl, ps, y2, y3, rfl, hfl, hps⟩
      rw [svs_len, List.take_length] at hps
      have e12 := e1.trans e2
      have hlen : (calmAll d.sk [[]]).length ≤ 256 := by
        rw [calmAll_len]
        have := Nat.pow_le_pow_right (n := 2) (by omega) hd8
        simpa using this
      have hlp := Paired.length hps
      have hcv : ∀ v H3, Ex H2 H3 → RObjs (FLn H) (((calmAll d.sk [[]]).filter (calmB d)).map fun s => s) v H2 H3 → RObjs (FLn H) ((calmAll d.sk [[]]).filter (calmB d)) v H2 H3 := fun v H3 _ r => by rw [List.map_id'] at r; exact r
      refine s_retR (er_sortedObjs (bs := (calmAll d.sk [[]]).filter (calmB d)) (fun a b A h => dp_list (SqL.of h.2)) hsk (PySem.W.AllAlike.of fun a b => alike_svs a b) (PySem.W.Sortable.others fun b => ⟨(fun h => nomatch h), fun xs h => nomatch h⟩) (by have := List.length_filter_le (calmB d) (calmAll d.sk [[]]); omega) (by decide) (EvR.imp (er_ofComp (F := FLn H) (fun s => s) (er_compPd (G := fun a b _ => FLn H a b H2) (p := calmB d) (Rl := fun s => fun v _ _ => ∃ a, v = .ref a ∧ FLn H a s H2) (F := fun y v H' => ∃ a, v = .ref a ∧ FLn H a y H') (ei_list (ev_var rfl) (SqL.of hfl)) hps (fun _ _ _ _ _ h => h) (by omega) (fun y v A B e ⟨a, h1, h2, h3⟩ => ⟨a, h1, h2, e _ _ h3⟩) (fun y v A B D hD eA hA e ⟨a, h1, h0, h2⟩ => ⟨a, h1, h0, ?_⟩) (fun _ => rfl) (fun a b H3 e3 g hm => ?_) (fun a b H3 e3 g hm _ => ?_))) (fun v Ha Hb _ _ r => by rw [List.map_id'] at r; exact r))) fun v H3 e3 r => q v H3 (e12.trans e3) ?_
      · show hideA D B a = _
        exact (hideA_ne (ne_of_none h2 hD)).trans (e _ _ (eA _ _ h2))
      · exact et_test (ev_of (er_methA' (ev_var rfl) (hSu.ex (e12.trans e3)) (by decide) (by decide) (by decide) (ea_cons (ev_var rfl) ea_nil) (fun H4 e4 => ⟨S, d, a, b, rfl, hSu.ex ((e12.trans e3).trans e4), by omega, e4 _ _ (e3 _ _ g.2), rfl⟩) bk_v))
      · exact EvR.imp (er_v (ev_var rfl)) fun v Ha Hb _ _ r => ⟨a, r, g⟩
      · exact bk_objs (F := FLn H) _ _ _ _ e12 r
end
end K64
set_option Elab.async false
set_option linter.all false
set_option maxRecDepth 100000
set_option maxHeartbeats 4000000
/-! The law's own plan: fit, mates, read. -/
namespace K64
open PySem PySem.Spec PyProof.Rows L2 Evl
structure Pl where
  ks : List Str
  ps : List (Str × Str)
structure PlA (H : Hp) (D kl pl : Addr) (pa : List Addr) (q : Pl) : Prop where
  dict : H D = some (.dK [(Sum.inr "kinds", .ref kl), (Sum.inr "pairs", .ref pl)])
  kinds : H kl = some (.lst (svs q.ks))
  pairs : H pl = some (.lst (rvs pa))
  pair : Paired (PairAt H) pa q.ps
def PlAt (H : Hp) (D : Addr) (q : Pl) : Prop := ∃ kl pl pa, PlA H D kl pl pa q
theorem PlA.ex {H H' : Hp} {D kl pl : Addr} {pa : List Addr} {q : Pl} (h : PlA H D kl pl pa q) (e : Ex H H') : PlA H' D kl pl pa q := ⟨e _ _ h.dict, e _ _ h.kinds, e _ _ h.pairs, Paired.mapP h.pair fun _ _ x => e _ _ x⟩
theorem PlAt.ex {H H' : Hp} {D : Addr} {q : Pl} (h : PlAt H D q) (e : Ex H H') : PlAt H' D q := by
  obtain ⟨kl, pl, pa, h⟩ := h
  exact ⟨kl, pl, pa, h.ex e⟩
structure PlOk (q : Pl) : Prop where
  nd : q.ks.Nodup
  good : ∀ x ∈ q.ks, GoodK x
  pos : 1 ≤ q.ks.length
  len : q.ks.length ≤ 8
  pin : ∀ p ∈ q.ps, p.1 ∈ q.ks ∧ p.2 ∈ q.ks
  pnd : (q.ps.map fun p => ord2 p.1 p.2).Nodup
  plen : q.ps.length ≤ 36
def pairLe (a b : Str × Str) : Bool := PySem.W.dataLe (β := Str × Str) false (fun s => PySem.W.Datum.toD s) a b
def Pl.kd (q : Pl) : Kd := ⟨sortS q.ks, (q.ps.map fun p => ord2 p.1 p.2).mergeSort pairLe⟩
theorem ord2_eq {a b c e : Str} : ord2 a b = ord2 c e ↔ (c, e) = (a, b) ∨ (c, e) = (b, a) := by
  unfold ord2
  constructor
  · intro h
    split at h <;> split at h
    · exact .inl h.symm
    · exact .inr (by rw [Prod.mk.injEq] at h ⊢; exact ⟨h.2.symm, h.1.symm⟩)
    · exact .inr h.symm
    · exact .inl (by rw [Prod.mk.injEq] at h ⊢; exact ⟨h.2.symm, h.1.symm⟩)
  · rintro (h | h)
    · rw [Prod.mk.injEq] at h
      obtain ⟨rfl, rfl⟩ := h
      rfl
    · rw [Prod.mk.injEq] at h
      obtain ⟨rfl, rfl⟩ := h
      by_cases h1 : c.cps.toList ≤ e.cps.toList
      · by_cases h2 : e.cps.toList ≤ c.cps.toList
        · have : c = e := str_ext (List.le_antisymm h1 h2)
          subst this
          rfl
        · rw [if_pos h1, if_neg h2]
      · have h2 : e.cps.toList ≤ c.cps.toList := (List.le_total _ _).resolve_left h1
        rw [if_neg h1, if_pos h2]
theorem fit_eq (q : Pl) (a b : Str) : q.kd.fit a b = (decide ((a, b) ∈ q.ps) || decide ((b, a) ∈ q.ps)) := by
  rw [Bool.eq_iff_iff, Bool.or_eq_true, decide_eq_true_eq, decide_eq_true_eq]
  unfold Kd.fit Pl.kd
  rw [decide_eq_true_eq]
  show ord2 a b ∈ List.mergeSort _ _ ↔ _
  rw [(List.mergeSort_perm _ _).mem_iff, List.mem_map]
  constructor
  · rintro ⟨⟨c, e⟩, hm, h⟩
    rcases ord2_eq.mp h.symm with h | h
    · rw [h] at hm
      exact .inl hm
    · rw [h] at hm
      exact .inr hm
  · rintro (h | h)
    · exact ⟨_, h, rfl⟩
    · exact ⟨_, h, ord2_eq.mpr (.inr rfl)⟩
theorem sortS_slt {xs : List Str} (h : xs.Nodup) : (sortS xs).Pairwise slt := by
  refine (List.Pairwise.and (sortS_sorted xs) ((sortS_perm xs).nodup_iff.mpr h)).imp fun {a b} h => ?_
  obtain ⟨h1, h2⟩ := h
  have h1 := of_decide_eq_true h1
  unfold slt
  rcases Classical.em (a.cps.toList < b.cps.toList) with q | q
  · exact q
  · exact absurd (str_ext (List.le_antisymm h1 (List.not_lt.mp q))) h2
theorem PlOk.kd {q : Pl} (h : PlOk q) : KdOk q.kd where
  good := fun k hk => h.good k (mem_sortS.mp hk)
  asc := sortS_slt h.nd
  len := by rw [show q.kd.sk = sortS q.ks from rfl, sortS_len]; exact h.len
theorem val_kinds {kl pl : Addr} : valV [((Sum.inr "kinds" : Key), V.ref kl), (Sum.inr "pairs", .ref pl)] (Sum.inr "kinds") = some (.ref kl) := by
  unfold valV
  rw [List.find?_cons_of_pos (by exact decide_eq_true rfl)]
  rfl
theorem val_pairs {kl pl : Addr} : valV [((Sum.inr "kinds" : Key), V.ref kl), (Sum.inr "pairs", .ref pl)] (Sum.inr "pairs") = some (.ref pl) := by
  unfold valV
  rw [List.find?_cons_of_neg (by show ¬ decide ((Sum.inr ("kinds" : Str) : Int ⊕ Str) = Sum.inr ("pairs" : Str)) = true; decide), List.find?_cons_of_pos (by exact decide_eq_true rfl)]
  rfl
section
variable {P : Program} {w : World} {K : PySem.W.Frag} {mg : Str → Option Value} {base : Heap}
theorem ev_pks {σ : L2.St} {H : Hp} {ta tb : TE} {D kl pl : Addr} {pa : List Addr} {q : Pl} (ha : Ev ta σ H (.ref D)) (hb : Ev tb σ H (.str "kinds")) (h : PlA H D kl pl pa q) : Ev (tDGet ta tb) σ H (.ref kl) := ev_dget ha hb h.dict val_kinds
theorem ev_pps {σ : L2.St} {H : Hp} {ta tb : TE} {D kl pl : Addr} {pa : List Addr} {q : Pl} (ha : Ev ta σ H (.ref D)) (hb : Ev tb σ H (.str "pairs")) (h : PlA H D kl pl pa q) : Ev (tDGet ta tb) σ H (.ref pl) := ev_dget ha hb h.dict val_pairs
def spLFit (K : PySem.W.Frag) : Sp := pur fun vs H R => ∃ D q a b, vs = [.ref D, .str a, .str b] ∧ PlAt H D q ∧ R = RV (.bl (q.kd.fit a b))
theorem sc_L_fit : FnScope ["_law_plan_here", "_law_one", "_law_other"] ["_law_plan_here", "_law_one", "_law_other"] (defScope s_L_fit) := C8.fnScope_by (by decide +kernel)
theorem ev_inPair {σ : L2.St} {H : Hp} {ta tb : TE} {l : Addr} {pa : List Addr} {ps : List (Str × Str)} {p : Str × Str} (ha : EvU ta σ H [.str p.1, .str p.2]) (hb : Ev tb σ H (.ref l)) (hl : H l = some (.lst (rvs pa))) (hp : Paired (PairAt H) pa ps) : Ev (tOp (rInD K false) ta tb) σ H (.bl (decide (p ∈ ps))) := by
  refine ev_of (er_op (er_u ha) (er_v hb) fun x y H1 H2 H3 e1 e2 e3 rx ry Q q => ?_)
  obtain ⟨t, rfl, _, ht⟩ := rx
  obtain rfl : y = .ref l := ry
  have ee := (e1.trans e2).trans e3
  exact ⟨l, rvs pa, _, rfl, SqL.of (ee _ _ hl), .mk (α := Str × Str) p ps (dp_pair (e3 _ _ ht)) (dp_pairs (Paired.mapP hp fun a b h => ee _ _ h)) (by decide), q _ H3 (Ex.refl H3) (by
    show V.bl _ = V.bl _
    rw [if_neg Bool.false_ne_true]
    exact congrArg V.bl (dec_eq _ _))⟩
theorem ok_L_fit (T : Tp K mg) (F : FD K d_L_fit) : C8.Cal P w K mg base 1 "_law_fit" (spLFit K) [] := by
  refine cal_k F T.g_law_fit sc_L_fit (fun _ _ _ _ _ _ us hl => match us, hl with | [_, _, _], _ => rfl) (fun vs H Q E h => ?_) (fun cdv A outer s H vs Q E hr h => ?_)
  · obtain ⟨R, ⟨D, q, a, b, rfl, _⟩, _⟩ := h
    rfl
  · obtain ⟨R, ⟨D, pl, a, b, rfl, ⟨kl, pr, pa, hq⟩, rfl⟩, q⟩ := h
    refine ⟨_, (pss_one (ps_ret (pe_or (pe_cmpR (k_inD (K := K) rfl hr) (pe_tup (pa_cons (pv 1) (pa_cons (pv 2) pa_nil))) (pe_dget (hu_of hr) (pv 0) pe_str (fun _ _ => rfl)) (by rfl)) (pe_one (pe_cmpR (k_inD (K := K) rfl hr) (pe_tup (pa_cons (pv 2) (pa_cons (pv 1) pa_nil))) (pe_dget (hu_of hr) (pv 0) pe_str (fun _ _ => rfl)) (by rfl)))))), ?_⟩
    refine s_ret (v := .bl (pl.kd.fit a b)) (ev_is (ev_orV (a := decide ((a, b) ∈ pl.ps)) (b := decide ((b, a) ∈ pl.ps)) (ev_inPair (p := (a, b)) (eu_tup (ea_cons (ev_var rfl) (ea_cons (ev_var rfl) ea_nil)) (by simp)) (ev_pps (ev_var rfl) ev_c hq) hq.pairs hq.pair) fun _ => ev_inPair (p := (b, a)) (eu_tup (ea_cons (ev_var rfl) (ea_cons (ev_var rfl) ea_nil)) (by simp)) (ev_pps (ev_var rfl) ev_c hq) hq.pairs hq.pair) (by rw [fit_eq])) fun H2 e2 => q _ H2 e2 rfl
theorem ev_fit {σ : L2.St} {H : Hp} {t1 t2 t3 : TE} {E : XK} {D : Addr} {q : Pl} {a b : Str} (h1 : Ev t1 σ H (.ref D)) (h2 : Ev t2 σ H (.str a)) (h3 : Ev t3 σ H (.str b)) (hq : PlAt H D q) : Ev (tCall (spLFit K) [] E (tCons t1 (tCons t2 (tCons t3 tNil)))) σ H (.bl (q.kd.fit a b)) :=
  ev_of (er_callA (ea_cons h1 (ea_cons h2 (ea_cons h3 ea_nil))) (fun H1 e => ⟨D, q, a, b, rfl, hq.ex e, rfl⟩) bk_v)
/-! ### _law_mates -/
theorem matesAll_eq {q : Pl} {ks : List Str} (hk : ∀ x ∈ ks, x ∈ q.ks) : sortS (q.ks.filter fun k => ks.any fun o => q.kd.fit k o) = q.kd.matesAll ks := by
  refine sorted_uniq ?_ (sortS_sorted _) ?_
  · refine (sortS_perm _).trans ?_
    unfold Kd.matesAll
    have : (q.kd.sk.filter fun k => (q.kd.mates k).any fun o => decide (o ∈ ks)) = (sortS q.ks).filter fun k => ks.any fun o => q.kd.fit k o := by
      refine List.filter_congr fun k hk' => ?_
      rw [Bool.eq_iff_iff, List.any_eq_true, List.any_eq_true]
      constructor
      · rintro ⟨o, ho, h⟩
        exact ⟨o, of_decide_eq_true h, (List.mem_filter.mp ho).2⟩
      · rintro ⟨o, ho, h⟩
        exact ⟨o, List.mem_filter.mpr ⟨mem_sortS.mpr (hk o ho), h⟩, decide_eq_true ho⟩
    rw [this]
    exact ((sortS_perm q.ks).symm.filter _)
  · exact (sortS_sorted q.ks).filter _
def spLMates (K : PySem.W.Frag) : Sp := pur fun vs H R => ∃ D q l ks, vs = [.ref D, .ref l] ∧ PlAt H D q ∧ PlOk q ∧ H l = some (.lst (svs ks)) ∧ ks.length ≤ 1000 ∧ (∀ x ∈ ks, x ∈ q.ks) ∧ R = RL (svs (q.kd.matesAll ks))
theorem sc_L_mates : FnScope ["_law_plan_here", "_law_kinds", "_law_kind", "_law_one"] ["_law_plan_here", "_law_kinds"] (defScope s_L_mates) := C8.fnScope_by (by decide +kernel)
theorem ok_L_mates (T : Tp K mg) (F : FD K d_L_mates) (c_L_fit : C8.Cal P w K mg base 1 "_law_fit" (spLFit K) []) : C8.Cal P w K mg base 2 "_law_mates" (spLMates K) [] := by
  refine cal_k F T.g_law_mates sc_L_mates (fun _ _ _ _ _ _ us hl => match us, hl with | [_, _], _ => rfl) (fun vs H Q E h => ?_) (fun cdv A outer s H vs Q E hr h => ?_)
  · obtain ⟨R, ⟨D, q, l, ks, rfl, _⟩, _⟩ := h
    rfl
  · obtain ⟨R, ⟨D, pl, l, ks, rfl, hP, hO, hl, hz, hin, rfl⟩, q⟩ := h
    refine ⟨_, (pss_one (ps_ret (pe_callB (k_sortedS (K := K) rfl) (by rfl) T.f_sorted boot_sorted (pa_cons (pe_lc (own := [("_law_kind", 2)]) (g := (gName 2)) (by rfl) (sc_L_mates).nd (k_piList (K := K) rfl (pe_dget (hu_of hr) (pv 0) pe_str (fun _ _ => rfl))) (blkOk_by (own := [("_law_kind", 2)]) (N := ["_law_plan_here", "_law_kinds", "_law_kind", "_law_one"]) (sc := defScope s_L_mates) (by decide +kernel)) (fun _ _ _ _ _ => (pg_name (i := 2) (sc_L_mates).nd rfl (by first | exact .inl rfl | exact .inr rfl))) (fun _ _ _ _ _ => (pts_one (pt_val (pe_callB (k_any (K := K) rfl rfl) (by rfl) T.f_any boot_any (pa_cons (pe_lc (own := [("_law_one", 3)]) (g := (gName 3)) (by rfl) (sc_L_mates).nd (k_piList (K := K) rfl (pv 1)) (blkOk_by (own := [("_law_one", 3)]) (by kernel_rfl)) (fun _ _ _ _ _ => (pg_name (i := 3) (sc_L_mates).nd rfl (by first | exact .inl rfl | exact .inr rfl))) (fun _ _ _ _ _ => pts_nil) (fun _ _ _ _ _ => (C8.pe_c c_L_fit hr (by decide) (by rfl) (pa_cons (pv 0) (pa_cons (pv 2) (pa_cons (pv 3) pa_nil)))))) pa_nil))))) (fun _ _ _ _ _ => (pv 2))) pa_nil)))), ?_⟩
    have hP' := hP
    obtain ⟨kl, pr, pa, hq⟩ := hP
    have h8 := hO.len
    refine s_retR (er_l (el_is (el_sortedN (xs := pl.ks.filter fun k => ks.any fun o => pl.kd.fit k o) (el_compN (α := Str) V.str (ei_list (ev_pks (ev_var rfl) ev_c hq) (SqL.of hq.kinds)) rfl (by omega) (fun k => ks.any fun o => pl.kd.fit k o) V.str (fun _ => rfl) (fun y hy H1 e => ?_) (fun y hy _ H1 e => ev_var rfl)) (by have := List.length_filter_le (fun k => ks.any fun o => pl.kd.fit k o) pl.ks; omega)) (by rw [matesAll_eq hin]))) q
    exact et_B (ev_any (ys := ks) (g := fun o => pl.kd.fit y o) (el_compN (α := Str) V.str (ei_list (ev_var rfl) (SqL.of (e _ _ hl))) rfl (by omega) (fun _ => true) _ (fun _ => rfl) (fun _ _ _ _ => et_yes) fun z hz _ H2 e2 => ev_fit (ev_var rfl) (ev_var rfl) (ev_var rfl) (hP'.ex (e.trans e2))))
/-! ### _law_read -/
def spLRead (K : PySem.W.Frag) : Sp := pur fun vs H R => ∃ (D l : Addr) (q : Pl) (rest : List Str) (k : Str), vs = [.ref D, .ref l, .str k] ∧ PlAt H D q ∧ H l = some (.lst (svs rest)) ∧ rest.length ≤ 1000 ∧ R = RRead (readR q.kd.fit rest k).1 (readR q.kd.fit rest k).2
theorem sc_L_read : FnScope ["_law_plan_here", "_law_rest", "_law_kind", "_law_at"] ["_law_plan_here", "_law_rest", "_law_kind"] (defScope s_L_read) := C8.fnScope_by (by decide +kernel)
theorem ok_L_read (T : Tp K mg) (F : FD K d_L_read) (c_L_fit : C8.Cal P w K mg base 1 "_law_fit" (spLFit K) []) : C8.Cal P w K mg base 2 "_law_read" (spLRead K) [] := by
  refine cal_k F T.g_law_read sc_L_read (fun _ _ _ _ _ _ us hl => match us, hl with | [_, _, _], _ => rfl) (fun vs H Q E h => ?_) (fun cdv A outer s H vs Q E hr h => ?_)
  · obtain ⟨R, ⟨D, l, q, rest, k, rfl, _⟩, _⟩ := h
    rfl
  · obtain ⟨R, ⟨D, l, pl, rest, kind, rfl, hP, hl, hlen, rfl⟩, q⟩ := h
    refine ⟨_, (pss_cons (ps_for PassesOwn.never rfl (pi_range1 (by rfl) T.f_range (pa_cons (pe_callB (k_len (K := K) rfl) (by rfl) T.f_len PySem.boot_len (pa_cons (pv 1) pa_nil)) pa_nil)) (pg_name (i := 3) (sc_L_read).nd rfl (.inl rfl))
  (pss_one (ps_if (pt_val (C8.pe_c c_L_fit hr (by decide) (by rfl) (pa_cons (pv 0) (pa_cons (pe_ix (k_ixL (K := K) rfl) (pv 1) (pv 3) (fun _ _ => rfl)) (pa_cons (pv 2) pa_nil)))))
  (pss_one (ps_ret (pe_tup (pa_cons pe_bl (pa_cons (pe_op op_cat (pe_slice (k_slL (K := K) rfl) (pv 1) po_none (po_some (pv 3))) (pe_slice (k_slL (K := K) rfl) (pv 1) (po_some (pe_op op_add (pv 3) pe_int)) po_none)) pa_nil)))))
  pss_nil)))
  (pss_one (ps_ret (pe_tup (pa_cons pe_bl (pa_cons (pe_callTy (k_list (K := K) rfl) (by rfl) T.f_list PyProof.Rows.boot_list (pa_cons (pv 1) pa_nil)) pa_nil)))))), ?_⟩
    refine q_forE (ei_rng (ea_cons (ev_len (ev_var rfl) (SqL.of hl)) ea_nil) (by rw [svs_len]; omega)) (fun i σ' H' => ∃ y, σ' = [some (.ref D), some (.ref l), some (.str kind), y] ∧ ∀ j, j < i → ∀ x, rest[j]? = some x → pl.kd.fit x kind = false) (fun H1 e1 => ⟨_, rfl, fun j hj => absurd hj (by omega)⟩) ?_ ?_
    · rintro Hs i x σ' H1 H2 hi e1 e2 ⟨y, rfl, hno⟩ ⟨rfl, rfl⟩
      have hi' : i < rest.length := by rw [svs_len] at hi; omega
      have e13 := e1.trans e2
      refine s_when (et_B (ev_fit (ev_var rfl) (ev_ixL (ev_var rfl) (ev_var rfl) (SqL.of (e13 _ _ hl)) (svs_get (List.getElem?_eq_getElem hi'))) (ev_var rfl) (hP.ex e13))) (fun hf H4 e4 => ?_) (fun hf H4 e4 => ⟨e2.trans e4, _, rfl, fun j hj x hx => ?_⟩)
      · have er : readR pl.kd.fit rest kind = (false, rest.eraseIdx i) := by
          unfold readR
          have : rest.findIdx? (fun n => pl.kd.fit n kind) = some i := List.findIdx?_eq_some_iff_getElem.mpr ⟨hi', hf, fun j hj => by
            have := hno j hj rest[j] (List.getElem?_eq_getElem (by omega))
            simp [this]⟩
          rw [this]
        have hl4 : H4 l = some (.lst (svs rest)) := e4 _ _ (e13 _ _ hl)
        refine s_retR (er_tup2 (er_v ev_c) (er_l (el_is (el_cat (el_sl (ev_var rfl) eo_none (eo_some (ev_var rfl)) (SqL.of hl4)) (el_sl (ev_var rfl) (eo_some (ev_op (ev_var rfl) ev_c rv_I0)) eo_none (SqL.of hl4)) ?_) (ys := svs (rest.eraseIdx i)) ?_))) fun v H5 e5 r => ?_
        · rw [cut_to, show ((i : Int) + 1) = ((i + 1 : Nat) : Int) by omega, cut_from, List.length_take, List.length_drop, svs_len]
          omega
        · rw [cut_to, show ((i : Int) + 1) = ((i + 1 : Nat) : Int) by omega, cut_from, List.eraseIdx_eq_take_drop_succ, ← List.map_take, ← List.map_drop, ← List.map_append]
        · obtain ⟨t, x, y, G1, G2, rfl, g1, g2, g3, rfl, ⟨p, rfl, hp, hp'⟩, ht, ht'⟩ := r
          have ee := (e1.trans e2).trans e4
          refine q _ H5 (ee.trans e5) ⟨t, p, rfl, fresh_back ee (fresh_back g1 hp), fresh_back ((ee.trans g1).trans g2) ht, ?_, ?_⟩
          · rw [er]
            exact ht'
          · rw [er]
            exact g3 _ _ hp'
      · by_cases hj' : j = i
        · subst hj'
          rw [List.getElem?_eq_getElem hi'] at hx
          cases hx
          exact hf
        · exact hno j (by omega) x hx
    · rintro σ' H1 e1 ⟨y, rfl, hno⟩
      have er : readR pl.kd.fit rest kind = (true, rest) := by
        unfold readR
        have : rest.findIdx? (fun n => pl.kd.fit n kind) = none := by
          rw [List.findIdx?_eq_none_iff]
          intro x hx
          obtain ⟨j, hj, rfl⟩ := List.getElem_of_mem hx
          exact hno j (by rw [svs_len]; omega) _ (List.getElem?_eq_getElem hj)
        rw [this]
      refine s_retR (er_tup2 (er_v ev_c) (er_l (el_list (ev_var rfl) (SqL.of (e1 _ _ hl))))) fun v H5 e5 r => ?_
      obtain ⟨t, x, y, G1, G2, rfl, g1, g2, g3, rfl, ⟨p, rfl, hp, hp'⟩, ht, ht'⟩ := r
      refine q _ H5 (e1.trans e5) ⟨t, p, rfl, fresh_back e1 (fresh_back g1 hp), fresh_back ((e1.trans g1).trans g2) ht, ?_, ?_⟩
      · rw [er]
        exact ht'
      · rw [er]
        exact g3 _ _ hp'
end
end K64
set_option Elab.async false
set_option linter.all false
set_option maxRecDepth 100000
set_option maxHeartbeats 4000000
/-! list(enumerate(xs)), xs an empty list. -/
namespace K64
open PySem PySem.Spec PyProof.Rows L2 Evl
theorem en_no_len : typeLookup (.type "enumerate") "__len__" = pure none := by rw [typeLookup_type, builtinLookup_eq_fast]; kernel_rfl
theorem en_no_hint : typeLookup (.type "enumerate") "__length_hint__" = pure none := by rw [typeLookup_type, builtinLookup_eq_fast]; kernel_rfl
section
variable {prog : Program} {w : World} {A : Around} {E : Value → Shared → Prop} {s : Shared}
/-- an enumerate of an empty list has nothing to give -/
theorem walks_en0 {I it l : Addr} (hh : A.handled = none) (hne : I ≠ it) : WalksS prog w A I [I, it, l] [it] (fun a b => b = a) 0 (fun _ _ => False) (fun _ s => IsEnum s.heap I it 0 .none ∧ s.heap.IsListIter it l 0 ∧ s.heap.IsList l #[]) where
  sub := fun b hb => by rw [List.mem_singleton.mp hb]; simp
  grefl := fun _ => rfl
  gtrans := fun _ _ _ h1 h2 => h2.trans h1
  frame := fun i s h' tk st _ hk => ⟨hk I (by simp) _ st.1, st.2.1.at fun o q => hk it (by simp) o q, by
    obtain ⟨o, ho, hr⟩ := st.2.2
    exact ⟨o, hk l (by simp) _ ho, hr⟩⟩
  item := fun i s Q E hi => absurd hi (Nat.not_lt_zero _)
  done := fun s Q E st hQ => wpAny_pyNext_enum_end hh st.1 st.2.1 st.2.2 (by simp) fun h' hx => hQ _ ⟨fun b ob hb e => hx b ob (fun h => hb (by simp [h])) e, rfl, rfl, rfl, Nat.le_refl _⟩
  self := fun i s Q E st hQ => wpAny_pyIter_enum st.1 hQ
variable {I : Addr} {fp wr : List Addr} {G : Array GenState → Array GenState → Prop} {P : Nat → Value → Prop} {St : Nat → Shared → Prop}
theorem call_list_en0 {Q : Value → Shared → Prop} (W : WalksS prog w A.in1.in1 I fp wr G 0 P St) (hT : ∀ i s, St i s → s.TypeIs (.ref I) "enumerate") (hst : St 0 s) (hfp : ∀ b ∈ fp, b < s.heap.objs.size) (hI : I ∈ fp)
    (hQ : ∀ s' c', Moved (s.heap.objs.size :: wr) G { s with heap := s.heap.push { cls := .type "list", data := .seq #[] } } s' → s'.heap.get? s.heap.objs.size = some { cls := .type "list", dict := none, data := .seq #[] c', slots := #[] } → Q (.ref s.heap.objs.size) s') :
    wpAny (model prog w) A (call (.type "list") [.ref I]) Q E s := by
  have hSf : s.heap.objs.size ∉ fp := fun hm => Nat.lt_irrefl _ (hfp _ hm)
  refine callType_codes (Q₁ := fun obj s₁ => obj = .ref s.heap.objs.size ∧ s₁ = { s with heap := s.heap.push { cls := .type "list", data := .seq #[] } }) F.called_list (F.typeCall_list_1 _) F.entry_list_init (code_list_new _ ⟨rfl, rfl⟩) fun obj s₁ h₁ => ?_
  obtain ⟨rfl, rfl⟩ := h₁
  generalize hS0 : s.heap.objs.size = S at *
  have hS : (s.heap.push { cls := .type "list", data := .seq #[] }).get? S = some { cls := .type "list", data := .seq #[] } := by rw [← hS0]; exact Heap.get?_push_size _ rfl
  have st0 := W.frame 0 s (s.heap.push { cls := .type "list", data := .seq #[] }) s.toks hst (Nat.le_refl _) fun b _ o e => Heap.get?_push_of_some _ e
  refine ⟨⟨_, hS, rfl⟩, F.args_list_init_2 _ _, ?_⟩
  generalize hs1 : ({ s with heap := s.heap.push { cls := .type "list", data := .seq #[] } } : Shared) = s1 at *
  have hS1 : s1.heap.get? S = some { cls := .type "list", data := .seq #[] } := by rw [← hs1]; exact hS
  have st1 : St 0 s1 := st0
  have hSI : S ≠ I := fun e => hSf (e ▸ hI)
  show wpAny _ _ (Builtin.List.listItems (.ref S) >>= fun old => Builtin.List.listUpdate (.ref S) (fun _ => #[]) >>= fun _ => letGo old.toList.reverse >>= fun _ => Builtin.List.listExtendWith (.ref S) (.ref I) .none) _ _ s1
  refine wpAny_bind ?_
  unfold Builtin.List.listItems
  refine wpAny_bind (wpAny_seqItems hS1 rfl (wpAny_pure ?_))
  show wpAny _ _ (updateSeq S (fun _ => #[]) >>= fun _ => letGo (#[] : Array Value).toList.reverse >>= fun _ => Builtin.List.listExtendWith (.ref S) (.ref I) .none) _ _ s1
  refine wpAny_bind (wpAny_updateSeq hS1 rfl ?_)
  have hS2 := Heap.get?_update_self (Obj.mapSeq (fun _ => (#[] : Array Value))) hS1 rfl
  have oth : ∀ b o, b ≠ S → s1.heap.get? b = some o → (s1.heap.update S (Obj.mapSeq (fun _ => (#[] : Array Value)))).get? b = some o := fun b o hb e => (Heap.get?_update_other _ _ (Ne.symm hb)).trans e
  have st2 := W.frame 0 s1 _ s1.toks st1 (Nat.le_refl _) fun b hb o e => oth b o (fun h => hSf (h ▸ hb)) e
  refine wpAny_bind (wpAny_letGo ?_)
  unfold Builtin.List.listExtendWith
  refine wpAny_bind (wpAny_typeOf (hT 0 _ st2) ?_)
  have h1 : Builtin.List.listSameRef (.ref S) (.ref I) = false := by simp [Builtin.List.listSameRef, hSI]
  have h2 : (Value.type "enumerate" == Value.type "list") = false := by decide
  have h3 : (Value.type "enumerate" == Value.type "tuple") = false := by decide
  simp only [h1, h2, h3, Bool.or_false, Bool.false_eq_true, if_false]
  refine wpAny_bind (W.self 0 _ _ _ st2 ?_)
  refine wpAny_bind (wpAny_holding ?_)
  unfold Builtin.List.listLengthHint
  refine wpAny_bind (wpAny_specialOf (hT 0 _ st2) en_no_len ?_)
  show wpAny _ _ (specialOf (Value.ref I) (Str.ofString "__length_hint__") >>= _) _ _ _
  refine wpAny_bind (wpAny_specialOf (hT 0 _ st2) en_no_hint ?_)
  refine wpAny_pure ?_
  show wpAny _ _ (rule "list.extend.makes-room" >>= fun _ => Builtin.List.listTouch (.ref S) >>= fun _ => again (.builtin "list.extend.loop" ⟨[.ref S, .ref I, .none], []⟩)) _ _ _
  refine wpAny_bind (wpAny_rule ?_)
  refine wpAny_bind ?_
  show wpAny _ _ (updateSeq S (·.push .none) >>= fun _ => updateSeq S (·.pop)) _ _ _
  refine wpAny_bind (wpAny_updateSeq hS2 rfl ?_)
  have hS3 := Heap.get?_update_self (Obj.mapSeq (·.push Value.none)) hS2 rfl
  refine wpAny_updateSeq (hz := by seq_fits) hS3 rfl ?_
  have hS4 := Heap.get?_update_self (Obj.mapSeq (·.pop)) hS3 rfl
  have oth2 : ∀ b o, b ≠ S → s1.heap.get? b = some o → (((s1.heap.update S (Obj.mapSeq (fun _ => (#[] : Array Value)))).update S (Obj.mapSeq (·.push Value.none))).update S (Obj.mapSeq (·.pop))).get? b = some o :=
    fun b o hb e => (Heap.get?_update_other _ _ (Ne.symm hb)).trans ((Heap.get?_update_other _ _ (Ne.symm hb)).trans (oth b o hb e))
  refine wpAny_pure ⟨plainId_quiet F.plain_extend_loop _, codeAny_extend_loopS W (Nat.zero_le _) _ hSf _ 0 0 _ _ _ rfl (Nat.zero_le _)
    (W.frame 0 s1 _ s1.toks st1 (Nat.le_refl _) fun b hb o e => oth2 b o (fun h => hSf (h ▸ hb)) e) hS4 (ItemsOf.nil P) fun s' acc' c' hm hS' hacc => ?_⟩
  have hacc0 : acc' = #[] := by
    have := hacc.1
    exact Array.eq_empty_of_size_eq_zero this
  subst hacc0
  refine ⟨rfl, hQ s' c' (Moved.trans W.gtrans ((Moved.refl W.grefl).then_heap (Nat.le_refl _) fun b o hb e => oth2 b o (fun h => hb (h ▸ List.mem_cons_self)) e) hm) hS'⟩
end
def tListEn (K : PySem.W.Frag) (te : TE) : TE := fun σ H Q => te σ H fun v H1 => ∃ p, v = .ref p ∧ SqL K H1 p [] ∧ ∀ l, H1 l = none → Q (.ref l) (upd H1 l (.lst []))
section
variable {X : Cx} {K : PySem.W.Frag} {e : Expr} {te : TE} {p1 p2 pos pos2 : Pos}
theorem pe_listEnum (hK : X.K = K) (hc : X.calm = true) (hl : Gl X "list") (ml : X.mg "list" = none) (hg : Gl X "enumerate") (hm : X.mg "enumerate" = none) (he : PE X e te) (hs : starEach [e] X.env = [(false, eval e X.env)] := by rfl)
    (hs2 : starEach [.Call (.Name "enumerate" p1) [e] [] pos] X.env = [(false, eval (.Call (.Name "enumerate" p1) [e] [] pos) X.env)] := by rfl) : PE X (.Call (.Name "list" p2) [.Call (.Name "enumerate" p1) [e] [] pos] [] pos2) (tListEn K te) := by
  subst hK
  refine ⟨fun pins s σ H Q I h => ?_⟩
  refine wpAny_Call_Name_kw (ld_blt I hl ml PyProof.Rows.boot_list ?_)
  rw [hs2]
  refine PySem.callWith_type1 ?_
  refine Call_ (ld_blt I hg hm boot_enumerate ?_)
  rw [hs]
  refine PySem.callWith_type1 (thn (he.run pins s σ H _ I h) fun u s1 ⟨v, H1, I1, r1, q1⟩ => ?_)
  obtain ⟨p, rfl, hq, q⟩ := q1
  obtain rfl : u = Value.ref p := r1
  obtain ⟨its, rv, pl, hz⟩ := I1.list hq
  cases rv
  have hp := Heap.lt_size (pl.isList.choose_spec.1)
  refine call_enumerate_list pl.isList fun h' hen hit hsz hk => ?_
  have lst' : h'.IsList p #[] := by
    obtain ⟨o, ho, hr⟩ := pl.isList
    exact ⟨o, hk _ _ ho, hr⟩
  have hh : X.A.in1.in1.handled = none := I1.ok.hd hc
  refine call_list_en0 (walks_en0 (l := p) hh (Nat.succ_ne_self _)) (fun i s st => ⟨_, st.1, rfl⟩) ⟨hen, hit, lst'⟩ (fun b hb => ?_) (by simp) fun s' c' mv hS' => ?_
  · show b < h'.objs.size
    rw [hsz]
    rcases List.mem_cons.mp hb with rfl | hb
    · exact Nat.lt_succ_self _
    · rcases List.mem_cons.mp hb with rfl | hb
      · exact Nat.lt_succ_of_lt (Nat.lt_succ_self _)
      · rw [List.mem_singleton.mp hb]
        exact Nat.lt_of_lt_of_le hp (Nat.le_add_right _ _)
  · have hle : s1.heap.objs.size ≤ h'.objs.size := by omega
    have keep : ∀ b o, s1.heap.get? b = some o → s'.heap.get? b = some o := fun b o e => mv.heap b o (fun hm => by
      have hb := Heap.lt_size e
      rcases List.mem_cons.mp hm with z | z
      · have z' : b = h'.objs.size := z
        rw [z'] at hb
        exact absurd hb (Nat.not_lt.mpr hle)
      · rw [List.mem_singleton.mp z] at hb
        exact absurd hb (Nat.lt_irrefl _)) (Heap.get?_push_of_some _ (hk b o e))
    have hn := I1.hok.fresh hle
    have I2 : L2.Inv X pins σ (upd H1 h'.objs.size (.lst [])) s' := by
      have := I1.laid (t' := s'.toks) (h' := s'.heap) (o := .lst []) keep hle ⟨by decide, [], c', .nil, hS'⟩
      have e : ({ s1 with heap := s'.heap, toks := s'.toks } : Shared) = s' := (Moved.eq_with mv).symm ▸ rfl
      rw [e] at this
      exact this
    exact ⟨.ref h'.objs.size, _, I2, rfl, q _ hn⟩
end
end K64
set_option Elab.async false
set_option linter.all false
set_option maxRecDepth 100000
set_option maxHeartbeats 4000000
/-! _law_run, _law_after, _law_gap. -/
namespace K64
open PySem PySem.Spec PyProof.Rows L2 Evl
theorem paired_erase {α β : Type} {F : α → β → Prop} : ∀ {as : List α} {bs : List β} {i : Nat}, Paired F as bs → Paired F (as.eraseIdx i) (bs.eraseIdx i)
  | _, _, _, .nil => by simp; exact .nil
  | _, _, 0, .cons r t => t
  | _, _, i + 1, .cons r t => .cons r (paired_erase t)
theorem erase_idx : ∀ {l : List Nat}, l.Nodup → ∀ {i j : Nat}, l[i]? = some j → l.erase j = l.eraseIdx i
  | [], _, i, j, h => by simp at h
  | a :: r, hn, 0, j, h => by
    rw [List.getElem?_cons_zero] at h
    cases h
    simp
  | a :: r, hn, i + 1, j, h => by
    rw [List.getElem?_cons_succ] at h
    have hm := List.mem_of_getElem? h
    have hn' := List.nodup_cons.mp hn
    have ne : a ≠ j := fun e => hn'.1 (by rw [e]; exact hm)
    rw [List.erase_cons_tail (by simpa using ne), List.eraseIdx_cons_succ, erase_idx hn'.2 h]
section
variable {P : Program} {w : World} {K : PySem.W.Frag} {mg : Str → Option Value} {base : Heap}
theorem rv_eqN {H : Hp} {p r : Addr} {fs : List Nat} (hp : H p = some (.lst (nvs fs))) (hr : H r = some (.lst [])) : Evl.RV (rEqD K) (.ref p) (.ref r) H (.bl (decide (fs = []))) := fun H1 e Q q => by
  refine ⟨.list ((fs.map fun n : Nat => (n : Int)).map PySem.W.Datum.toD), .list [], Dp.lst (SqL.of (e _ _ hp)) (dp_nvs fs), Dp.lst (SqL.of (e _ _ hr)) .nil, shaped_ints fs, rfl, ?_⟩
  have e0 : PyData.eqv (.list ((fs.map fun n : Nat => (n : Int)).map PySem.W.Datum.toD)) (.list []) = decide (fs = []) := by
    have := PySem.W.Datum.eqv (fs.map fun n : Nat => (n : Int)) []
    refine Eq.trans this ?_
    cases fs <;> simp
  rw [e0]
  exact q H1 (Ex.refl H1)
theorem el_listEn {σ : L2.St} {H : Hp} {te : TE} {p : Addr} (h : Ev te σ H (.ref p)) (hp : H p = some (.lst [])) : EvL (tListEn K te) σ H [] := fun H1 e Q q =>
  h H1 e _ fun H2 e2 => ⟨p, rfl, SqL.of ((e.trans e2) _ _ hp), fun l hl => q l _ (fresh_back e2 hl) (e2.trans (Ex.new hl)) upd_same⟩
theorem el_rep0 {σ : L2.St} {H : Hp} {ta tb : TE} {xs : List V} (ha : EvL ta σ H xs) (hb : Ev tb σ H (.int 0)) : EvL (tOp rRep ta tb) σ H [] := fun H1 e Q q =>
  ha H1 e _ fun p H2 hp e2 h2 => hb H2 (e.trans e2) _ fun H3 e3 => ⟨p, 0, xs, rfl, rfl, e3 _ _ h2, by decide, by decide, by simp, fun l hl => q l _ (fresh_back (e2.trans e3) hl) ((e2.trans e3).trans (Ex.new hl)) (by rw [upd_same]; rfl)⟩
theorem s_asgTup {σ : L2.St} {H : Hp} {te : TE} {g : TG} {D : Ends} {xs : List V} (h : EvU te σ H xs) (k : ∀ p H1, H p = none → Ex H H1 → H1 p = some (.tup xs) → g (.ref p) σ H1 D.nx) : tAsg te g D σ H := h H (Ex.refl H) _ fun p H1 hp e h1 => k p H1 hp e h1
/-- x = xs.pop(i)[0] -/
theorem q_pop0 {σ : L2.St} {H : Hp} {D : Ends} {tz : TS} {ta ti : TE} {i k : Nat} {l t : Addr} {xs : List V} {y z : V} (ha : Ev ta σ H (.ref l)) (hl : H l = some (.lst xs)) (hi : Ev ti σ H (.int (k : Int))) (hk : xs[k]? = some (.ref t)) (ht : H t = some (.tup [y, z])) (hz : xs.length ≤ 100000)
    (kk : ∀ H1, Ex H H1 → tz D (σ.set i (some y)) (upd H1 l (.lst (xs.eraseIdx k)))) : tSeq (tAsg (tOp (rIxT K) (tBM K "list" rPopAt ta (tCons ti tNil)) (tC (.int 0))) (gName i)) tz D σ H := by
  have hkl := (List.getElem?_eq_some_iff.mp hk).1
  have ne : t ≠ l := fun e => by
    rw [e, hl] at ht
    cases ht
  refine ha H (Ex.refl H) _ fun H1 e1 => ⟨Or.inl ⟨rfl, xs, sq_of (e1 _ _ hl)⟩, hi H1 e1 _ fun H2 e2 => ⟨l, xs, (k : Int), k, .ref t, rfl, rfl, e2 _ _ (e1 _ _ hl), by omega, by omega, (ixN_seq (ixN_nat hkl)).1, hk, ?_⟩⟩
  refine ⟨t, _, 0, y, rfl, rfl, st_of (?_ : upd H2 l _ t = some (.tup [y, z])), rfl, kk H2 (e1.trans e2)⟩
  rw [upd_ne ne]
  exact e2 _ _ (e1 _ _ ht)
/-- someone who waits -/
def WtAt (H : Hp) (row : List Str) (t : Addr) (j : Nat) : Prop := H t = some (.tup [.int (j : Int), .str (kdOf row j)])
def RRun (d : Kd) (row : List Str) : Rel := fun v H1 H2 => ∃ t th mo ts, v = .ref t ∧ H1 t = none ∧ H1 th = none ∧ H2 t = some (.tup [.ref th, .ref mo]) ∧ H2 th = some (.lst (rvs ts)) ∧ Paired (WtAt H2 row) ts (curN (fitsF d row) row.length)
theorem bk_run {d : Kd} {row : List Str} : Bk (RRun d row) := fun v H1 H2 H3 e ⟨t, th, mo, ts, h1, h2, h3, h4⟩ => ⟨t, th, mo, ts, h1, fresh_back e h2, fresh_back e h3, h4⟩
def spLRun (K : PySem.W.Frag) : Sp := pur fun vs H R => ∃ D l r q row, vs = [.ref D, .ref l, .ref r] ∧ PlAt H D q ∧ H l = some (.lst []) ∧ H r = some (.lst (svs row)) ∧ row.length ≤ 1000 ∧ R = RRun q.kd row
theorem sc_L_run : FnScope ["_law_plan_here", "_law_line", "_law_row_here", "_law_there", "_law_mate_of", "_law_kind", "_law_number", "_law_places_here", "_law_k", "_law_earlier"] ["_law_plan_here", "_law_line", "_law_row_here"] (defScope s_L_run) := C8.fnScope_by (by decide +kernel)
theorem ok_L_run (T : Tp K mg) (F : FD K d_L_run) (c_L_fit : C8.Cal P w K mg base 1 "_law_fit" (spLFit K) []) : C8.Cal P w K mg base 2 "_law_run" (spLRun K) [] := by
  refine cal_k F T.g_law_run sc_L_run (fun _ _ _ _ _ _ us hl => match us, hl with | [_, _, _], _ => rfl) (fun vs H Q E h => ?_) (fun cdv A outer s H vs Q E hr h => ?_)
  · obtain ⟨R, ⟨D, l, r, q, row, rfl, _⟩, _⟩ := h
    rfl
  · obtain ⟨R, ⟨D, l, r, pl, row, rfl, hP, hl, hrw, hz, rfl⟩, q⟩ := h
    refine ⟨_, (pss_cons (ps_asg (pe_tup (pa_cons (pe_listEnum (K := K) rfl rfl (by rfl) T.f_list (by rfl) T.f_enumerate (pv 1)) (pa_cons (pe_op op_rep (pe_lst (pa_cons pe_non pa_nil)) (pe_callB (k_len (K := K) rfl) (by rfl) T.f_len PySem.boot_len (pa_cons (pv 1) pa_nil))) pa_nil))) (k_pgTup (K := K) rfl rfl (pgs_cons (pg_name (i := 3) (sc_L_run).nd rfl (.inr rfl)) (pgs_cons (pg_name (i := 4) (sc_L_run).nd rfl (.inl rfl)) pgs_nil))))
  (pss_cons (ps_for PassesOwn.never rfl (k_piList (K := K) rfl (pv 2)) (pg_name (i := 5) (sc_L_run).nd rfl (.inr rfl))
  (pss_cons (ps_set (i := 6) (sc_L_run).nd rfl (.inl rfl) (pe_callB (k_len (K := K) rfl) (by rfl) T.f_len PySem.boot_len (pa_cons (pv 4) pa_nil)))
  (pss_cons (ps_expr (k_bm (K := K) rfl PySem.F.plainAttrs_list PySem.F.slot_list_append PySem.F.type_list_append mt_append (pv 4) (pa_cons pe_non pa_nil)))
  (pss_cons (ps_setLc (i := 7) (own := [("_law_k", 8)]) (g := (gName 8)) (by rfl) (sc_L_run).nd rfl rfl (sw_true rfl rfl rfl (by decide +kernel)) (pi_range1 (by rfl) T.f_range (pa_cons (pe_callB (k_len (K := K) rfl) (by rfl) T.f_len PySem.boot_len (pa_cons (pv 3) pa_nil)) pa_nil)) (blkOk_by (own := [("_law_k", 8)]) (N := ["_law_plan_here", "_law_line", "_law_row_here", "_law_there", "_law_mate_of", "_law_kind", "_law_number", "_law_places_here", "_law_k", "_law_earlier"]) (sc := defScope s_L_run) (by decide +kernel)) (fun _ _ _ _ _ => (pg_name (i := 8) (sc_L_run).nd rfl (by first | exact .inl rfl | exact .inr rfl))) (fun _ _ _ _ _ => (pts_one (pt_val (C8.pe_c c_L_fit hr (by decide) (by rfl) (pa_cons (pv 0) (pa_cons (pe_ix (k_ixT (K := K) rfl) (pe_ix (k_ixL (K := K) rfl) (pv 3) (pv 8) (fun _ _ => rfl)) pe_int (fun _ _ => rfl)) (pa_cons (pv 5) pa_nil))))))) (fun _ _ _ _ _ => (pv 8)))
  (pss_one (ps_if (pt_cmpR (k_eqD (K := K) rfl hr) (pv 7) (pe_lst pa_nil) (nomark _))
  (pss_one (ps_expr (k_bm (K := K) rfl PySem.F.plainAttrs_list PySem.F.slot_list_append PySem.F.type_list_append mt_append (pv 3) (pa_cons (pe_tup (pa_cons (pv 6) (pa_cons (pv 5) pa_nil))) pa_nil))))
  (pss_cons (ps_set (i := 9) (sc_L_run).nd rfl (.inl rfl) (pe_ix (k_ixT (K := K) rfl) (k_bm (K := K) rfl PySem.F.plainAttrs_list PySem.F.slot_list_pop PySem.F.type_list_pop mt_popAt (pv 3) (pa_cons (pe_ix (k_ixL (K := K) rfl) (pv 7) pe_int (fun _ _ => rfl)) pa_nil)) pe_int (fun _ _ => rfl)))
  (pss_one (ps_asg (pe_tup (pa_cons (pv 6) (pa_cons (pv 9) pa_nil))) (k_pgTup (K := K) rfl rfl (pgs_cons (pg_sub (pv 4) (pv 9) set_list) (pgs_cons (pg_sub (pv 4) (pv 6) set_list) pgs_nil))))))))))))
  (pss_one (ps_ret (pe_tup (pa_cons (pv 3) (pa_cons (pv 4) pa_nil))))))), ?_⟩
    generalize hd : pl.kd = d at q
    refine q_asg2 (T := fun t x y Ha Hb => ∃ th mo, x = .ref th ∧ y = .ref mo ∧ Ha th = none ∧ Ha mo = none ∧ th ≠ mo ∧ Hb th = some (.lst []) ∧ Hb mo = some (.lst [])) (er_tup2 (er_l (el_listEn (ev_var rfl) hl)) (er_l (el_rep0 (el_lst (ea_cons ev_c ea_nil) (by simp)) (ev_len (ev_var rfl) (SqL.of hl))))) ?_ ?_
    · rintro v H1 e1 ⟨t, x, y, Ha, Hb, rfl, ea, eb, ec, ⟨th, rfl, z1, z2⟩, ⟨mo, rfl, z3, z4⟩, ht, ht'⟩
      exact ⟨t, _, _, rfl, st_of ht', th, mo, rfl, rfl, z1, fresh_back ea z3, ne_of_none z2 z3, ec _ _ (eb _ _ z2), ec _ _ z4⟩
    rintro t x y H1 e1 ⟨th, mo, rfl, rfl, nth, nmo, hne, hth, hmo⟩
    let Pm : Addr → Prop := fun b => b = th ∨ b = mo
    have hPm : ∀ b, Pm b → H b = none := by
      rintro b (rfl | rfl)
      · exact nth
      · exact nmo
    have eC : Ex H (hideP Pm H1) := ex_hideP e1 hPm
    refine q_forLn (ev_var rfl) (SqL.of (e1 _ _ hrw)) (fun i σ' H' => ∃ y5 y6 y7 y8 y9 ts mv, σ' = [some (.ref D), some (.ref l), some (.ref r), some (.ref th), some (.ref mo), y5, y6, y7, y8, y9] ∧ Ex (hideP Pm H1) (hideP Pm H') ∧ H' th = some (.lst (rvs ts)) ∧ H' mo = some (.lst mv) ∧ mv.length = i ∧ Paired (WtAt (hideP Pm H') row) ts (curN (fitsF d row) i))
      (fun H2 e2 => ⟨_, _, _, _, _, [], [], rfl, hideP_mono e2, e2 _ _ hth, e2 _ _ hmo, rfl, .nil⟩) (fun i σ' H' hi h => ?_) ?_ ?_
    · obtain ⟨_, _, _, _, _, _, _, _, h, _⟩ := h
      exact SqL.of (hideP_ex _ _ _ _ (h _ _ (eC _ _ hrw)))
    · rintro i x σ' H2 hx ⟨y5, y6, y7, y8, y9, ts, mv, rfl, ex, h1, h2, h3, h4⟩
      have hi : i < row.length := by
        have := (List.getElem?_eq_some_iff.mp hx).1
        rw [svs_len] at this
        exact this
      have hx' : x = .str (kdOf row i) := by
        rw [List.getElem?_map, List.getElem?_eq_getElem hi] at hx
        rw [kdOf_at (List.getElem?_eq_getElem hi)]
        exact (Option.some.inj hx).symm
      subst hx'
      have hlen := Paired.length h4
      have hcl := curN_len (fitsF d row) i
      refine q_asg (v := .int (i : Nat)) (ev_is (ev_len (ev_var rfl) (SqL.of h2)) (by rw [h3])) fun H3 e3 => ?_
      refine q_app (e3 _ _ h2) (ev_var rfl) ev_c (by omega) fun H4 e4 => ?_
      have k1 : upd H4 mo (.lst (mv ++ [.non])) th = some (.lst (rvs ts)) := by
        rw [upd_ne hne]
        exact e4 _ _ (e3 _ _ h1)
      have k2 : upd H4 mo (.lst (mv ++ [.non])) mo = some (.lst (mv ++ [.non])) := upd_same
      have k0 : Ex (hideP Pm H2) (hideP Pm (upd H4 mo (.lst (mv ++ [.non])))) := by
        rw [hideP_upd (show Pm mo from .inr rfl)]
        exact hideP_mono (e3.trans e4)
      generalize upd H4 mo (.lst (mv ++ [.non])) = H5 at k0 k1 k2
      have ex5 := ex.trans k0
      have h45 : Paired (WtAt (hideP Pm H5) row) ts (curN (fitsF d row) i) := Paired.mapP h4 fun a b x => k0 _ _ x
      generalize hcur : curN (fitsF d row) i = cur at *
      have hP5 : PlAt H5 D pl := (hP.ex (eC.trans ex5)).ex (hideP_ex _ _)
      have hcl2 : ∀ {k : Nat}, k < cur.length → ∃ t, (rvs ts)[k]? = some (.ref t) ∧ WtAt (hideP Pm H5) row t (cur[k]?.getD 0) := fun {k} hk => by
        have hk' : k < ts.length := by omega
        obtain ⟨b, z1, z2⟩ := paired_at h45 (List.getElem?_eq_getElem hk')
        exact ⟨ts[k], by rw [List.getElem?_map, List.getElem?_eq_getElem hk']; rfl, by rw [z1]; exact z2⟩
      refine q_asgL (el_compR (ei_rng (ea_cons (ev_len (ev_var rfl) (SqL.of k1)) ea_nil) (by rw [List.length_map]; omega)) (by rw [List.length_map]; omega) (fun k => fitsF d row (cur[k]?.getD 0) i) (fun k => .int (k : Nat)) (fun _ => rfl) (fun k hk H6 e6 => ?_) (fun k hk _ H6 e6 => ev_var rfl)) fun pp H6 hpp e6 h6 => ?_
      · obtain ⟨t, z1, z2⟩ := hcl2 (k := k) (by rw [List.length_map] at hk; omega)
        rw [← hd]
        exact et_B (ev_fit (ev_var rfl) (ev_ixT (ev_ixL (ev_var rfl) (ev_var rfl) (SqL.of (e6 _ _ k1)) z1) ev_c (e6 _ _ (hideP_ex _ _ _ _ z2)) rfl) (ev_var rfl) (hP5.ex e6))
      have hrn : ((rvs ts).length : Int).toNat = cur.length := by rw [List.length_map]; omega
      rw [hrn] at h6
      have h6 : H6 pp = some (.lst (nvs ((List.range cur.length).filter fun k => fitsF d row (cur[k]?.getD 0) i))) := h6
      generalize hfs : ((List.range cur.length).filter fun k => fitsF d row (cur[k]?.getD 0) i) = fs at h6
      have hmem : ∀ k, k ∈ fs ↔ k < cur.length ∧ fitsF d row (cur[k]?.getD 0) i = true := fun k => by
        rw [← hfs, List.mem_filter, List.mem_range]
      have k1' := e6 _ _ k1
      have k2' := e6 _ _ k2
      have ex6 := ex5.trans (hideP_mono (Q := Pm) e6)
      have hcs : curN (fitsF d row) (i + 1) = comeN (fitsF d row) cur i := by
        rw [← hcur]
        rfl
      refine s_if (b := decide (fs = [])) (et_B (ev_opL1' (ev_var rfl) (el_lst ea_nil (by simp)) fun b H8 hb8 e8 => rv_eqN (e8 _ _ h6) hb8)) (fun hb H7 e7 => ?_) fun hb H7 e7 => ?_
      · have hb := of_decide_eq_true hb
        subst hb
        have hno : cur.find? (fun j => fitsF d row j i) = none := by
          rw [List.find?_eq_none]
          intro j hj q
          obtain ⟨k, hk, rfl⟩ := List.getElem_of_mem hj
          have := (hmem k).mpr ⟨hk, by rw [List.getElem?_eq_getElem hk]; exact q⟩
          cases this
        refine s_appU (ys := [.int (i : Nat), .str (kdOf row i)]) (e7 _ _ k1') (ev_var rfl) (eu_tup (ea_cons (ev_var rfl) (ea_cons (ev_var rfl) ea_nil)) (by simp)) (by rw [List.length_map]; omega) fun tp H8 htp e8 h8 => ?_
        have e68 := e7.trans e8
        have x8 : Ex (hideP Pm H6) (hideP Pm (upd H8 th (.lst (rvs ts ++ [.ref tp])))) := by
          rw [hideP_upd (show Pm th from .inl rfl)]
          exact hideP_mono e68
        refine ⟨_, _, _, _, _, ts ++ [tp], mv ++ [.non], rfl, ex6.trans x8, ?_, ?_, by simp [h3], ?_⟩
        · rw [upd_same]
          simp
        · rw [upd_ne hne.symm]
          exact e68 _ _ k2'
        · rw [hcs]
          unfold comeN
          rw [hno]
          refine paired_snoc (Paired.mapP h45 fun a b z => (hideP_mono (Q := Pm) e6).trans x8 _ _ z) ?_
          have : hideP Pm H8 tp = some (.tup [.int (i : Nat), .str (kdOf row i)]) := by
            refine (hideP_ne ?_).trans h8
            rintro (e | e)
            · rw [e, e7 _ _ k1'] at htp
              cases htp
            · rw [e, e7 _ _ k2'] at htp
              cases htp
          show hideP Pm (upd H8 th _) tp = _
          rw [hideP_upd (show Pm th from .inl rfl)]
          exact this
      · have hb := of_decide_eq_false hb
        obtain ⟨k0', rest, hfe⟩ : ∃ k r, fs = k :: r := by
          cases fs with
          | nil => exact absurd rfl hb
          | cons k r => exact ⟨k, r, rfl⟩
        have hk0 := (hmem k0').mp (by rw [hfe]; exact List.mem_cons_self)
        obtain ⟨hk0l, hk0f⟩ := hk0
        have hmin : ∀ k, k < k0' → k < cur.length → fitsF d row (cur[k]?.getD 0) i = false := fun k hk hkl => by
          cases hh : fitsF d row (cur[k]?.getD 0) i with
          | false => rfl
          | true =>
            have hin := (hmem k).mpr ⟨hkl, hh⟩
            have hs : fs.Pairwise (· < ·) := by
              rw [← hfs]
              exact List.Pairwise.filter _ List.pairwise_lt_range
            rw [hfe] at hin hs
            rcases List.mem_cons.mp hin with e | hin
            · omega
            · have := (List.pairwise_cons.mp hs).1 k hin
              omega
        have hj0 : cur[k0']? = some (cur[k0']?.getD 0) := by
          rw [List.getElem?_eq_getElem hk0l]
          rfl
        generalize hj : cur[k0']?.getD 0 = j0 at hj0 hk0f
        have hfind : cur.find? (fun j => fitsF d row j i) = some j0 := by
          refine List.find?_eq_some_iff_append.mpr ⟨hk0f, cur.take k0', cur.drop (k0' + 1), ?_, fun a ha => ?_⟩
          · obtain ⟨z1, z2⟩ := List.getElem?_eq_some_iff.mp hj0
            rw [← z2, ← List.drop_eq_getElem_cons z1, List.take_append_drop]
          · obtain ⟨k, hk, rfl⟩ := List.getElem_of_mem ha
            rw [List.length_take] at hk
            rw [List.getElem_take]
            have := hmin k (by omega) (by omega)
            rw [List.getElem?_eq_getElem (by omega)] at this
            rw [Option.getD_some] at this
            simp [this]
        have hj0i : j0 < i := by
          have := curN_lt (fitsF d row) i j0 (by rw [hcur]; exact List.mem_of_getElem? hj0)
          exact this
        obtain ⟨tp, z1, z2⟩ := hcl2 hk0l
        rw [hj] at z2
        have hin7 : H7 pp = some (.lst (nvs (k0' :: rest))) := by
          rw [← hfe]
          exact e7 _ _ h6
        have k17 := e7 _ _ k1'
        have z27 : H7 tp = some (.tup [.int (j0 : Int), .str (kdOf row j0)]) := hideP_ex _ _ _ _ ((hideP_mono (Q := Pm) (e6.trans e7)) _ _ z2)
        have htpth : tp ≠ th := fun e => by
          rw [e, k17] at z27
          cases z27
        refine q_pop0 (ev_var rfl) k17 (ev_ixL (i := 0) (v := .int (k0' : Nat)) (ev_var rfl) ev_c (SqL.of hin7) rfl) z1 z27 (by rw [List.length_map]; omega) fun H9 e89 => ?_
        have kmo : upd H9 th (.lst ((rvs ts).eraseIdx k0')) mo = some (.lst (mv ++ [.non])) := by
          rw [upd_ne hne.symm]
          exact e89 _ _ (e7 _ _ k2')
        have kth : upd H9 th (.lst ((rvs ts).eraseIdx k0')) th = some (.lst ((rvs ts).eraseIdx k0')) := upd_same
        have x9 : Ex (hideP Pm H6) (hideP Pm (upd H9 th (.lst ((rvs ts).eraseIdx k0')))) := by
          rw [hideP_upd (show Pm th from .inl rfl)]
          exact hideP_mono (e7.trans e89)
        generalize upd H9 th (.lst ((rvs ts).eraseIdx k0')) = Hx at kmo kth x9
        refine s_asgTup (eu_tup (ea_cons (ev_var rfl) (ea_cons (ev_var rfl) ea_nil)) (by simp)) fun tt Hy htt ey hy => ?_
        have kmo' := ey _ _ kmo
        refine ⟨tt, _, rfl, st_of hy, rfl, _, _, rfl, ⟨_, rfl, _, rfl, mo, _, (j0 : Int), j0, rfl, rfl, kmo', ixN_nat (by simp [h3]; omega), ⟨_, _, rfl, ⟨_, rfl, _, rfl, mo, _, (i : Int), i, rfl, rfl, upd_same, ixN_nat (by simp [h3]), rfl, ?_⟩⟩⟩⟩
        have x10 : Ex (hideP Pm H6) (hideP Pm (upd (upd Hy mo (.lst ((mv ++ [V.non]).set j0 (.int (i : Nat))))) mo (.lst (((mv ++ [V.non]).set j0 (.int (i : Nat))).set i (.int (j0 : Nat)))))) := by
          rw [hideP_upd (show Pm mo from .inr rfl), hideP_upd (show Pm mo from .inr rfl)]
          exact x9.trans (hideP_mono ey)
        refine ⟨_, _, _, _, _, ts.eraseIdx k0', _, rfl, ex6.trans x10, ?_, upd_same, by simp [h3], ?_⟩
        · rw [upd_ne hne, upd_ne hne, ey _ _ kth]
          congr 2
          rw [List.eraseIdx_eq_take_drop_succ, List.eraseIdx_eq_take_drop_succ, ← List.map_take, ← List.map_drop, ← List.map_append]
        · rw [hcs]
          unfold comeN
          rw [hfind]
          show Paired _ _ (cur.erase j0)
          rw [erase_idx (by rw [← hcur]; exact asc_nodup (curN_asc _ _)) hj0]
          exact paired_erase (Paired.mapP h45 fun a b z => (hideP_mono (Q := Pm) e6).trans x10 _ _ z)
    · rintro σ' H2 ⟨y5, y6, y7, y8, y9, ts, mv, rfl, ex, h1, h2, h3, h4⟩
      rw [svs_len] at h4
      have eo : Ex H H2 := (eC.trans ex).trans (hideP_ex _ _)
      refine s_retR (er_u (eu_tup (ea_cons (ev_var rfl) (ea_cons (ev_var rfl) ea_nil)) (by simp))) fun v H3 e3 rr => ?_
      obtain ⟨t2, rfl, ht2, ht2'⟩ := rr
      exact q _ H3 (eo.trans e3) ⟨t2, th, mo, ts, rfl, fresh_back eo ht2, nth, ht2', e3 _ _ h1, Paired.mapP h4 fun a b z => e3 _ _ (hideP_ex _ _ _ _ z)⟩
/-! ### _law_after -/
theorem ei_rngN {σ : L2.St} {H : Hp} {te : TE} {j : Int} {n : Nat} (h : Ev te σ H (.int j)) (hj : j = (n : Int)) (hn : n ≤ 100000) : EvI (iRng1 (tCons te tNil)) σ H n (YFn fun i => .int (i : Nat)) := by
  subst hj
  have := ei_rng (ea_cons h ea_nil) (by omega)
  rwa [Int.toNat_natCast] at this
def spLAfter (K : PySem.W.Frag) : Sp := pur fun vs H R => ∃ D l r q row, vs = [.ref D, .ref l, .ref r] ∧ PlAt H D q ∧ H l = some (.lst []) ∧ H r = some (.lst (svs row)) ∧ row.length ≤ 1000 ∧ R = RL (svs (lineOf q.kd row))
theorem sc_L_after : FnScope ["_law_plan_here", "_law_line", "_law_row_here", "_law_number", "_law_kind"] ["_law_plan_here", "_law_line", "_law_row_here"] (defScope s_L_after) := C8.fnScope_by (by decide +kernel)
theorem lc_overT {σ : L2.St} {H : Hp} {te tb : TE} {tt : TT} {g : TG} {vs : List Nat} {R R' : Rel} (h : EvR te σ H R) (hb : Bk R') (k : ∀ v H1 H2, Ex H H1 → Ex H1 H2 → R v H1 H2 → EvR (tLc (iList K (tOp (rIxT K) (tC v) (tC (.int 0)))) g tt tb vs) σ H2 R') : EvR (tLc (iList K (tOp (rIxT K) te (tC (.int 0)))) g tt tb vs) σ H R' := fun H1 e Q q =>
  h H1 e _ fun v H2 e2 r => k v H1 H2 e e2 r H2 (Ex.refl H2) Q fun v' H3 e3 r' => q v' H3 (e2.trans e3) (hb _ _ _ _ e2 r')
theorem ok_L_after (T : Tp K mg) (F : FD K d_L_after) (c_L_run : C8.Cal P w K mg base 2 "_law_run" (spLRun K) []) : C8.Cal P w K mg base 3 "_law_after" (spLAfter K) [] := by
  refine cal_k F T.g_law_after sc_L_after (fun _ _ _ _ _ _ us hl => match us, hl with | [_, _, _], _ => rfl) (fun vs H Q E h => ?_) (fun cdv A outer s H vs Q E hr h => ?_)
  · obtain ⟨R, ⟨D, l, r, q, row, rfl, _⟩, _⟩ := h
    rfl
  · obtain ⟨R, ⟨D, l, r, pl, row, rfl, hP, hl, hrw, hz, rfl⟩, q⟩ := h
    refine ⟨_, (pss_one (ps_ret (pe_lc (own := [("_law_number", 3), ("_law_kind", 4)]) (g := (gTup K 2 (gCons (gName 3) (gCons (gName 4) gNil)))) (by rfl) (sc_L_after).nd (k_piList (K := K) rfl (pe_ix (k_ixT (K := K) rfl) (C8.pe_c c_L_run hr (by decide) (by rfl) (pa_cons (pv 0) (pa_cons (pv 1) (pa_cons (pv 2) pa_nil)))) pe_int (fun _ _ => rfl))) (blkOk_by (own := [("_law_number", 3), ("_law_kind", 4)]) (N := ["_law_plan_here", "_law_line", "_law_row_here", "_law_number", "_law_kind"]) (sc := defScope s_L_after) (by decide +kernel)) (fun _ _ _ _ _ => (k_pgTup (K := K) rfl rfl (pgs_cons (pg_name (i := 3) (sc_L_after).nd rfl (by first | exact .inl rfl | exact .inr rfl)) (pgs_cons (pg_name (i := 4) (sc_L_after).nd rfl (by first | exact .inl rfl | exact .inr rfl)) pgs_nil)))) (fun _ _ _ _ _ => pts_nil) (fun _ _ _ _ _ => (pv 4))))), ?_⟩
    refine s_retR (lc_overT (er_callA (ea_cons (ev_var rfl) (ea_cons (ev_var rfl) (ea_cons (ev_var rfl) ea_nil))) (fun H1 e => ⟨D, l, r, pl, row, rfl, hP.ex e, e _ _ hl, e _ _ hrw, hz, rfl⟩) bk_run) bk_l ?_) q
    rintro v H1 H2 e1 e2 ⟨t, th, mo, ts, rfl, nt, nth, ht, hth, hp⟩
    have hlen := Paired.length hp
    have hcl := curN_len (fitsF pl.kd row) row.length
    refine er_l (el_of (EvR.imp (er_comp (ei_list (ev_ixT (i := 0) ev_c ev_c ht rfl) (SqL.of hth)) (curN (fitsF pl.kd row) row.length) (by rw [List.length_map]; exact hlen.symm) (by rw [List.length_map]; omega) (fun _ => true) (fun j => RV (.str (kdOf row j))) (fun j v _ => v = .str (kdOf row j)) (fun _ _ _ _ _ h => h) (fun _ _ _ _ _ _ _ _ _ h => h) fun i y x H3 H4 hy e yy => ?_) fun v H3 H4 _ _ r => ?_))
    · obtain ⟨rfl, hx⟩ := yy
      have hi : i < ts.length := by have := (List.getElem?_eq_some_iff.mp hy).1; omega
      obtain ⟨b, z1, z2⟩ := paired_at hp (List.getElem?_eq_getElem hi)
      rw [hy] at z1
      cases z1
      rw [List.getElem?_map, List.getElem?_eq_getElem hi] at hx
      cases hx
      exact ⟨Ex.refl _, fun Qg k => ⟨ts[i], _, rfl, st_of (e _ _ z2), rfl, _, _, rfl, _, _, rfl, rfl, k _ _ (Ex.refl _) rfl et_yes fun _ => er_v (ev_var rfl)⟩⟩
    · obtain ⟨p, vs, rfl, h1, h2, h3⟩ := r
      rw [paired_map h3, filt_tt] at h2
      refine ⟨p, rfl, h1, ?_⟩
      rw [h2]
      unfold lineOf
      show _ = some (HO.lst (List.map V.str (List.map _ _)))
      rw [List.map_map]
      rfl
/-! ### _law_gap -/
def spLGap (K : PySem.W.Frag) : Sp := pur fun vs H R => ∃ D t q n, vs = [.ref D, .ref t] ∧ PlAt H D q ∧ PlOk q ∧ NdAt H t n ∧ NdIn q.kd n ∧ R = ROGap (gapR q.kd n)
theorem sc_L_gap : FnScope ["_law_plan_here", "_law_node", "_law_one", "_law_other", "_law_many"] ["_law_plan_here", "_law_node"] (defScope s_L_gap) := C8.fnScope_by (by decide +kernel)
theorem el_lafterN {σ : L2.St} {H : Hp} {t1 t2 t3 : TE} {E : XK} {D p : Addr} {q : Pl} {row : List Str} (h1 : Ev t1 σ H (.ref D)) (h2 : EvL t2 σ H []) (h3 : Ev t3 σ H (.ref p)) (hP : PlAt H D q) (hp : H p = some (.lst (svs row))) (hz : row.length ≤ 1000) :
    EvR (tCall (spLAfter K) [] E (tCons t1 (tCons t2 (tCons t3 tNil)))) σ H (RL (svs (lineOf q.kd row))) := by
  refine er_call (ear_cons (er_v h1) (ear_cons (er_l h2) (ear_cons (er_v h3) ear_nil))) ?_
  rintro vs H1 H2 e1 e2 ⟨v, r, H3, rfl, e3, e4, rfl, v2, r2, H4, rfl, e5, e6, ⟨l, rfl, _, hl⟩, v3, r3, H5, rfl, e7, e8, rfl, rfl⟩
  exact ⟨_, ⟨D, l, p, q, row, rfl, hP.ex (e1.trans e2), (e7.trans e8) _ _ hl, (e1.trans e2) _ _ hp, hz, rfl⟩, fun v H3 e r => bk_l _ _ _ _ e2 r⟩
theorem ok_L_gap (T : Tp K mg) (F : FD K d_L_gap) (c_L_after : C8.Cal P w K mg base 3 "_law_after" (spLAfter K) []) : C8.Cal P w K mg base 4 "_law_gap" (spLGap K) [] := by
  refine cal_k F T.g_law_gap sc_L_gap (fun _ _ _ _ _ _ us hl => match us, hl with | [_, _], _ => rfl) (fun vs H Q E h => ?_) (fun cdv A outer s H vs Q E hr h => ?_)
  · obtain ⟨R, ⟨D, t, q, n, rfl, _⟩, _⟩ := h
    rfl
  · obtain ⟨R, ⟨D, t, pl, n, rfl, hP, hO, ⟨x, y, z, hn⟩, ⟨hz1, hz2, hi1, hi2⟩, rfl⟩, q⟩ := h
    have hd := hO.kd
    refine ⟨_, (pss_cons (ps_par (i := 2) (j := 3) (by rfl) (sc_L_gap).nd rfl rfl (by decide) rfl rfl (pa_cons (C8.pe_c c_L_after hr (by decide) (by rfl) (pa_cons (pv 0) (pa_cons (pe_lst pa_nil) (pa_cons (pe_ix (k_ixT (K := K) rfl) (pv 1) pe_int (fun _ _ => rfl)) pa_nil)))) (pa_cons (C8.pe_c c_L_after hr (by decide) (by rfl) (pa_cons (pv 0) (pa_cons (pe_lst pa_nil) (pa_cons (pe_ix (k_ixT (K := K) rfl) (pv 1) pe_int (fun _ _ => rfl)) pa_nil)))) pa_nil)) (by rfl))
  (pss_cons (ps_for PassesOwn.never rfl (pi_range1 (by rfl) T.f_range (pa_cons (pe_op op_add (pe_callB (call_max2 rfl) (by rfl) T.f_max boot_max (pa_cons (pe_callB (k_len (K := K) rfl) (by rfl) T.f_len PySem.boot_len (pa_cons (pv 2) pa_nil)) (pa_cons (pe_callB (k_len (K := K) rfl) (by rfl) T.f_len PySem.boot_len (pa_cons (pv 3) pa_nil)) pa_nil))) pe_int) pa_nil)) (pg_name (i := 4) (sc_L_gap).nd rfl (.inl rfl))
  (pss_cons (ps_if (pt_cmpR (k_eqD (K := K) rfl hr) (pe_op op_cat (pe_slice (k_slL (K := K) rfl) (pv 3) po_none (po_some (pv 4))) (pv 2)) (pv 3) (nomark _))
  (pss_one (ps_ret (pe_tup (pa_cons (pe_slice (k_slL (K := K) rfl) (pv 3) po_none (po_some (pv 4))) (pa_cons (pe_lst pa_nil) pa_nil)))))
  pss_nil)
  (pss_one (ps_if (pt_cmpR (k_eqD (K := K) rfl hr) (pe_op op_cat (pe_slice (k_slL (K := K) rfl) (pv 2) po_none (po_some (pv 4))) (pv 3)) (pv 2) (nomark _))
  (pss_one (ps_ret (pe_tup (pa_cons (pe_lst pa_nil) (pa_cons (pe_slice (k_slL (K := K) rfl) (pv 2) po_none (po_some (pv 4))) pa_nil)))))
  pss_nil))))
  (pss_one (ps_ret pe_non)))), ?_⟩
    refine q_par (T := fun x y H1 H2 => ∃ p r, x = .ref p ∧ y = .ref r ∧ H2 p = some (.lst (svs (lineOf pl.kd n.1))) ∧ H2 r = some (.lst (svs (lineOf pl.kd n.2.1)))) (ear_cons (el_lafterN (ev_var rfl) (el_lst ea_nil (by simp)) (ev_ixT (i := 0) (ev_var rfl) ev_c hn.tup rfl) hP hn.one hz1) (ear_cons (el_lafterN (ev_var rfl) (el_lst ea_nil (by simp)) (ev_ixT (i := 1) (ev_var rfl) ev_c hn.tup rfl) hP hn.two hz2) ear_nil)) ?_ ?_
    · rintro vs H1 e1 ⟨v, r, H2, rfl, e2, e3, ⟨p, rfl, _, hp⟩, v2, r2, H3, rfl, e4, e5, ⟨p2, rfl, _, hp2⟩, rfl⟩
      exact ⟨_, _, rfl, p, p2, rfl, rfl, e3 _ _ hp, e5 _ _ hp2⟩
    rintro x1 y1 H1 e1 ⟨p, r, rfl, rfl, hp, hr2⟩
    have l1 := lineOf_len pl.kd n.1
    have l2 := lineOf_len pl.kd n.2.1
    have o1 : ∀ x ∈ lineOf pl.kd n.1, okS x := fun x hx => (hd.good x (hi1 x (lineOf_mem hx))).ok
    have o2 : ∀ x ∈ lineOf pl.kd n.2.1, okS x := fun x hx => (hd.good x (hi2 x (lineOf_mem hx))).ok
    unfold gapR at q
    generalize lineOf pl.kd n.1 = a at *
    generalize lineOf pl.kd n.2.1 = b at *
    have eT : ∀ {σ : L2.St} {H2 : Hp} {t1 t2 t3 : TE} {pu pv : Addr} {u v : List Str} {m : Nat}, Ev t1 σ H2 (.ref pu) → Ev t2 σ H2 (.int (m : Int)) → Ev t3 σ H2 (.ref pv) → H2 pu = some (.lst (svs u)) → H2 pv = some (.lst (svs v)) → u.length ≤ 1000 → v.length ≤ 1000 → (∀ x ∈ u, okS x) → (∀ x ∈ v, okS x) →
        EvT (tB (tOp (rEqD K) (tOp rCat (tSl (rSlL K) t1 tNoPart (tPart t2)) t3) t1)) σ H2 (decide (u.take m ++ v = u)) := by
      intro σ H2 t1 t2 t3 pu pv u v m q1 q2 q3 g1 g2 z1 z2 w1 w2
      have hc : EvL (tOp rCat (tSl (rSlL K) t1 tNoPart (tPart t2)) t3) σ H2 (svs (u.take m ++ v)) := fun H3 e Q k =>
        (el_is (el_sl q1 eo_none (eo_some q2) (SqL.of g1)) (by rw [cut_to]) : EvL _ σ H2 ((svs u).take m)) H3 e _ fun pp H4 hpp e4 h4 => q3 H4 (e.trans e4) _ fun H5 e5 => ⟨pp, pv, _, _, rfl, rfl, e5 _ _ h4, ((e.trans e4).trans e5) _ _ g2, sz_of (by rw [List.length_take, svs_len, svs_len]; omega), fun l hl => k l _ (fresh_back (e4.trans e5) hl) ((e4.trans e5).trans (Ex.new hl)) (by rw [upd_same, ← List.map_take, ← List.map_append])⟩
      exact et_B (ev_opL1 hc (fun H3 e => q1.mono e) fun pp H3 h3 e => rv_eqS h3 (e _ _ g1) (fun x hx => (List.mem_append.mp hx).elim (fun h => w1 x (List.mem_of_mem_take h)) (w2 x)) w1)
    refine q_forE (n := max a.length b.length + 1) (ei_rngN (ev_op (ev_max2 (ev_len (ev_var rfl) (SqL.of hp)) (ev_len (ev_var rfl) (SqL.of hr2))) ev_c rv_I0) (by rw [svs_len, svs_len]; split <;> omega) (by omega)) (fun i σ' H' => ∃ y4, σ' = [some (.ref D), some (.ref t), some (.ref p), some (.ref r), y4] ∧ ∀ m, m < i → gapT a b m = none) (fun H2 e2 => ⟨_, rfl, fun m hm => absurd hm (by omega)⟩) ?_ ?_
    · rintro Hs i x σ' H2 H3 hi e2 e3 ⟨y4, rfl, hno⟩ ⟨rfl, rfl⟩
      have e13 := e2.trans e3
      have hp3 := e13 _ _ hp
      have hr3 := e13 _ _ hr2
      refine q_when (b := decide (b.take i ++ a = b)) (eT (ev_var rfl) (ev_var rfl) (ev_var rfl) hr3 hp3 (by omega) (by omega) o2 o1) (fun hb H4 e4 => ?_) fun hb H4 e4 => ?_
      · have hb := of_decide_eq_true hb
        have hg : gapP a b = some (b.take i, []) := gapP_of_T (m := i) (by unfold gapT; rw [if_pos hb]) (by omega)
        refine s_retR (er_gapN (xs := b.take i) (ys := []) (el_is (el_sl (ev_var rfl) eo_none (eo_some (ev_var rfl)) (SqL.of (e4 _ _ hr3))) (by rw [cut_to]; exact List.map_take.symm)) (el_lst ea_nil (by simp))) fun v H5 e5 rr => q v H5 (((e1.trans e13).trans e4).trans e5) ?_
        rw [hg]
        exact bk_ogap (g := some (b.take i, [])) _ _ _ _ ((e1.trans e13).trans e4) rr
      · have hb := of_decide_eq_false hb
        have hp4 := e4 _ _ hp3
        have hr4 := e4 _ _ hr3
        refine s_when (b := decide (a.take i ++ b = a)) (eT (ev_var rfl) (ev_var rfl) (ev_var rfl) hp4 hr4 (by omega) (by omega) o1 o2) (fun hc H5 e5 => ?_) fun hc H5 e5 => ?_
        · have hc := of_decide_eq_true hc
          have hg : gapP a b = some ([], a.take i) := gapP_of_T (m := i) (by unfold gapT; rw [if_neg hb, if_pos hc]) (by omega)
          refine s_retR (er_gapN (xs := []) (ys := a.take i) (el_lst ea_nil (by simp)) (el_is (el_sl (ev_var rfl) eo_none (eo_some (ev_var rfl)) (SqL.of (e5 _ _ hp4))) (by rw [cut_to]; exact List.map_take.symm))) fun v H6 e6 rr => q v H6 ((((e1.trans e13).trans e4).trans e5).trans e6) ?_
          rw [hg]
          exact bk_ogap (g := some ([], a.take i)) _ _ _ _ (((e1.trans e13).trans e4).trans e5) rr
        · have hc := of_decide_eq_false hc
          refine ⟨(e3.trans e4).trans e5, _, rfl, fun m hm => ?_⟩
          by_cases h : m = i
          · subst h
            unfold gapT
            rw [if_neg hb, if_neg hc]
          · exact hno m (by omega)
    · rintro σ' H2 e2 ⟨y4, rfl, hno⟩
      have hg : gapP a b = none := gapP_none_of fun m hm => hno m (by omega)
      refine s_ret ev_c fun H3 e3 => q _ H3 ((e1.trans e2).trans e3) ?_
      rw [hg]
      rfl
end
end K64
set_option Elab.async false
set_option linter.all false
set_option maxRecDepth 100000
set_option maxHeartbeats 4000000
/-! Sets of texts: set(xs) with xs a list of texts of any length, its len, its sorted list. -/
namespace K64
open PySem PySem.Spec PyProof.Rows L2 Evl
def keyS (e : Int × Value) : Str := match e.2 with | .str k _ => k | _ => Str.empty
def GoodS (w : World) (e : Int × Value) : Prop := ∃ k tk, e.2 = Value.str k tk ∧ e.1 = hashStr w k
/-- the set of texts at a: S its members; its table rises and can be walked -/
def SetS (w : World) (h : Heap) (a : Addr) (S : Str → Prop) (n : Nat) : Prop :=
  ∃ o es ep t, h.get? a = some o ∧ o.ExactSet ∧ o.data = .set es ep t ∧ (∀ e ∈ es.toList, GoodS w e) ∧ (es.toList.map keyS).Nodup ∧ (∀ k, S k ↔ k ∈ es.toList.map keyS) ∧
    es.size < scanBound ∧ t.fits es.size = true ∧ es.size = n ∧ Ris t.place.toList ∧ (w.params.followText "set-order" = true ∨ t.led = true)
section
variable {P : Program} {w : World} {h h' : Heap} {a : Addr} {S : Str → Prop} {n : Nat}
theorem SetS.at (R : SetS w h a S n) (k : ∀ o, h.get? a = some o → h'.get? a = some o) : SetS w h' a S n := by
  obtain ⟨o, es, ep, t, ho, r⟩ := R
  exact ⟨o, es, ep, t, k o ho, r⟩
theorem goodS_elems {l : List (Int × Value)} (g : ∀ e ∈ l, GoodS w e) : ElemsOf (PySem.strKind P w) l := fun e he => by
  obtain ⟨k, tk, h1, h2⟩ := g e he
  exact ⟨⟨k, by rw [h1]; exact strKind_is P w k tk, h2⟩, by rw [h1] <;> rfl⟩
theorem goodS_is {e : Int × Value} (g : GoodS w e) (k : Str) : (PySem.strKind P w).is k e.2 = true ↔ keyS e = k := by
  obtain ⟨k0, tk, h1, _⟩ := g
  unfold keyS
  rw [h1]
  show Value.isStrOf k (.str k0 tk) = true ↔ k0 = k
  constructor
  · intro q
    exact (PySem.strKind P w).inj (.str k0 tk) _ _ (strKind_is P w k0 tk) q
  · rintro rfl
    exact strKind_is P w k0 tk
theorem goodS_mem {l : List (Int × Value)} (g : ∀ e ∈ l, GoodS w e) (k : Str) : k ∈ l.map keyS ↔ ∃ e ∈ l, (PySem.strKind P w).is k e.2 = true := by
  rw [List.mem_map]
  constructor
  · rintro ⟨e, he, q⟩
    exact ⟨e, he, (goodS_is (g e he) k).2 q⟩
  · rintro ⟨e, he, q⟩
    exact ⟨e, he, (goodS_is (g e he) k).1 q⟩
end
section
variable {P : Program} {w : World} {A : Around} {E : Value → Shared → Prop} {s : Shared} {a : Addr} {S : Str → Prop} {n : Nat}
theorem setS_tail {g : Bool → Sem Unit} (hg : ∀ (b : Bool) (s₁ : Shared) (Q' : Unit → Shared → Prop), Q' () s₁ → wpAny (model P w) A (g b) Q' E s₁)
    {o : Obj} {es : Array (Int × Value)} {ep : Nat} {t : SetTable} (ho : s.heap.get? a = some o) (hex : o.ExactSet) (hd : o.data = .set es ep t)
    {es1 : Array (Int × Value)} {t2 : SetTable} {S' : Str → Prop} (g1 : ∀ e ∈ es1.toList, GoodS w e) (nd1 : (es1.toList.map keyS).Nodup) (m1 : ∀ k, S' k ↔ k ∈ es1.toList.map keyS)
    (hb1 : es1.size < scanBound) (hf2 : t2.fits es1.size = true) (hr : Ris t2.place.toList) (hl : w.params.followText "set-order" = true ∨ t2.led = true) {wasDummy : Bool} {R : Option Bool → Shared → Prop}
    (hR : ∀ h', Heap.SameBut a s.heap h' → SetS w h' a S' es1.size → R (some true) { s with heap := h' }) :
    wpAny (model P w) A (do
        storeSet a es1 t2
        if (!wasDummy && t2.tooFull) = true then do
            g (relayAll t2 es1 (SetTable.grown es1.size)).2.2
            storeSet a (relayAll t2 es1 (SetTable.grown es1.size)).1 (relayAll t2 es1 (SetTable.grown es1.size)).2.1
            pure (some true)
          else pure (some true)) R E s := by
  refine wpAny_bind (wpAny_storeSet_of ho hd ?_ (fits_of_scanBound hb1))
  have ho1 := store_at (es' := es1) (t' := t2) ho hd
  have sb1 := Heap.SameBut.update s.heap a (Obj.putSet es1 t2)
  split
  · have pm := relayAll_perm t2 es1 (SetTable.grown es1.size)
    have hf3 := relayAll_fits t2 es1 (SetTable.grown es1.size)
    have hr3 := relayAll_ris t2 es1 (SetTable.grown es1.size)
    have hl3 := relayAll_led t2 es1 (SetTable.grown es1.size)
    generalize relayAll t2 es1 (SetTable.grown es1.size) = Z at pm hf3 hr3 hl3 ⊢
    obtain ⟨es2, t3, gave⟩ := Z
    dsimp only at pm hf3 hr3 hl3 ⊢
    have hsz : es2.size = es1.size := by rw [← Array.length_toList, pm.length_eq, Array.length_toList]
    have hb2 : es2.size < scanBound := by rw [hsz]; exact hb1
    refine wpAny_bind (hg _ _ _ ?_)
    refine wpAny_bind (wpAny_storeSet_of ho1 rfl ?_ (fits_of_scanBound hb2))
    have ho2 := store_at (es' := es2) (t' := t3) ho1 rfl
    exact wpAny_pure (hR _ (sb1.trans (Heap.SameBut.update _ a _)) ⟨_, es2, _, t3, ho2, hex, rfl, fun e he => g1 e (pm.mem_iff.mp he), (pm.map keyS).nodup_iff.mpr nd1, fun k => (m1 k).trans (pm.map keyS).mem_iff.symm, hb2, hf3, hsz, hr3, hl.imp id fun z => by rw [hl3]; exact z⟩)
  · exact wpAny_pure (hR _ sb1 ⟨_, es1, _, t2, ho1, hex, rfl, g1, nd1, m1, hb1, hf2, rfl, hr, hl⟩)
theorem setS_add {k : Str} {tk : Tok} {Q : Bool → Shared → Prop} (R : SetS w s.heap a S n) (room : n + 1 < scanBound)
    (hQ : ∀ h' n' b, Heap.SameBut a s.heap h' → n' ≤ n + 1 → SetS w h' a (fun j => S j ∨ j = k) n' → Q b { s with heap := h' }) :
    wpAny (model P w) A (setAddHashed a (.str k tk) ((PySem.strKind P w).hash k)) Q E s := by
  obtain ⟨o, es, ep, t, ho, hex, hd, g, nd, hm, hb, hf, hn, hr, hl⟩ := R
  have hkey : (PySem.strKind P w).is k (.str k tk) = true := strKind_is P w k tk
  have hsc : (Value.str k tk).scannable = true := rfl
  have hel : ElemsOf (PySem.strKind P w) es.toList := goodS_elems g
  unfold setAddHashed setAddHashedIn
  refine wpAny_holding (wpAny_bind (wpAny_setState_of ho hd hf ?_))
  dsimp only
  rw [byScan_of hsc hb hel]
  simp only [↓reduceIte]
  unfold setAddByScan
  refine wpAny_bind ?_
  refine wpAny_bind (wpAny_rule ?_)
  refine wpAny_bind (wpAny_setScan_of hkey ho hd hf hel ?_)
  cases hfi : List.findIdx? (fun e => (PySem.strKind P w).is k e.2) es.toList with
  | some j =>
    dsimp only
    obtain ⟨hj, pj, _⟩ := List.findIdx?_eq_some_iff_getElem.mp hfi
    have hSk : S k := (hm k).2 ((goodS_mem (P := P) (w := w) g k).2 ⟨es.toList[j], List.getElem_mem hj, pj⟩)
    refine wpAny_pure (wpAny_pure ?_)
    exact hQ s.heap n _ (Heap.SameBut.refl a s.heap) (Nat.le_succ _) ⟨o, es, ep, t, ho, hex, hd, g, nd, fun i => by
      rw [← hm i]
      exact ⟨fun z => z.elim id (fun e => e ▸ hSk), .inl⟩, hb, hf, hn, hr, hl⟩
  | none =>
    dsimp only
    have hnk : k ∉ es.toList.map keyS := fun z => by
      obtain ⟨e, he, q⟩ := (goodS_mem (P := P) (w := w) g k).1 z
      have c := List.findIdx?_eq_none_iff.mp hfi e he
      rw [q] at c
      cases c
    have hgw : ∀ (b : Bool) {s₁ : Shared} {Q' : Unit → Shared → Prop}, Q' () s₁ → wpAny (model P w) A (match b with | true => rule "set.scan.the-table-gave-way" | false => pure ()) Q' E s₁ :=
      fun b s₁ Q' q => by cases b <;> first | exact wpAny_pure q | exact wpAny_rule q
    have pm := layNew_perm t es ((PySem.strKind P w).hash k) (.str k tk)
    have hf1 := layNew_fits t es ((PySem.strKind P w).hash k) (.str k tk)
    have hr1 := layNew_ris t es ((PySem.strKind P w).hash k) (.str k tk) hr
    have hl1 := layNew_led t es ((PySem.strKind P w).hash k) (.str k tk)
    generalize layNew t es ((PySem.strKind P w).hash k) (.str k tk) = Z at pm hf1 hr1 hl1 ⊢
    obtain ⟨es1, t1, wasDummy, gave⟩ := Z
    dsimp only at pm hf1 hr1 hl1 ⊢
    rw [Array.toList_push] at pm
    have pc : es1.toList.Perm (((PySem.strKind P w).hash k, Value.str k tk) :: es.toList) := pm.trans (List.perm_append_singleton _ _)
    have pk : (es1.toList.map keyS).Perm (k :: es.toList.map keyS) := pc.map keyS
    have g1 : ∀ e ∈ es1.toList, GoodS w e := fun e he => by
      rcases List.mem_cons.mp (pc.mem_iff.mp he) with z | z
      · rw [z]; exact ⟨k, tk, rfl, rfl⟩
      · exact g e z
    have nd1 : (es1.toList.map keyS).Nodup := pk.nodup_iff.mpr (List.nodup_cons.mpr ⟨hnk, nd⟩)
    have m1 : ∀ i, (S i ∨ i = k) ↔ i ∈ es1.toList.map keyS := fun i => by
      rw [hm i, pk.mem_iff, List.mem_cons]
      exact Or.comm
    have hsz : es1.size = n + 1 := by rw [← Array.length_toList, pc.length_eq, List.length_cons, Array.length_toList, hn]
    have hb1 : es1.size < scanBound := by rw [hsz]; exact room
    have hled : w.params.followText "set-order" = true ∨ t1.led = true := hl.imp id fun z => by rw [hl1]; exact z
    have fin : ∀ h', Heap.SameBut a s.heap h' → SetS w h' a (fun j => S j ∨ j = k) es1.size → Q true { s with heap := h' } := fun h' sb r => hQ h' _ _ sb (by omega) r
    refine wpAny_bind (hgw _ ?_)
    split
    · refine wpAny_bind ?_
      rw [hashByValue_scannable 8 hsc]
      refine wpAny_pure ?_
      refine setS_tail ?_ ho hex hd g1 nd1 m1 hb1 ?_ ?_ ?_ ?_
      · intro b s₁ Q' q; cases b <;> first | exact wpAny_pure q | exact wpAny_rule q
      · first | (split <;> first | exact hf1 | exact SetTable.fits_plain_off hf1) | exact hf1
      · first | (split <;> exact hr1) | exact hr1
      · first | (split <;> exact hled) | exact hled
      · intro h' sb r; dsimp only; exact wpAny_pure (fin h' sb r)
    · refine wpAny_bind (wpAny_pure ?_)
      simp only [↓reduceIte]
      refine setS_tail ?_ ho hex hd g1 nd1 m1 hb1 hf1 hr1 hled ?_
      · intro b s₁ Q' q; cases b <;> first | exact wpAny_pure q | exact wpAny_rule q
      · intro h' sb r; dsimp only; exact wpAny_pure (fin h' sb r)
theorem setS_fresh {h : Heap} (w : World) : SetS w (h.push { cls := .type "set", dict := none, data := .set #[] 0 (.fresh 0 0 (!w.params.followText "set-order")) }) h.objs.size (fun _ => False) 0 :=
  ⟨_, #[], 0, _, Heap.get?_push_size _ rfl, ⟨rfl, rfl, rfl⟩, rfl, (fun e he => by simp at he), (by simp), (fun k => by simp), (by decide), (by rfl), rfl, List.Pairwise.nil, by
    show _ ∨ (!w.params.followText "set-order") = true
    cases w.params.followText "set-order"
    · exact .inr rfl
    · exact .inl rfl⟩
/-- set(x): how the new set starts -/
theorem code_set_led1 (x : Value) {Q₁ : Value → Shared → Prop}
    (h : Q₁ (.ref s.heap.objs.size) { s with heap := s.heap.push { cls := .type "set", dict := none, data := .set #[] 0 (.fresh 0 0 (!w.params.followText "set-order")) } }) :
    codeAny (model P w) A (.call (.builtin "set.__new__") ⟨[.type "set", x], []⟩) (wants Q₁ E) s := by
  refine codeAny_of_tree ?_
  show wpAny _ A.in1 (do checkBuiltinCall "set.__new__" ⟨[.type "set", x], []⟩; again (.builtin "set.__new__" ⟨[.type "set", x], []⟩)) _ _ s
  refine wpAny_bind (wpAny_of_eq (PySem.F.newCall_set_1 x) (wpAny_pure ⟨plainId_quiet PySem.F.plain_set_new _, codeAny_builtin PySem.F.entry_set_new ?_⟩))
  rw [Around.under_plainId PySem.F.plain_set_new _]
  unfold Builtin.«set.__new__» Builtin.Frozenset.newClass
  have hsub := sub_set_self
  obtain ⟨hp, g, d, tk, os⟩ := s
  dsimp only
  wp_walk
  refine wpAny_askSetting (wpAny_pure ?_)
  dsimp only
  simp only [newObj]
  refine wpAny_bind (wpAny_alloc (wpAny_pure ?_))
  exact wpAny_pure h
end
section
variable {prog : Program} {w : World} {A : Around} {R : Result → Shared → Prop} {I : Addr} {fp wr : List Addr} {G : Array GenState → Array GenState → Prop} {n : Nat} {P : Nat → Value → Prop} {St : Nat → Shared → Prop}
theorem loopSet (W : WalksS prog w A.in1 I fp wr G n P St) (S : Addr) (hSf : S ∉ fp) (xs : List Str) (hsz : xs.length = n) (hn1 : n + 1 < scanBound) (hval : ∀ i v, P i v → ∃ t, v = .str (xs.getD i Str.empty) t) :
    ∀ (k i : Nat) (s : Shared), n - i = k → i ≤ n → St i s → (∃ m, m ≤ i ∧ SetS w s.heap S (fun k' => k' ∈ xs.take i) m) →
      (∀ s' m, Moved (S :: wr) G s s' → SetS w s'.heap S (fun k' => k' ∈ xs) m → R (.ok (.ret .none)) s') → codeAny (model prog w) A (.builtin "set.update.loop" ⟨[.ref S, .ref I], []⟩) R s := by
  have hSw : S ∉ wr := fun h => hSf (W.sub _ h)
  have hsub : ∀ b ∈ wr, b ∈ S :: wr := fun b hb => List.mem_cons_of_mem _ hb
  intro k
  induction k with
  | zero =>
    rintro i s hk hi hst ⟨m, hm, hS⟩ hR
    have hin : i = n := by omega
    subst hin
    refine codeAny_builtin PyProof.Rows.F.entry_set_update_loop ?_
    rw [Around.under_plainId PyProof.Rows.F.plain_set_update_loop _]
    show wpAny _ A.in1 (pyNext (.ref I) >>= _) _ _ s
    refine wpAny_bind (W.done s _ _ hst fun s' hmv => ?_)
    show wpAny _ A.in1 (ret Value.none) _ _ s'
    refine wpAny_pure (hR s' m (hmv.mono hsub) ?_)
    rw [← hsz, List.take_length] at hS
    exact hS.at fun o e => hmv.heap S _ hSw e
  | succ k ih =>
    rintro i s hk hi hst ⟨m, hm, hS⟩ hR
    have hlt : i < n := by omega
    refine codeAny_builtin PyProof.Rows.F.entry_set_update_loop ?_
    rw [Around.under_plainId PyProof.Rows.F.plain_set_update_loop _]
    show wpAny _ A.in1 (pyNext (.ref I) >>= _) _ _ s
    refine wpAny_bind (W.item i s _ _ hlt hst fun v s' hP hst' hmv => ?_)
    obtain ⟨t, rfl⟩ := hval i v hP
    have hS' : SetS w s'.heap S (fun k' => k' ∈ xs.take i) m := hS.at fun o e => hmv.heap S _ hSw e
    show wpAny _ A.in1 (holding [Value.str (xs.getD i Str.empty) t] (setAdd S (.str (xs.getD i Str.empty) t)) >>= _) _ _ s'
    refine wpAny_bind (wpAny_holding ?_)
    unfold setAdd
    refine wpAny_holding ?_
    refine wpAny_bind ((PySem.strKind prog w).pyHash (k := xs.getD i Str.empty) (strKind_is _ _ _ _) ?_)
    refine setS_add (s := { s' with toks := s'.toks + 1 }) hS' (by omega) fun h' n' b hsb hn' hS2 => ?_
    have hSi : SetS w h' S (fun k' => k' ∈ xs.take (i + 1)) n' := by
      have e : (fun k' => k' ∈ xs.take (i + 1)) = (fun k' => k' ∈ xs.take i ∨ k' = xs.getD i Str.empty) := by
        funext k'
        have hx : xs[i]? = some (xs.getD i Str.empty) := by
          rw [List.getD_eq_getElem?_getD, List.getElem?_eq_getElem (by omega)]
          rfl
        rw [List.take_add_one, hx, List.mem_append]
        simp
      rw [e]
      exact hS2
    refine wpAny_pure ⟨plainId_quiet PyProof.Rows.F.plain_set_update_loop _, ih (i + 1) _ (by omega) hlt (W.frame _ s' _ _ hst' (Nat.le_succ _) fun b hb o e => ?_) ⟨n', by omega, hSi⟩ fun s'' m'' hm'' hS'' => ?_⟩
    · rw [hsb.2 b (fun h : b = S => hSf (by rw [← h]; exact hb))]; exact e
    · refine hR s'' m'' (Moved.trans W.gtrans ((hmv.mono hsub).then_heap (Nat.le_succ _) fun b o hb e => ?_) hm'') hS''
      rw [hsb.2 b (fun h : b = S => hb (by rw [h]; exact List.mem_cons_self))]; exact e
end
section
variable {prog : Program} {w : World} {A : Around} {E : Value → Shared → Prop} {s : Shared}
set_option maxHeartbeats 3200000 in
theorem call_setS {l : Addr} {items : Array Value} {xs : List Str} {Q : Value → Shared → Prop}
    (hh : A.handled = none) (hl : s.heap.IsList l items) (hi : PyProof.Rows.StrsAre items.toList xs) (hn1 : xs.length + 1 < scanBound)
    (h : ∀ (h' : Heap) (tk m : Nat), SetS w h' s.heap.objs.size (fun k' => k' ∈ xs) m → (∀ b o, b < s.heap.objs.size → s.heap.get? b = some o → h'.get? b = some o) → Q (.ref s.heap.objs.size) { s with heap := h', toks := tk }) :
    wpAny (model prog w) A (call (.type "set") [.ref l]) Q E s := by
  obtain ⟨c, tl, hmro⟩ := PySem.F.called_set.mro
  have hmade := PySem.F.called_set.made
  have hsub := PySem.F.called_set.sub
  refine wpAny_call (codeAny_of_tree ?_)
  show wpAny _ _ (callAny (.type "set") _) _ _ _
  refine wpAny_pure ⟨Code.quiet_builtin _ (by decide +kernel), codeAny_builtin PySem.F.entry_type_call ?_⟩
  rw [Around.under_plain (weight_type_call_type "set" [.ref l] []) rfl]
  have h1 := PySem.F.called_set.notType
  have h2 := PySem.F.called_set.canCreate
  have hct := PySem.F.typeCall_set_1 (.ref l)
  repeat (any_goals (first | assumption | wp_step))
  refine codeAny_mono (code_set_led1 (.ref l) (E := E) (Q₁ := fun obj s₁ => obj = .ref s.heap.objs.size ∧ s₁ = { s with heap := s.heap.push { cls := .type "set", dict := none, data := .set #[] 0 (.fresh 0 0 (!w.params.followText "set-order")) } }) ⟨rfl, rfl⟩) fun r s₁ hr => ?_
  cases r with
  | error e => exact hr
  | ok fl =>
    cases fl with
    | ret obj =>
      obtain ⟨rfl, rfl⟩ := hr
      have hfr := setS_fresh (h := s.heap) w
      generalize hled : (!w.params.followText "set-order") = led at hfr
      have hS : (s.heap.push { cls := .type "set", dict := none, data := .set #[] 0 (.fresh 0 0 led) }).get? s.heap.objs.size = some { cls := .type "set", dict := none, data := .set #[] 0 (.fresh 0 0 led) } := Heap.get?_push_size _ rfl
      have hT : Shared.TypeIs { s with heap := s.heap.push { cls := .type "set", dict := none, data := .set #[] 0 (.fresh 0 0 led) } } (.ref s.heap.objs.size) "set" := ⟨_, hS, rfl⟩
      have hli := PySem.F.called_set.init.lookup
      have hbi := PySem.F.called_set.init.bind (.ref s.heap.objs.size)
      repeat (any_goals (first | assumption | wp_step))
      refine codeAny_mono (codeAny_call_builtin (R := wants (fun r s₂ => r = .none ∧ ∃ h' tk m, s₂ = { s with heap := h', toks := tk } ∧ SetS w h' s.heap.objs.size (fun k' => k' ∈ xs) m ∧
          (∀ b o, b < s.heap.objs.size → s.heap.get? b = some o → h'.get? b = some o)) E) PySem.F.called_set.init.plain PySem.F.entry_set_init (check_set_init_1 hT ?_)) fun r₂ s₂ hr₂ => ?_
      · obtain ⟨ol, hol, hcl, nl, hdl⟩ := hl
        obtain ⟨ocls, odict, odata, oslots⟩ := ol
        simp only at hcl hdl
        subst hcl; subst hdl
        have hol' : (s.heap.push { cls := .type "set", dict := none, data := .set #[] 0 (.fresh 0 0 led) }).get? l = some { cls := .type "list", dict := odict, data := .seq items nl, slots := oslots } := Heap.get?_push_of_some _ hol
        have hsls := PySem.F.sub_list_set
        have hslf := PySem.F.sub_list_frozenset
        have hne : (Value.type "list" == Value.type "dict") = false := by decide
        have hl1 : (s.heap.push { cls := .type "set", dict := none, data := .set #[] 0 (.fresh 0 0 led) }).IsList l items := ⟨_, hol', rfl, nl, rfl⟩
        unfold Builtin.«set.__init__» noKeywords Builtin.Frozenset.updateFrom
        generalize hPI : pyIter = PI
        wp_walk
        subst hPI
        refine wpAny_pyIter_list hl1 ?_
        refine wpAny_bind (wpAny_runValue ?_)
        have hlS : l < s.heap.objs.size := Heap.lt_size hol
        have hh3 : A.in1.in1.in1.handled = none := by simp [hh]
        have hneI : l ≠ (s.heap.push { cls := .type "set", dict := none, data := .set #[] 0 (.fresh 0 0 led) }).objs.size := by
          rw [Heap.size_push]; exact Nat.ne_of_lt (Nat.lt_succ_of_lt hlS)
        have hSf : s.heap.objs.size ∉ [(s.heap.push { cls := .type "set", dict := none, data := .set #[] 0 (.fresh 0 0 led) }).objs.size, l] := by
          rw [Heap.size_push]; simp only [List.mem_cons, List.mem_singleton, List.not_mem_nil, or_false, not_or]
          exact ⟨Nat.ne_of_lt (Nat.lt_succ_self _), Nat.ne_of_gt hlS⟩
        have hsz : xs.length = items.size := by rw [← StrsAre.len_eq hi, Array.length_toList]
        have hval : ∀ (i : Nat) (v : Value), items[i]? = some v → ∃ t, v = .str (xs.getD i Str.empty) t := fun i v hv => SS.strs_at hi i v (by rw [Array.getElem?_toList]; exact hv)
        refine loopSet ((Walks.list hh3 _ l hneI items).toS) s.heap.objs.size hSf xs hsz (by rw [← hsz]; exact hn1) hval (items.size - 0) 0 _ (by omega) (Nat.zero_le _) ⟨⟨_, Heap.get?_push_size _ rfl, rfl, rfl⟩, (hl1.push _)⟩ ⟨0, Nat.le_refl _, ?hS0⟩ ?hR
        case hS0 =>
          have e : (fun k' => k' ∈ xs.take 0) = (fun _ : Str => False) := by
            funext k'
            simp
          rw [e]
          exact hfr.at fun o q => Heap.get?_push_of_some _ q
        case hR =>
          intro s' m hm hS'
          obtain ⟨h', g', d', tk', os'⟩ := s'
          have eg : g' = s.gens := hm.gens
          have ed : d' = s.drawn := hm.drawn
          have eo : os' = s.os := hm.os
          subst eg; subst ed; subst eo
          show wpAny _ _ _ _ _ _
          refine wpAny_pure ?_
          show wpAny _ _ (ret Value.none) _ _ _
          refine wpAny_pure ⟨rfl, h', tk', m, rfl, hS', fun b o hb e => ?_⟩
          have hb1 : b ≠ s.heap.objs.size := Nat.ne_of_lt hb
          have hb2 : b ≠ (s.heap.push { cls := .type "set", dict := none, data := .set #[] 0 (.fresh 0 0 led) }).objs.size := by
            rw [Heap.size_push]; exact Nat.ne_of_lt (Nat.lt_succ_of_lt hb)
          exact hm.heap b o (by simp only [List.mem_cons, List.mem_singleton, List.not_mem_nil, or_false, not_or]; exact ⟨hb1, hb2⟩) (Heap.get?_push_of_some _ (Heap.get?_push_of_some _ e))
      · cases r₂ with
        | error e => exact hr₂
        | ok fl₂ =>
          cases fl₂ with
          | ret r =>
            obtain ⟨rfl, h', tk, m, rfl, hS', hk'⟩ := hr₂
            repeat (any_goals (first | assumption | wp_step))
            exact h _ _ _ hS' hk'
          | _ => exact hr₂.elim
    | _ => exact hr.elim
theorem strs_of : ∀ (l : List Value), (∀ v ∈ l, ∃ k tk, v = Value.str k tk) → StrsAre l (l.map fun v => keyS (0, v))
  | [], _ => .nil
  | v :: l, h => by
    obtain ⟨k, tk, rfl⟩ := h v List.mem_cons_self
    exact .cons k tk (strs_of l fun u hu => h u (List.mem_cons_of_mem _ hu))
theorem sorted_setS {a : Addr} {S : Str → Prop} {n : Nat} {Q : Value → Shared → Prop} (R : SetS w s.heap a S n) (hh : A.handled = none) (h64 : n < 64)
    (hQ : ∀ s' p (out : Array Value) (c : Nat) (ns : List Str), (∀ b o, s.heap.get? b = some o → s'.heap.get? b = some o) → s'.gens = s.gens → s'.os = s.os → s.heap.objs.size ≤ p →
      s'.heap.get? p = some (seqObj "list" out c) → StrsAre out.toList ns → sortedS ns = true → ns.Nodup → (∀ k, k ∈ ns ↔ S k) → ns.length = n → Q (.ref p) s') :
    wpAny (model prog w) A (call (.builtin "sorted") [.ref a]) Q E s := by
  obtain ⟨o, es, ep, t, ho, hex, hd, g, nd, hm, hb, hf, hn, hr, hl⟩ := R
  refine Calls.call_function_entry kind_sorted plain_sorted entry_sorted (args_sorted1 _) ?_
  unfold Builtin.«sorted»
  refine wpAny_bind (m := checkCount "sorted" 1 1 _) (wpAny_pure ?_)
  refine wpAny_bind (collect_set (A := A.in1) hh ⟨o, ho, hex.1, hd⟩ hf hb hr hl fun s1 vs k1 hz g1 o1 pm => ?_)
  have hvl : vs.length = n := by rw [pm.length_eq, List.length_map, Array.length_toList]; exact hn
  have hI : StrsAre vs (vs.map fun v => keyS (0, v)) := strs_of vs fun v hv => by
    obtain ⟨e, he, q⟩ := List.mem_map.mp (pm.mem_iff.mp hv)
    obtain ⟨k, tk, h1, _⟩ := g e he
    exact ⟨k, tk, by rw [← q]; exact h1⟩
  have pk : (vs.map fun v => keyS (0, v)).Perm (es.toList.map keyS) := by
    have q := pm.map fun v => keyS (0, v)
    rw [List.map_map] at q
    exact q
  refine wpAny_bind (wpAny_newList ?_ (by rw [hvl, sizeLine_eq]; omega))
  have hoL : (s1.heap.push (seqObj "list" vs.toArray 0)).get? s1.heap.objs.size = some (seqObj "list" vs.toArray 0) := Heap.get?_push_size _ rfl
  refine wpAny_bind (wpAny_holding (wpAny_call_entry slot_list_sort ⟨_, hoL, rfl⟩ entry_list_sort (list_sort_treeK strKind_oneLt hoL hI.keysOf (fun v₁ v₂ rest e => keyKind_strs (by rw [← e]; exact hI)) (by rw [hvl]; exact h64) fun st' hp hs => ⟨_, rfl, ?_⟩) (args_list_sort _)))
  obtain ⟨ns', a1, a2, a3⟩ := sorted_out_str hI hp hs
  obtain ⟨c, hc⟩ := sortedHeap_at (vs := vs) (out := (arrOf st').map (·.2)) hoL
  have pn : ns'.Perm (es.toList.map keyS) := a2.trans pk
  refine wpAny_pure ⟨_, rfl, hQ _ s1.heap.objs.size _ c ns' (fun b u e => ?_) g1 o1 hz hc a1 a3 (pn.nodup_iff.mpr nd) (fun k => by rw [pn.mem_iff, ← hm k]) ?_⟩
  · have q := k1 b u e
    have hlt := Heap.lt_size q
    show (sortedHeap (s1.heap.push (seqObj "list" vs.toArray 0)) s1.heap.objs.size vs _).get? b = some u
    rw [sortedHeap_old (Nat.ne_of_lt hlt) (by rw [size_push']; exact Nat.lt_succ_of_lt hlt)]
    exact Heap.get?_push_of_some _ q
  · rw [pn.length_eq, List.length_map, Array.length_toList]; exact hn
theorem SetS.num {h : Heap} {a : Addr} {xs : List Str} {n : Nat} (R : SetS w h a (fun k => k ∈ xs) n) : ∃ ys : List Str, ys.Nodup ∧ (∀ k, k ∈ ys ↔ k ∈ xs) ∧ ys.length = n := by
  obtain ⟨o, es, ep, t, ho, hex, hd, g, nd, hm, hb, hf, hn, hr, hl⟩ := R
  exact ⟨es.toList.map keyS, nd, fun k => (hm k).symm, by rw [List.length_map, Array.length_toList]; exact hn⟩
end
/-! ### len(set(xs)), sorted(set(xs)) -/
def tLenSet (K : PySem.W.Frag) (te : TE) : TE := fun σ H Q => te σ H fun v H1 => ∃ p xs, v = .ref p ∧ SqL K H1 p (svs xs) ∧ xs.Nodup ∧ xs.length ≤ 60 ∧ Q (.int xs.length) H1
def tSortSet (K : PySem.W.Frag) (te : TE) : TE := fun σ H Q => te σ H fun v H1 => ∃ p xs, v = .ref p ∧ SqL K H1 p (svs xs) ∧ xs.length ≤ 60 ∧ ∀ ys l, ys.Nodup → sortedS ys = true → (∀ k, k ∈ ys ↔ k ∈ xs) → H1 l = none → Q (.ref l) (upd H1 l (.lst (svs ys)))
theorem nodup_len {xs ys : List Str} (h1 : xs.Nodup) (h2 : ys.Nodup) (h : ∀ k, k ∈ ys ↔ k ∈ xs) : ys.length = xs.length := ((List.perm_ext_iff_of_nodup h2 h1).mpr h).length_eq
section
variable {X : Cx} {K : PySem.W.Frag} {e : Expr} {te : TE} {p1 p2 pos pos2 : Pos}
theorem pe_lenSet (hK : X.K = K) (hc : X.calm = true) (hl : Gl X "len") (ml : X.mg "len" = none) (hg : Gl X "set") (hm : X.mg "set" = none) (he : PE X e te) (hs : starEach [e] X.env = [(false, eval e X.env)] := by rfl)
    (hs2 : starEach [.Call (.Name "set" p1) [e] [] pos] X.env = [(false, eval (.Call (.Name "set" p1) [e] [] pos) X.env)] := by rfl) : PE X (.Call (.Name "len" p2) [.Call (.Name "set" p1) [e] [] pos] [] pos2) (tLenSet K te) := by
  subst hK
  refine ⟨fun pins s σ H Q I h => ?_⟩
  refine wpAny_Call_Name_kw (ld_blt I hl ml PySem.boot_len ?_)
  rw [hs2]
  refine PySem.callWith_builtin1 ?_
  refine Call_ (ld_blt I hg hm boot_set ?_)
  rw [hs]
  refine PySem.callWith_type1 (thn (he.run pins s σ H _ I h) fun u s1 ⟨v, H1, I1, r1, q1⟩ => ?_)
  obtain ⟨p, xs, rfl, hq, hnd, hz, q⟩ := q1
  obtain rfl : u = Value.ref p := r1
  obtain ⟨its, rv, pl, _⟩ := I1.list hq
  have hh : X.A.handled = none := I1.ok.hd hc
  refine call_setS (xs := xs) hh pl.isList (by simpa using rv.strs) (by unfold scanBound; omega) fun h' tk m R kp => ?_
  obtain ⟨ys, y1, y2, y3⟩ := R.num
  have hm' : m = xs.length := by rw [← y3]; exact nodup_len hnd y1 y2
  obtain ⟨o, es, ep, t, ho, hex, hd, g, nd, hmm, hb, hf, hn, hr, hl'⟩ := R
  have I2 : L2.Inv X pins σ H1 { s1 with heap := h', toks := tk } := I1.kept (t' := tk) fun b o e => kp b o (Heap.lt_size e) e
  have hn' := line63
  have hes : es.size = xs.length := hn.trans hm'
  refine call_len_set (s := { s1 with heap := h', toks := tk }) ho hex hd hf (by rw [hes]; omega) ?_
  exact ⟨.int xs.length, H1, I2.tok _, ⟨_, by rw [hes]⟩, q⟩
theorem pe_sortedSet (hK : X.K = K) (hc : X.calm = true) (hl : Gl X "sorted") (ml : X.mg "sorted" = none) (hg : Gl X "set") (hm : X.mg "set" = none) (he : PE X e te) (hs : starEach [e] X.env = [(false, eval e X.env)] := by rfl)
    (hs2 : starEach [.Call (.Name "set" p1) [e] [] pos] X.env = [(false, eval (.Call (.Name "set" p1) [e] [] pos) X.env)] := by rfl) : PE X (.Call (.Name "sorted" p2) [.Call (.Name "set" p1) [e] [] pos] [] pos2) (tSortSet K te) := by
  subst hK
  refine ⟨fun pins s σ H Q I h => ?_⟩
  refine wpAny_Call_Name_kw (ld_blt I hl ml boot_sorted ?_)
  rw [hs2]
  refine PySem.callWith_builtin1 ?_
  refine Call_ (ld_blt I hg hm boot_set ?_)
  rw [hs]
  refine PySem.callWith_type1 (thn (he.run pins s σ H _ I h) fun u s1 ⟨v, H1, I1, r1, q1⟩ => ?_)
  obtain ⟨p, xs, rfl, hq, hz, q⟩ := q1
  obtain rfl : u = Value.ref p := r1
  obtain ⟨its, rv, pl, _⟩ := I1.list hq
  have hh : X.A.handled = none := I1.ok.hd hc
  refine call_setS (xs := xs) hh pl.isList (by simpa using rv.strs) (by unfold scanBound; omega) fun h' tk m R kp => ?_
  obtain ⟨ys0, y1, y2, y3⟩ := R.num
  have hm64 : m ≤ 60 := by
    have := sub_len y1 fun k hk => (y2 k).mp hk
    omega
  have I2 : L2.Inv X pins σ H1 { s1 with heap := h', toks := tk } := I1.kept (t' := tk) fun b o e => kp b o (Heap.lt_size e) e
  have R2 : SetS X.w ({ s1 with heap := h', toks := tk } : Shared).heap s1.heap.objs.size (fun k' => k' ∈ xs) m := R
  generalize ({ s1 with heap := h', toks := tk } : Shared) = s2 at R2 I2 ⊢
  refine sorted_setS R2 hh (by omega) fun s' l out c ns k g o hp hgt hi hsrt hndp hmm hlen => ?_
  have hln : (svs ns).length ≤ sizeLine := by rw [List.length_map, hlen, sizeLine_eq]; omega
  have hnone : H1 l = none := I2.hok.fresh hp
  have J : L2.Inv X pins σ (upd H1 l (.lst (svs ns))) { s2 with heap := s'.heap, gens := s'.gens, drawn := s'.drawn, toks := s'.toks } :=
    I2.call (ch := []) (Un.laid k hp hnone) (I2.hok.laid k hp ⟨hln, out.toList, c, vals_of_strs hi, hgt⟩) (by rw [g]; exact I2.bare) (fun _ z => nomatch z)
  have e : s' = { s2 with heap := s'.heap, gens := s'.gens, drawn := s'.drawn, toks := s'.toks } := by
    cases s'
    cases s2
    cases o
    rfl
  rw [e]
  exact ⟨.ref l, _, J, rfl, q ns l hndp hsrt hmm hnone⟩
end
end K64
set_option Elab.async false
set_option linter.all false
set_option maxRecDepth 100000
set_option maxHeartbeats 4000000
/-! are_different, _law_leads. -/
namespace K64
open PySem PySem.Spec PyProof.Rows L2 Evl
theorem s_appR {K : PySem.W.Frag} {σ : L2.St} {H : Hp} {D : Ends} {ta te : TE} {l : Addr} {xs : List V} {R : Rel} (hl : H l = some (.lst xs)) (ha : Ev ta σ H (.ref l)) (h : EvR te σ H R) (hz : xs.length < 100000) (k : ∀ v H0 H1, Ex H H0 → Ex H0 H1 → R v H0 H1 → D.nx σ (upd H1 l (.lst (xs ++ [v])))) :
    tDrop (tBM K "list" rAppend ta (tCons te tNil)) D σ H := ha H (Ex.refl H) _ fun H1 e1 =>
  ⟨Or.inl ⟨rfl, xs, sq_of (e1 l _ hl)⟩, h H1 e1 _ fun v H2 e2 r => ⟨l, xs, v, rfl, rfl, e2 l _ (e1 l _ hl), sz_lt hz, k v H1 H2 e1 e2 r⟩⟩
theorem q_appR {K : PySem.W.Frag} {σ : L2.St} {H : Hp} {D : Ends} {tz : TS} {ta te : TE} {l : Addr} {xs : List V} {R : Rel} (hl : H l = some (.lst xs)) (ha : Ev ta σ H (.ref l)) (h : EvR te σ H R) (hz : xs.length < 100000) (k : ∀ v H0 H1, Ex H H0 → Ex H0 H1 → R v H0 H1 → tz D σ (upd H1 l (.lst (xs ++ [v])))) :
    tSeq (tDrop (tBM K "list" rAppend ta (tCons te tNil))) tz D σ H := s_appR (D := { D with nx := tz D }) hl ha h hz k
section
variable {P : Program} {w : World} {K : PySem.W.Frag} {mg : Str → Option Value} {base : Heap}
theorem ev_lenSet {σ : L2.St} {H : Hp} {te : TE} {p : Addr} {xs : List Str} (h : Ev te σ H (.ref p)) (hp : H p = some (.lst (svs xs))) (hn : xs.Nodup) (hz : xs.length ≤ 60) : Ev (tLenSet K te) σ H (.int xs.length) := fun H1 e Q q =>
  h H1 e _ fun H2 e2 => ⟨p, xs, rfl, SqL.of ((e.trans e2) _ _ hp), hn, hz, q H2 e2⟩
theorem el_sortSet {σ : L2.St} {H : Hp} {te : TE} {xs zs : List Str} (h : EvL te σ H (svs xs)) (hz : xs.length ≤ 60) (hu : ∀ ys : List Str, ys.Nodup → sortedS ys = true → (∀ k, k ∈ ys ↔ k ∈ xs) → ys = zs) : EvL (tSortSet K te) σ H (svs zs) := fun H1 e Q q =>
  h H1 e _ fun p H2 hp e2 h2 => ⟨p, xs, rfl, SqL.of h2, hz, fun ys l y1 y2 y3 hl => by
    rw [hu ys y1 y2 y3]
    exact q l _ (fresh_back e2 hl) (e2.trans (Ex.new hl)) upd_same⟩
def spDiff : Sp := pur fun vs H R => ∃ (p : Addr) (xs : List Str), vs = [.ref p] ∧ H p = some (.lst (svs xs)) ∧ xs.Nodup ∧ xs.length ≤ 60 ∧ R = RV (.bl true)
theorem sc_are_different : FnScope ["items"] ["items"] (defScope s_are_different) := C8.fnScope_by (by decide +kernel)
theorem ok_are_different (T : Tp K mg) (F : FD K d_are_different) : C8.Cal P w K mg base 1 "are_different" spDiff [] := by
  refine cal_k F T.g_are_different sc_are_different (fun _ _ _ _ _ _ us hl => match us, hl with | [_], _ => rfl) (fun vs H Q E h => ?_) (fun cdv A outer s H vs Q E hr h => ?_)
  · obtain ⟨R, ⟨p, xs, rfl, _⟩, _⟩ := h
    rfl
  · obtain ⟨R, ⟨p, xs, rfl, hp, hn, hz, rfl⟩, q⟩ := h
    refine ⟨_, (pss_one (ps_ret (pe_cmpR op_eq (pe_lenSet (K := K) rfl rfl (by rfl) T.f_len (by rfl) T.f_set (pv 0)) (pe_callB (k_len (K := K) rfl) (by rfl) T.f_len PySem.boot_len (pa_cons (pv 0) pa_nil)) (nomark _)))), ?_⟩
    refine s_ret (v := .bl true) (ev_is (ev_op (ev_lenSet (ev_var rfl) hp hn hz) (ev_len (ev_var rfl) (SqL.of hp)) (rv_eq rfl)) (by rw [svs_len]; simp)) fun H1 e1 => q _ H1 e1 rfl
/-! ### _law_leads -/
theorem addK_uniq {ks : List Str} {k : Str} (h : ks.Pairwise slt) {ys : List Str} (y1 : ys.Nodup) (y2 : sortedS ys = true) (y3 : ∀ x, x ∈ ys ↔ x ∈ ks ++ [k]) : ys = addK ks k := by
  have hs := addK_slt (k := k) h
  refine sorted_uniq ((List.perm_ext_iff_of_nodup y1 (asc_nd hs)).mpr fun x => ?_) (sortedS_pw ys y2) (hs.imp fun {a b} hab => decide_eq_true (List.not_lt.mp fun q => List.lt_asymm hab q))
  rw [y3, List.mem_append, List.mem_singleton]
  unfold addK
  split
  · rename_i hk
    exact ⟨fun z => z.elim id fun e => by rw [e]; exact hk, .inl⟩
  · rw [mem_sortS, List.mem_append, List.mem_singleton]
def LeadAt (H : Hp) (t : Addr) (r : Str × Nd × Gp) : Prop := ∃ u p, H t = some (.tup [.str r.1, .ref u, .ref p]) ∧ NdAt H u r.2.1 ∧ GapAt H p r.2.2
theorem LeadAt.ex {H H' : Hp} {t : Addr} {r : Str × Nd × Gp} (h : LeadAt H t r) (e : Ex H H') : LeadAt H' t r := by
  obtain ⟨u, p, h1, h2, h3⟩ := h
  exact ⟨u, p, e _ _ h1, h2.ex e, h3.ex e⟩
def RLeads (rs : List (Str × Nd × Gp)) : Rel := RObjs (fun t r H => LeadAt H t r) rs
def spLLeads (K : PySem.W.Frag) : Sp := pur fun vs H R => ∃ D t pg q a b n g, vs = [.ref D, .ref t, .ref pg] ∧ PlAt H D q ∧ PlOk q ∧ RowOk q.kd a ∧ RowOk q.kd b ∧ NdAt H t n ∧ NodeOk q.kd a b n ∧ GapAt H pg g ∧ gapIn q.kd g ∧ R = RLeads (leadsR q.kd n g)
theorem rv_neS {H : Hp} {p r : Addr} {xs ys : List Str} (hp : H p = some (.lst (svs xs))) (hr : H r = some (.lst (svs ys))) (h1 : ∀ x ∈ xs, okS x) (h2 : ∀ x ∈ ys, okS x) : Evl.RV (rNeD K) (.ref p) (.ref r) H (.bl (!decide (xs = ys))) := fun H1 e Q q =>
  ⟨_, _, dp_list (SqL.of (e _ _ hp)), dp_list (SqL.of (e _ _ hr)), shaped_strs h1, shaped_strs h2, by rw [PySem.W.Datum.eqv]; exact q H1 (Ex.refl H1)⟩
theorem er_lst2 {σ : L2.St} {H : Hp} {ta tb : TE} {xs ys : List V} (ha : EvL ta σ H xs) (hb : EvL tb σ H ys) : EvR (tLst (tCons ta (tCons tb tNil))) σ H (fun v H1 H4 => ∃ p a b, v = .ref p ∧ H1 a = none ∧ H1 b = none ∧ H4 p = some (.lst [.ref a, .ref b]) ∧ H4 a = some (.lst xs) ∧ H4 b = some (.lst ys)) := fun H1 e Q q =>
  ha H1 e _ fun a H2 n2 e2 h2 => hb H2 (e.trans e2) _ fun b H3 n3 e3 h3 => ⟨by simp [sizeLine_eq], fun t ht => q (.ref t) _ ((e2.trans e3).trans (Ex.new ht)) ⟨t, a, b, rfl, n2, fresh_back e2 n3, upd_same, (e3.trans (Ex.new ht)) _ _ h2, (Ex.new ht) _ _ h3⟩⟩
theorem strip_go {u v : List Str} (h : u ≠ [] ∧ v ≠ [] ∧ u[0]? = v[0]?) : strip u v = strip (u.drop 1) (v.drop 1) ∧ (u.drop 1).length < u.length := by
  cases u with
  | nil => exact absurd rfl h.1
  | cons a u =>
    cases v with
    | nil => exact absurd rfl h.2.1
    | cons b v =>
      have : a = b := by simpa using h.2.2
      subst this
      refine ⟨?_, by simp⟩
      conv => lhs; unfold strip
      simp
theorem strip_end {u v : List Str} (h : ¬ (u ≠ [] ∧ v ≠ [] ∧ u[0]? = v[0]?)) : strip u v = (u, v) := by
  cases u with
  | nil => exact strip_nil_left v
  | cons a u =>
    cases v with
    | nil => exact strip_nil_right _
    | cons b v =>
      unfold strip
      rw [if_neg]
      intro e
      exact h ⟨by simp, by simp, by simp [e]⟩
theorem paired_two {F : Addr → List Str → Prop} {as : List Addr} {x y : List Str} (h : Paired F as [x, y]) : ∃ a b, as = [a, b] ∧ F a x ∧ F b y := by
  cases h with
  | cons h1 t =>
    cases t with
    | cons h2 t =>
      cases t
      exact ⟨_, _, rfl, h1, h2⟩
theorem sc_L_leads : FnScope ["_law_plan_here", "_law_node", "_law_gap_here", "_law_found", "_law_kind", "_law_one", "_law_parts", "_law_ahead", "_law_k", "_law_is_written", "_law_rest", "_law_later"] ["_law_plan_here", "_law_node", "_law_gap_here"] (defScope s_L_leads) := C8.fnScope_by (by decide +kernel)
theorem ok_L_leads (T : Tp K mg) (F : FD K d_L_leads) (c_L_mates : C8.Cal P w K mg base 2 "_law_mates" (spLMates K) []) (c_L_read : C8.Cal P w K mg base 2 "_law_read" (spLRead K) []) : C8.Cal P w K mg base 3 "_law_leads" (spLLeads K) [] := by
  refine cal_k F T.g_law_leads sc_L_leads (fun _ _ _ _ _ _ us hl => match us, hl with | [_, _, _], _ => rfl) (fun vs H Q E h => ?_) (fun cdv A outer s H vs Q E hr h => ?_)
  · obtain ⟨R, ⟨D, t, pg, q, a, b, n, g, rfl, _⟩, _⟩ := h
    rfl
  · obtain ⟨R, ⟨D, t, pg, pl, a, b, n, g, rfl, hP, hO, hA, hB, ⟨na, nb, nc, hn⟩, ho, ⟨pa, pb, hg1, hg2, hg3⟩, hgi, rfl⟩, q⟩ := h
    have hd := hO.kd
    have hd8 := hd.len
    have hndi := ho.ndin hA hB
    have holen := ho.len
    obtain ⟨gi1, gi2, gi3, gi4⟩ := hgi
    obtain ⟨z1, z2, z3, z4⟩ := hndi
    refine ⟨_, (pss_cons (ps_set (i := 3) (sc_L_leads).nd rfl (.inl rfl) (pe_lst pa_nil))
  (pss_cons (ps_for PassesOwn.never rfl (k_piList (K := K) rfl (pe_lc (own := [("_law_one", 5)]) (g := (gName 5)) (by rfl) (sc_L_leads).nd (k_piList (K := K) rfl (pe_callB (k_sortedS (K := K) rfl) (by rfl) T.f_sorted boot_sorted (pa_cons (pe_dget (hu_of hr) (pv 0) pe_str (fun _ _ => rfl)) pa_nil))) (blkOk_by (own := [("_law_one", 5)]) (N := ["_law_plan_here", "_law_node", "_law_gap_here", "_law_found", "_law_kind", "_law_one", "_law_parts", "_law_ahead", "_law_k", "_law_is_written", "_law_rest", "_law_later"]) (sc := defScope s_L_leads) (by decide +kernel)) (fun _ _ _ _ _ => (pg_name (i := 5) (sc_L_leads).nd rfl (by first | exact .inl rfl | exact .inr rfl))) (fun _ _ _ _ _ => (pts_one (pt_cmpR (k_notIn (K := K) rfl) (pv 5) (C8.pe_c c_L_mates hr (by decide) (by rfl) (pa_cons (pv 0) (pa_cons (pe_ix (k_ixT (K := K) rfl) (pv 1) pe_int (fun _ _ => rfl)) pa_nil))) (by rfl)))) (fun _ _ _ _ _ => (pv 5)))) (pg_name (i := 4) (sc_L_leads).nd rfl (.inl rfl))
  (pss_cons (ps_par (i := 6) (j := 7) (by rfl) (sc_L_leads).nd rfl rfl (by decide) rfl rfl (pa_cons (pe_lst pa_nil) (pa_cons (pe_lst pa_nil) pa_nil)) (by rfl))
  (pss_cons (ps_for PassesOwn.never rfl (pi_range1 (by rfl) T.f_range (pa_cons pe_int pa_nil)) (pg_name (i := 8) (sc_L_leads).nd rfl (.inl rfl))
  (pss_cons (ps_asg (C8.pe_c c_L_read hr (by decide) (by rfl) (pa_cons (pv 0) (pa_cons (pe_ix (k_ixT (K := K) rfl) (pv 1) (pv 8) (fun _ _ => rfl)) (pa_cons (pv 4) pa_nil)))) (k_pgTup (K := K) rfl rfl (pgs_cons (pg_name (i := 9) (sc_L_leads).nd rfl (.inl rfl)) (pgs_cons (pg_name (i := 10) (sc_L_leads).nd rfl (.inl rfl)) pgs_nil))))
  (pss_cons (ps_expr (k_bm (K := K) rfl PySem.F.plainAttrs_list PySem.F.slot_list_append PySem.F.type_list_append mt_append (pv 6) (pa_cons (pv 10) pa_nil)))
  (pss_one (ps_expr (k_bm (K := K) rfl PySem.F.plainAttrs_list PySem.F.slot_list_append PySem.F.type_list_append mt_append (pv 7) (pa_cons (pe_op op_cat (pe_ix (k_ixT (K := K) rfl) (pv 2) (pv 8) (fun _ _ => rfl)) (pe_op op_rep (pe_lst (pa_cons (pv 4) pa_nil)) (pe_callTy call_int1 (by rfl) T.f_int PyProof.Rows.boot_int (pa_cons (pv 9) pa_nil)))) pa_nil)))))))
  (pss_cons (ps_while PassesOwn.never (PW.pt (pw_and (pt_cmpR (k_neD (K := K) rfl hr) (pe_ix (k_ixL (K := K) rfl) (pv 7) pe_int (fun _ _ => rfl)) (pe_lst pa_nil) (nomark _)) (pw_and (pt_cmpR (k_neD (K := K) rfl hr) (pe_ix (k_ixL (K := K) rfl) (pv 7) pe_int (fun _ _ => rfl)) (pe_lst pa_nil) (nomark _)) (pw_and1 (pt_cmpR op_eq (pe_ix (k_ixL (K := K) rfl) (pe_ix (k_ixL (K := K) rfl) (pv 7) pe_int (fun _ _ => rfl)) pe_int (fun _ _ => rfl)) (pe_ix (k_ixL (K := K) rfl) (pe_ix (k_ixL (K := K) rfl) (pv 7) pe_int (fun _ _ => rfl)) pe_int (fun _ _ => rfl)) (nomark _))))))
  (pss_one (ps_set (i := 7) (sc_L_leads).nd rfl (.inl rfl) (pe_lst (pa_cons (pe_slice (k_slL (K := K) rfl) (pe_ix (k_ixL (K := K) rfl) (pv 7) pe_int (fun _ _ => rfl)) (po_some pe_int) po_none) (pa_cons (pe_slice (k_slL (K := K) rfl) (pe_ix (k_ixL (K := K) rfl) (pv 7) pe_int (fun _ _ => rfl)) (po_some pe_int) po_none) pa_nil))))))
  (pss_cons (ps_set (i := 11) (sc_L_leads).nd rfl (.inl rfl) (pe_tup (pa_cons (pe_ix (k_ixL (K := K) rfl) (pv 6) pe_int (fun _ _ => rfl)) (pa_cons (pe_ix (k_ixL (K := K) rfl) (pv 6) pe_int (fun _ _ => rfl)) (pa_cons (pe_sortedSet (K := K) rfl rfl (by rfl) T.f_sorted (by rfl) T.f_set (pe_op op_cat (pe_ix (k_ixT (K := K) rfl) (pv 1) pe_int (fun _ _ => rfl)) (pe_lst (pa_cons (pv 4) pa_nil)))) pa_nil)))))
  (pss_one (ps_expr (k_bm (K := K) rfl PySem.F.plainAttrs_list PySem.F.slot_list_append PySem.F.type_list_append mt_append (pv 3) (pa_cons (pe_tup (pa_cons (pv 4) (pa_cons (pv 11) (pa_cons (pe_tup (pa_cons (pe_ix (k_ixL (K := K) rfl) (pv 7) pe_int (fun _ _ => rfl)) (pa_cons (pe_ix (k_ixL (K := K) rfl) (pv 7) pe_int (fun _ _ => rfl)) pa_nil))) pa_nil)))) pa_nil)))))))))
  (pss_one (ps_ret (pv 3))))), ?_⟩
    refine q_asgL (el_lst ea_nil (by simp)) fun fl H1 hfl e1 h1 => ?_
    have hP1 := hP.ex e1
    obtain ⟨kl, pr, pps, hq⟩ := hP1
    have hks : ∀ x ∈ n.2.2, x ∈ pl.ks := fun x hx => mem_sortS.mp (ho.kinds x hx)
    refine q_forNLn (xs := svs (nextK pl.kd n.2.2)) (el_is (el_compN (α := Str) V.str (ei_listN (el_sorted (ev_pks (ev_var rfl) ev_c hq) hq.kinds (by have := hO.len; omega))) rfl (by have := hd8; show pl.kd.sk.length ≤ _; omega) (fun k => !decide (k ∈ pl.kd.matesAll n.2.2)) V.str (fun _ => rfl) (fun y hy H2 e2 => ?_) (fun y hy _ H2 e2 => ev_var rfl)) rfl)
      (fun pk i σ' H' => ∃ y4 y5 y6 y7 y8 y9 y10 y11 ts, σ' = [some (.ref D), some (.ref t), some (.ref pg), some (.ref fl), y4, y5, y6, y7, y8, y9, y10, y11] ∧ Ex H (hideA fl H') ∧ H' fl = some (.lst (rvs ts)) ∧ hideA fl H' pk = some (.lst (svs (nextK pl.kd n.2.2))) ∧ Paired (LeadAt (hideA fl H')) ts ((leadsR pl.kd n g).take i))
      (fun pk H2 hpk e2 h2 => ⟨_, _, _, _, _, _, _, _, [], rfl, ?_, e2 _ _ h1, ?_, .nil⟩) (fun pk i σ' H' hi h => ?_) ?_ ?_
    · exact et_B (ev_niSN (ev_var rfl) (el_of (er_callA (ea_cons (ev_var rfl) (ea_cons (ev_ixT (i := 2) (ev_var rfl) ev_c (e2 _ _ (e1 _ _ hn.tup)) rfl) ea_nil)) (fun H3 e3 => ⟨D, pl, nc, n.2.2, rfl, hP.ex ((e1.trans e2).trans e3), hO, ((e1.trans e2).trans e3) _ _ hn.set, by omega, hks, rfl⟩) bk_l)))
    · exact fun b o hb => by
        rw [hideA_ne (ne_of_none hb hfl)]
        exact (e1.trans e2) _ _ hb
    · rw [hideA_ne]
      · exact h2
      · intro e
        rw [e, h1] at hpk
        cases hpk
    · obtain ⟨_, _, _, _, _, _, _, _, _, _, _, _, h, _⟩ := h
      exact SqL.of (hideA_ex _ _ _ _ h)
    · rintro pk i x σ' H2 hx ⟨y4, y5, y6, y7, y8, y9, y10, y11, ts, rfl, ex, hfl2, hpk2, hpr⟩
      obtain ⟨k, hk, rfl⟩ : ∃ k, (nextK pl.kd n.2.2)[i]? = some k ∧ x = .str k := by
        rw [List.getElem?_map] at hx
        cases hh : (nextK pl.kd n.2.2)[i]? with
        | none =>
          rw [hh] at hx
          cases hx
        | some k =>
          rw [hh] at hx
          exact ⟨k, rfl, (Option.some.inj hx).symm⟩
      have hkk := nextK_mem (List.mem_of_getElem? hk)
      have hil := (List.getElem?_eq_some_iff.mp hk).1
      have hnl : (nextK pl.kd n.2.2).length ≤ 8 := Nat.le_trans (List.length_filter_le _ _) hd8
      have htl := Paired.length hpr
      rw [List.length_take] at htl
      refine q_par (T := fun x y Ha Hb => ∃ pp ap, x = .ref pp ∧ y = .ref ap ∧ Ha pp = none ∧ Ha ap = none ∧ pp ≠ ap ∧ Hb pp = some (.lst []) ∧ Hb ap = some (.lst [])) (ear_cons (er_l (el_lst ea_nil (by simp))) (ear_cons (er_l (el_lst ea_nil (by simp))) ear_nil)) ?_ ?_
      · rintro vs H3 e3 ⟨v, r, Ha, rfl, ea, eb, ⟨pp, rfl, w1, w2⟩, v2, r2, Hb, rfl, ec, ed, ⟨ap, rfl, w3, w4⟩, rfl⟩
        exact ⟨_, _, rfl, pp, ap, rfl, rfl, w1, fresh_back ea w3, ne_of_none w2 w3, eb _ _ w2, ed _ _ w4⟩
      rintro x1 y1 H3 e3 ⟨pp, ap, rfl, rfl, npp, nap, hne, hpp, hap⟩
      have hfp : fl ≠ pp := fun e => by rw [← e, hfl2] at npp; cases npp
      have hfa : fl ≠ ap := fun e => by rw [← e, hfl2] at nap; cases nap
      have eC : Ex (hideA fl H2) (hid fl pp ap H3) := fun b o hb => by
        have hbf : b ≠ fl := fun e => by
          rw [e] at hb
          unfold hideA at hb
          rw [if_pos rfl] at hb
          cases hb
        rw [hideA_ne hbf] at hb
        refine (hideP_ne ?_).trans (e3 _ _ hb)
        rintro (e | e | e)
        · exact hbf e
        · rw [e, npp] at hb
          cases hb
        · rw [e, nap] at hb
          cases hb
      generalize hC : hid fl pp ap H3 = C at eC
      have xC : Ex H C := ex.trans eC
      let rr : Nat → List Str := fun j => if j = 0 then n.1 else n.2.1
      let gg : Nat → List Str := fun j => if j = 0 then g.1 else g.2
      let xr : Nat → List Str := fun j => (readR pl.kd.fit (rr j) k).2
      let xa : Nat → List Str := fun j => gg j ++ if (readR pl.kd.fit (rr j) k).1 then [k] else []
      refine q_forR1 (n := 2) (ea_cons ev_c ea_nil) (by decide) (fun j σ' Hx => ∃ (y8 y9 y10 : Option V) (ra aa : List Addr), σ' = [some (.ref D), some (.ref t), some (.ref pg), some (.ref fl), some (.str k), y5, some (.ref pp), some (.ref ap), y8, y9, y10, y11] ∧ Ex C (hid fl pp ap Hx) ∧ Hx fl = some (.lst (rvs ts)) ∧ Hx pp = some (.lst (rvs ra)) ∧ Hx ap = some (.lst (rvs aa)) ∧
        Paired (fun x r => hid fl pp ap Hx x = some (.lst (svs r))) ra ((List.range j).map xr) ∧ Paired (fun x r => hid fl pp ap Hx x = some (.lst (svs r))) aa ((List.range j).map xa))
        (fun H4 e4 => ⟨_, _, _, [], [], rfl, by rw [← hC]; exact hideP_mono e4, e4 _ _ (e3 _ _ hfl2), e4 _ _ hpp, e4 _ _ hap, .nil, .nil⟩) ?_ ?_
      · rintro j σ' H4 hj ⟨y8, y9, y10, ra, aa, rfl, c4, f4, p4, a4, q4, r4⟩
        have hj2 : j < 2 := by omega
        have hra := Paired.length q4
        have haa := Paired.length r4
        rw [List.length_map, List.length_range] at hra haa
        have o4 : Ex H H4 := (xC.trans c4).trans (hideP_ex _ _)
        have hix : ∃ x, ([V.ref na, .ref nb, .ref nc] : List V)[j]? = some (.ref x) ∧ H x = some (.lst (svs (rr j))) ∧ (rr j).length ≤ 1000 := by
          match j, hj2 with
          | 0, _ => exact ⟨na, rfl, hn.one, z1⟩
          | 1, _ => exact ⟨nb, rfl, hn.two, z2⟩
        have hgx : ∃ x, ([V.ref pa, .ref pb] : List V)[j]? = some (.ref x) ∧ H x = some (.lst (svs (gg j))) ∧ (gg j).length ≤ 100 := by
          match j, hj2 with
          | 0, _ => exact ⟨pa, rfl, hg2, gi3⟩
          | 1, _ => exact ⟨pb, rfl, hg3, gi4⟩
        obtain ⟨xn, hxn, hxn2, hxn3⟩ := hix
        obtain ⟨xg, hxg, hxg2, hxg3⟩ := hgx
        refine q_asg2 (T := fun t' x y Ha Hb => ∃ l, x = .bl (readR pl.kd.fit (rr j) k).1 ∧ y = .ref l ∧ Ha l = none ∧ Hb l = some (.lst (svs (xr j)))) (er_callA (ea_cons (ev_var rfl) (ea_cons (ev_ixT (i := j) (ev_var rfl) (ev_var rfl) (o4 _ _ hn.tup) hxn) (ea_cons (ev_var rfl) ea_nil))) (fun H5 e5 => ⟨D, xn, pl, rr j, k, rfl, hP.ex (o4.trans e5), (o4.trans e5) _ _ hxn2, hxn3, rfl⟩) bk_read) (fun v H5 e5 ⟨t', l, w1, w2, w3, w4, w5⟩ => ⟨t', _, _, w1, st_of w4, l, rfl, rfl, w2, w5⟩) ?_
        rintro t' x' y' H5 e5 ⟨l, rfl, rfl, hl, hl'⟩
        refine q_app (e5 _ _ p4) (ev_var rfl) (ev_var rfl) (by rw [List.length_map]; omega) fun H6 e6 => ?_
        have a6 : upd H6 pp (.lst (rvs ra ++ [.ref l])) ap = some (.lst (rvs aa)) := by
          rw [upd_ne hne.symm]
          exact (e5.trans e6) _ _ a4
        have g6 : ∀ {x : Addr} {o : HO}, H x = some o → upd H6 pp (.lst (rvs ra ++ [.ref l])) x = some o := fun {x o} hx => by
          have hx2 := (xC.trans c4) _ _ hx
          have hnp : x ≠ pp := fun e => by
            rw [e] at hx2
            have z : hid fl pp ap H4 pp = none := hideP_yes (.inr (.inl rfl))
            rw [z] at hx2
            cases hx2
          rw [upd_ne hnp]
          exact (e5.trans e6) _ _ (o4 _ _ hx)
        refine s_appL (ys := svs (xa j)) a6 (ev_var rfl) (el_is (el_catV (ev_ixT (i := j) (ev_var rfl) (ev_var rfl) (g6 hg1) hxg) (g6 hxg2) (el_times (b := (readR pl.kd.fit (rr j) k).1) (el_lst (ea_cons (ev_var rfl) ea_nil) (by simp)) (by simp) (ev_var rfl)) (by rw [svs_len]; split <;> simp <;> omega)) ?_) (by rw [List.length_map]; omega) fun la H7 hla e7 hla' => ?_
        · show _ = List.map V.str (gg j ++ if (readR pl.kd.fit (rr j) k).1 = true then [k] else [])
          rw [List.map_append]
          congr 1
          split <;> rfl
        · have hll : ∀ b, Pm3 fl pp ap b → H4 b ≠ none := by
            rintro b (rfl | rfl | rfl)
            · rw [f4]; simp
            · rw [p4]; simp
            · rw [a4]; simp
          have k1 : Ex (hid fl pp ap H4) (hid fl pp ap (upd H7 ap (.lst (rvs aa ++ [.ref la])))) := by
            rw [hid_kd]
            have w1 := hideP_mono (Q := Pm3 fl pp ap) (e5.trans e6)
            have w2 := hideP_mono (Q := Pm3 fl pp ap) e7
            rw [show hideP (Pm3 fl pp ap) (upd H6 pp (.lst (rvs ra ++ [.ref l]))) = hid fl pp ap H6 from hid_ll] at w2
            exact w1.trans w2
          have hl5 : hid fl pp ap H5 l = some (.lst (svs (xr j))) := hid_new hll hl hl'
          have hl7 : hid fl pp ap (upd H7 ap (.lst (rvs aa ++ [.ref la]))) l = some (.lst (svs (xr j))) := by
            rw [hid_kd]
            have w1 := hideP_mono (Q := Pm3 fl pp ap) e6
            have w2 := hideP_mono (Q := Pm3 fl pp ap) e7
            rw [show hideP (Pm3 fl pp ap) (upd H6 pp (.lst (rvs ra ++ [.ref l]))) = hid fl pp ap H6 from hid_ll] at w2
            exact (w1.trans w2) _ _ hl5
          have hll6 : ∀ b, Pm3 fl pp ap b → upd H6 pp (.lst (rvs ra ++ [.ref l])) b ≠ none := by
            rintro b (rfl | rfl | rfl)
            · rw [upd_ne hfp, (e5.trans e6) _ _ f4]; simp
            · rw [upd_same]; simp
            · rw [a6]; simp
          have hla7 : hid fl pp ap (upd H7 ap (.lst (rvs aa ++ [.ref la]))) la = some (.lst (svs (xa j))) := by
            rw [hid_kd]
            exact hid_new hll6 hla hla'
          refine ⟨_, _, _, ra ++ [l], aa ++ [la], rfl, c4.trans k1, ?_, ?_, ?_, ?_, ?_⟩
          · rw [upd_ne hfa]
            refine e7 _ _ ?_
            rw [upd_ne hfp]
            exact (e5.trans e6) _ _ f4
          · rw [upd_ne hne]
            have := e7 _ _ (upd_same (H := H6) (a := pp) (o := .lst (rvs ra ++ [.ref l])))
            rw [this]
            simp
          · rw [upd_same]
            simp
          · rw [List.range_succ, List.map_append]
            exact paired_snoc (Paired.mapP q4 fun a b z => k1 _ _ z) hl7
          · rw [List.range_succ, List.map_append]
            exact paired_snoc (Paired.mapP r4 fun a b z => k1 _ _ z) hla7
      · rintro σ' H4 ⟨y8, y9, y10, ra, aa, rfl, c4, f4, p4, a4, q4, r4⟩
        obtain ⟨ra0, ra1, rfl, u1, u2⟩ := paired_two (show Paired _ ra [xr 0, xr 1] from q4)
        obtain ⟨aa0, aa1, rfl, v1, v2⟩ := paired_two (show Paired _ aa [xa 0, xa 1] from r4)
        have okx : ∀ j, j < 2 → ∀ x ∈ xa j, okS x := fun j hj x hx => by
          have hkok := (hd.good k hkk).ok
          have hgok : ∀ x ∈ gg j, okS x := by
            have hj' : j = 0 ∨ j = 1 := by omega
            rcases hj' with rfl | rfl
            · exact fun x hx => (hd.good x (gi1 x hx)).ok
            · exact fun x hx => (hd.good x (gi2 x hx)).ok
          rcases List.mem_append.mp hx with hx | hx
          · exact hgok x hx
          · split at hx
            · have : x = k := by simpa using hx
              rw [this]
              exact hkok
            · cases hx
        have o4 : Ex H H4 := (xC.trans c4).trans (hideP_ex _ _)
        refine q_while (fun m σ' Hx => ∃ (cp x0 x1 : Addr) (u v : List Str), m = u.length ∧ σ' = [some (.ref D), some (.ref t), some (.ref pg), some (.ref fl), some (.str k), y5, some (.ref pp), some (.ref cp), y8, y9, y10, y11] ∧ Ex H4 Hx ∧ Hx cp = some (.lst [.ref x0, .ref x1]) ∧ hid fl pp ap Hx x0 = some (.lst (svs u)) ∧ hid fl pp ap Hx x1 = some (.lst (svs v)) ∧ strip u v = strip (xa 0) (xa 1) ∧ (∀ x ∈ u, okS x) ∧ ∀ x ∈ v, okS x) _
          ⟨ap, aa0, aa1, xa 0, xa 1, rfl, rfl, Ex.refl _, a4, v1, v2, rfl, okx 0 (by decide), okx 1 (by decide)⟩ ?_
        rintro m σ' H5 ⟨cp, x0, x1, u, v, rfl, rfl, e5, hcp, hx0, hx1, hst, ok1, ok2⟩
        have hx0' := hideP_ex _ _ _ _ hx0
        have hx1' := hideP_ex _ _ _ _ hx1
        refine ⟨!decide (u = []) && (!decide (v = []) && decide (u[0]? = v[0]?)), ?_, fun hc H6 e6 => ?_, fun hc H6 e6 => ?_⟩
        · refine et_and (et_B (ev_opL (ev_ixL (i := 0) (ev_var rfl) ev_c (SqL.of hcp) rfl) (el_lst ea_nil (by simp)) fun p H6 hp e6 => rv_neS (ys := []) (e6 _ _ hx0') hp ok1 (fun x hx => nomatch hx))) fun h1 => et_and (et_B (ev_opL (ev_ixL (i := 1) (ev_var rfl) ev_c (SqL.of hcp) rfl) (el_lst ea_nil (by simp)) fun p H6 hp e6 => rv_neS (ys := []) (e6 _ _ hx1') hp ok2 (fun x hx => nomatch hx))) fun h2 => ?_
          have h1 : u ≠ [] := of_decide_eq_false (by simpa using h1)
          have h2 : v ≠ [] := of_decide_eq_false (by simpa using h2)
          have l1 := List.length_pos_iff.mpr h1
          have l2 := List.length_pos_iff.mpr h2
          refine et_is (et_B (ev_op (ev_ixL (i := 0) (ev_ixL (i := 0) (ev_var rfl) ev_c (SqL.of hcp) rfl) ev_c (SqL.of hx0') (svs_get (List.getElem?_eq_getElem l1))) (ev_ixL (i := 0) (ev_ixL (i := 1) (ev_var rfl) ev_c (SqL.of hcp) rfl) ev_c (SqL.of hx1') (svs_get (List.getElem?_eq_getElem l2))) (rv_eq rfl))) ?_
          rw [List.getElem?_eq_getElem l1, List.getElem?_eq_getElem l2]
          simp
        · simp only [Bool.and_eq_true, Bool.not_eq_true', decide_eq_false_iff_not, decide_eq_true_eq] at hc
          obtain ⟨s1, s2⟩ := strip_go hc
          refine ⟨_, fun _ _ h => h, s_asgR (er_lst2 (el_is (el_sl (ev_ixL (i := 0) (ev_var rfl) ev_c (SqL.of (e6 _ _ hcp)) rfl) (eo_some ev_c) eo_none (SqL.of (e6 _ _ hx0'))) (show _ = svs (u.drop 1) by rw [show (1 : Int) = ((1 : Nat) : Int) from rfl, cut_from]; exact List.map_drop.symm)) (el_is (el_sl (ev_ixL (i := 1) (ev_var rfl) ev_c (SqL.of (e6 _ _ hcp)) rfl) (eo_some ev_c) eo_none (SqL.of (e6 _ _ hx1'))) (show _ = svs (v.drop 1) by rw [show (1 : Int) = ((1 : Nat) : Int) from rfl, cut_from]; exact List.map_drop.symm))) ?_⟩
          rintro w H7 e7 ⟨cp', x0', x1', rfl, n0, n1, w1, w2, w3⟩
          have hll : ∀ b, Pm3 fl pp ap b → H6 b ≠ none := by
            rintro b (rfl | rfl | rfl)
            · rw [(e5.trans e6) _ _ f4]; simp
            · rw [(e5.trans e6) _ _ p4]; simp
            · rw [(e5.trans e6) _ _ a4]; simp
          exact ⟨_, s2, cp', x0', x1', u.drop 1, v.drop 1, rfl, rfl, (e5.trans e6).trans e7, w1, hid_new hll n0 w2, hid_new hll n1 w3, s1.symm.trans hst, fun x hx => ok1 x (List.mem_of_mem_drop hx), fun x hx => ok2 x (List.mem_of_mem_drop hx)⟩
        · have hc : ¬ (u ≠ [] ∧ v ≠ [] ∧ u[0]? = v[0]?) := fun z => by
            rw [decide_eq_false z.1, decide_eq_false z.2.1, decide_eq_true z.2.2] at hc
            cases hc
          have hst2 : (u, v) = strip (xa 0) (xa 1) := by rw [← hst, strip_end hc]
          have e46 := e5.trans e6
          have o6 : Ex H H6 := o4.trans e46
          refine q_asgR (er_tup3 (er_v (ev_ixL (i := 0) (ev_var rfl) ev_c (SqL.of (e46 _ _ p4)) rfl)) (er_v (ev_ixL (i := 1) (ev_var rfl) ev_c (SqL.of (e46 _ _ p4)) rfl)) (er_l (el_sortSet (xs := n.2.2 ++ [k]) (zs := addK n.2.2 k) (el_is (el_catV (ev_ixT (i := 2) (ev_var rfl) ev_c (o6 _ _ hn.tup) rfl) (o6 _ _ hn.set) (el_lst (ea_cons (ev_var rfl) ea_nil) (by simp)) (by rw [svs_len]; simp; omega)) (by simp)) (by simp; omega) fun ys y1 y2 y3 => addK_uniq ho.set y1 y2 y3))) ?_
          rintro w H7 e7 ⟨lt, x, y, zz, Hp1, Hp2, Hp3, rfl, ea, eb, ec, ed, rfl, rfl, ⟨sl, rfl, hsl, hsl'⟩, hlt, hlt'⟩
          have hll : ∀ b, Pm3 fl pp ap b → H6 b ≠ none := by
            rintro b (rfl | rfl | rfl)
            · rw [e46 _ _ f4]; simp
            · rw [e46 _ _ p4]; simp
            · rw [e46 _ _ a4]; simp
          have f7 : H7 fl = some (.lst (rvs ts)) := e7 _ _ (e46 _ _ f4)
          refine s_appR f7 (ev_var rfl) (er_tup3 (er_v (ev_var rfl)) (er_v (ev_var rfl)) (er_u (eu_tup (ea_cons (ev_ixL (i := 0) (ev_var rfl) ev_c (SqL.of (e7 _ _ (e6 _ _ hcp))) rfl) (ea_cons (ev_ixL (i := 1) (ev_var rfl) ev_c (SqL.of (e7 _ _ (e6 _ _ hcp))) rfl) ea_nil)) (by simp)))) (by rw [List.length_map]; omega) ?_
          rintro w2 H8 H9 e8 e9 ⟨tt, xx, yy, zz2, G1, G2, G3, rfl, fa, fb, fc, fd, rfl, rfl, ⟨gt, rfl, hgt, hgt'⟩, htt, htt'⟩
          have e69 := (e7.trans e8).trans e9
          have k49 : Ex (hid fl pp ap H4) (hid fl pp ap H9) := hideP_mono (e46.trans e69)
          have k59 : Ex (hid fl pp ap H5) (hid fl pp ap H9) := hideP_mono (e6.trans e69)
          have hback : ∀ {x : Addr}, H7 x = none → H6 x = none := fun h => fresh_back e7 h
          have hN : NdAt (hid fl pp ap H9) lt (stepP pl.kd n g k).1 := by
            refine ⟨ra0, ra1, sl, ?_, k49 _ _ u1, k49 _ _ u2, ?_⟩
            · exact hideP_mono (Q := Pm3 fl pp ap) (e8.trans e9) _ _ (hid_new hll (fresh_back ((ea.trans eb).trans ec) hlt) hlt')
            · exact hideP_mono (Q := Pm3 fl pp ap) (e8.trans e9) _ _ (hid_new hll (fresh_back (ea.trans eb) hsl) (ed _ _ hsl'))
          have hG : GapAt (hid fl pp ap H9) gt (stepP pl.kd n g k).2 := by
            have e2g : (stepP pl.kd n g k).2 = (u, v) := hst2.symm
            rw [e2g]
            refine ⟨x0, x1, ?_, k59 _ _ hx0, k59 _ _ hx1⟩
            exact hid_new hll (hback (fresh_back ((e8.trans fa).trans fb) hgt)) (fd _ _ hgt')
          have hL : LeadAt (hid fl pp ap H9) tt (k, stepP pl.kd n g k) := ⟨lt, gt, hid_new hll (hback (fresh_back (((e8.trans fa).trans fb).trans fc) htt)) htt', hN, hG⟩
          have kA : ∀ o, Ex (hid fl pp ap H9) (hideA fl (upd H9 fl o)) := fun o b oo hb => by
            rw [hideA_upd]
            have hbf : b ≠ fl := fun e => by
              have z : hid fl pp ap H9 b = none := by rw [e]; exact hideP_yes (.inl rfl)
              rw [z] at hb
              cases hb
            rw [hideA_ne hbf]
            exact hideP_ex _ _ _ _ hb
          have kall : ∀ o, Ex (hideA fl H2) (hideA fl (upd H9 fl o)) := fun o => ((eC.trans c4).trans k49).trans (kA o)
          refine ⟨_, _, _, _, _, _, _, _, ts ++ [tt], rfl, ex.trans (kall _), by rw [upd_same]; simp, kall _ _ _ hpk2, ?_⟩
          have hlr : (leadsR pl.kd n g)[i]? = some (k, stepP pl.kd n g k) := by
            unfold leadsR
            rw [List.getElem?_map, hk]
            rfl
          rw [List.take_add_one, hlr]
          exact paired_snoc (Paired.mapP hpr fun a b z => z.ex (kall _)) (hL.ex (kA _))
    · rintro pk σ' H2 ⟨y4, y5, y6, y7, y8, y9, y10, y11, ts, rfl, ex, hfl2, hpk2, hpr⟩
      rw [List.take_of_length_le (by unfold leadsR; rw [List.length_map, svs_len]; exact Nat.le_refl _)] at hpr
      have eo : Ex H H2 := ex.trans (hideA_ex _ _)
      exact s_ret (ev_var rfl) fun H3 e3 => q _ H3 (eo.trans e3) ⟨fl, ts, rfl, hfl, e3 _ _ hfl2, Paired.mapP hpr fun a b z => z.ex ((hideA_ex _ _).trans e3)⟩
end
end K64
set_option Elab.async false
set_option linter.all false
set_option maxRecDepth 100000
set_option maxHeartbeats 8000000
/-! _law_search. -/
namespace K64
open PySem PySem.Spec PyProof.Rows L2 Evl
abbrev N3 := PySem.W.T3 (List Str) (List Str) (List Str)
def t3 (n : Nd) : N3 := ⟨n.1, n.2.1, n.2.2⟩
theorem t3_inj {n m : Nd} (h : t3 n = t3 m) : n = m := by
  obtain ⟨a, b, c⟩ := n
  obtain ⟨a', b', c'⟩ := m
  unfold t3 at h
  injection h with h1 h2 h3
  have h1 : a = a' := h1
  have h2 : b = b' := h2
  have h3 : c = c' := h3
  rw [h1, h2, h3]
theorem t3_mem {n : Nd} {ns : List Nd} : t3 n ∈ ns.map t3 ↔ n ∈ ns := by
  rw [List.mem_map]
  constructor
  · rintro ⟨m, hm, e⟩
    rw [← t3_inj e]
    exact hm
  · intro h
    exact ⟨n, h, rfl⟩
section
variable {P : Program} {w : World} {K : PySem.W.Frag} {mg : Str → Option Value} {base : Heap}
theorem dp_nd {H : Hp} {t : Addr} {n : Nd} (h : NdAt H t n) : Dp K H (.ref t) (PySem.W.Datum.toD (t3 n)) := by
  obtain ⟨a, b, c, h⟩ := h
  exact Dp.tup (st_of h.tup) (.cons (dp_list (SqL.of h.one)) (.cons (dp_list (SqL.of h.two)) (.cons (dp_list (SqL.of h.set)) .nil)))
theorem dp_nds {H : Hp} : ∀ {ts : List Addr} {ns : List Nd}, Paired (NdAt H) ts ns → DpAll K H (rvs ts) ((ns.map t3).map PySem.W.Datum.toD)
  | _, _, .nil => .nil
  | _, _, .cons r t => .cons (dp_nd r) (dp_nds t)
/-- node not in nodes -/
theorem ev_niNd {σ : L2.St} {H : Hp} {ta tb : TE} {l u : Addr} {ts : List Addr} {ns : List Nd} {n : Nd} (ha : Ev ta σ H (.ref u)) (hb : Ev tb σ H (.ref l)) (hn : NdAt H u n) (hl : H l = some (.lst (rvs ts))) (hp : Paired (NdAt H) ts ns) : Ev (tOp (rInD K true) ta tb) σ H (.bl (!decide (n ∈ ns))) :=
  ev_op ha hb fun H1 e Q q => ⟨l, rvs ts, _, rfl, SqL.of (e _ _ hl), .mk (α := N3) (t3 n) (ns.map t3) (dp_nd (hn.ex e)) (dp_nds (paired_nx hp e)) (by decide), by
    have e0 : ∀ d : Decidable (t3 n ∈ ns.map t3), (@decide (t3 n ∈ ns.map t3) d) = decide (n ∈ ns) := fun d => by
      rw [Bool.eq_iff_iff, decide_eq_true_eq, decide_eq_true_eq]
      exact t3_mem
    rw [if_pos rfl]
    have := q H1 (Ex.refl H1)
    rw [← e0 _] at this
    exact this⟩
theorem er_lgapOf {σ : L2.St} {H : Hp} {t1 t2 : TE} {E : XK} {D t : Addr} {q : Pl} {n : Nd} (h1 : Ev t1 σ H (.ref D)) (h2 : Ev t2 σ H (.ref t)) (hP : PlAt H D q) (hO : PlOk q) (hn : NdAt H t n) (hi : NdIn q.kd n) : EvR (tCall (spLGap K) [] E (tCons t1 (tCons t2 tNil))) σ H (ROGap (gapR q.kd n)) :=
  er_callA (ea_cons h1 (ea_cons h2 ea_nil)) (fun H1 e => ⟨D, t, q, n, rfl, hP.ex e, hO, hn.ex e, hi, rfl⟩) bk_ogap
def RSearch (lim : Nat) : Rs Nd Str → Rel
  | .alike ns => fun v H1 H2 => ∃ t nl ts, v = .ref t ∧ H1 t = none ∧ H2 t = some (.tup [.str "alike", .ref nl]) ∧ H2 nl = some (.lst (rvs ts)) ∧ Paired (NdAt H2) ts ns
  | .apart l => RApart l
  | .many => fun v H1 H2 => ∃ t, v = .ref t ∧ H1 t = none ∧ H2 t = some (.tup [.str "many", .int (lim : Int)])
theorem bk_search {lim : Nat} : ∀ {r : Rs Nd Str}, Bk (RSearch lim r)
  | .alike ns => fun v H1 H2 H3 e ⟨t, nl, ts, h1, h2, h3⟩ => ⟨t, nl, ts, h1, fresh_back e h2, h3⟩
  | .apart l => fun v H1 H2 H3 e ⟨t, p, h1, h2, h3, h4⟩ => ⟨t, p, h1, fresh_back e h2, fresh_back e h3, h4⟩
  | .many => fun v H1 H2 H3 e ⟨t, h1, h2, h3⟩ => ⟨t, h1, fresh_back e h2, h3⟩
structure LInv (lim : Nat) (H0 : Hp) (nl ll : Addr) (H : Hp) (ns : List Nd) (ls : List (List Str)) (nt lt : List Addr) : Prop where
  base : Ex H0 (hid nl ll ll H)
  hnl : H nl = some (.lst (rvs nt))
  hll : H ll = some (.lst (rvs lt))
  no : Paired (NdAt (hid nl ll ll H)) nt ns
  li : Paired (fun p l => hid nl ll ll H p = some (.lst (svs l))) lt ls
  eq : ns.length = ls.length
  len : ns.length ≤ lim
  lb : ∀ (i : Nat) (l : List Str), ls[i]? = some l → l.length ≤ i
theorem LInv.ex {lim : Nat} {H0 : Hp} {nl ll : Addr} {H H' : Hp} {ns : List Nd} {ls : List (List Str)} {nt lt : List Addr} (c : LInv lim H0 nl ll H ns ls nt lt) (e : Ex H H') : LInv lim H0 nl ll H' ns ls nt lt :=
  ⟨c.base.trans (hideP_mono e), e _ _ c.hnl, e _ _ c.hll, paired_nx c.no (hideP_mono e), Paired.mapP c.li fun _ _ h => (hideP_mono (Q := Pm3 nl ll ll) e) _ _ h, c.eq, c.len, c.lb⟩
theorem LInv.old {lim : Nat} {H0 : Hp} {nl ll : Addr} {H : Hp} {ns : List Nd} {ls : List (List Str)} {nt lt : List Addr} (c : LInv lim H0 nl ll H ns ls nt lt) : Ex H0 H := c.base.trans (hideP_ex _ _)
theorem LInv.there {lim : Nat} {H0 : Hp} {nl ll : Addr} {H : Hp} {ns : List Nd} {ls : List (List Str)} {nt lt : List Addr} (c : LInv lim H0 nl ll H ns ls nt lt) : ∀ b, Pm3 nl ll ll b → H b ≠ none := by
  rintro b (rfl | rfl | rfl)
  · rw [c.hnl]; simp
  · rw [c.hll]; simp
  · rw [c.hll]; simp
theorem LInv.node {lim : Nat} {H0 : Hp} {nl ll : Addr} {H : Hp} {ns : List Nd} {ls : List (List Str)} {nt lt : List Addr} (c : LInv lim H0 nl ll H ns ls nt lt) {i : Nat} {n : Nd} (hn : ns[i]? = some n) : ∃ t, (rvs nt)[i]? = some (.ref t) ∧ NdAt (hid nl ll ll H) t n := by
  have hl := Paired.length c.no
  have hi := (List.getElem?_eq_some_iff.mp hn).1
  have hq := List.getElem?_eq_getElem (show i < nt.length by omega)
  obtain ⟨b, z1, z2⟩ := paired_at c.no hq
  rw [hn] at z1
  cases z1
  exact ⟨_, by rw [List.getElem?_map, hq]; rfl, z2⟩
theorem LInv.line {lim : Nat} {H0 : Hp} {nl ll : Addr} {H : Hp} {ns : List Nd} {ls : List (List Str)} {nt lt : List Addr} (c : LInv lim H0 nl ll H ns ls nt lt) {i : Nat} {l : List Str} (hn : ls[i]? = some l) : ∃ t, (rvs lt)[i]? = some (.ref t) ∧ hid nl ll ll H t = some (.lst (svs l)) := by
  have hl := Paired.length c.li
  have hi := (List.getElem?_eq_some_iff.mp hn).1
  have hq := List.getElem?_eq_getElem (show i < lt.length by omega)
  obtain ⟨b, z1, z2⟩ := paired_at c.li hq
  rw [hn] at z1
  cases z1
  exact ⟨_, by rw [List.getElem?_map, hq]; rfl, z2⟩
theorem lb_snoc {ls : List (List Str)} {line : List Str} {k : Str} {at_ : Nat} (h : ∀ (i : Nat) (l : List Str), ls[i]? = some l → l.length ≤ i) (hl : ls[at_]? = some line) : ∀ (i : Nat) (l : List Str), (ls ++ [line ++ [k]])[i]? = some l → l.length ≤ i := fun i l hi => by
  have hat := (List.getElem?_eq_some_iff.mp hl).1
  by_cases hlt : i < ls.length
  · rw [List.getElem?_append_left hlt] at hi
    exact h i l hi
  · have hs := (List.getElem?_eq_some_iff.mp hi).1
    rw [List.length_append, List.length_singleton] at hs
    have ei : i = ls.length := by omega
    subst ei
    rw [List.getElem?_append_right (Nat.le_refl _), Nat.sub_self] at hi
    have hi : line ++ [k] = l := by simpa using hi
    rw [← hi, List.length_append, List.length_singleton]
    have := h at_ line hl
    omega
/-- a, b, c of a new tuple told by an item at an address -/
theorem get3 {σ : L2.St} {H : Hp} {i j l : Nat} {Q : L2.St → Hp → Prop} {t : Addr} {x y z : V} (ht : SqT K H t [x, y, z]) (q : Q (((σ.set i (some x)).set j (some y)).set l (some z)) H) : gTup K 3 (gCons (gName i) (gCons (gName j) (gCons (gName l) gNil))) (.ref t) σ H Q :=
  ⟨t, _, rfl, ht, rfl, _, _, rfl, _, _, rfl, _, _, rfl, rfl, q⟩
def spLSearch (K : PySem.W.Frag) : Sp := pur fun vs H R => ∃ (D p r : Addr) (lim : Nat) (q : Pl) (a b : List Str), vs = [.ref D, .ref p, .ref r, .int (lim : Int)] ∧ PlAt H D q ∧ PlOk q ∧ RowOk q.kd a ∧ RowOk q.kd b ∧ H p = some (.lst (svs a)) ∧ H r = some (.lst (svs b)) ∧ 1 ≤ lim ∧ lim ≤ 1000 ∧ R = RSearch lim (searchR q.kd a b lim)
theorem sc_L_search : FnScope ["_law_plan_here", "_law_one", "_law_other", "_law_bound", "_law_nodes", "_law_lines", "_law_at", "_law_kind", "_law_later", "_law_due"] ["_law_plan_here", "_law_one", "_law_other", "_law_bound"] (defScope s_L_search) := C8.fnScope_by (by decide +kernel)
theorem q_forNLg {σ : L2.St} {H : Hp} {D : Ends} {tz tu : TS} {tl : TE} {g : TG} {R : Rel} (h : EvR tl σ H R) (hR : ∀ v H1, Ex H H1 → R v H H1 → ∃ p xs, v = .ref p ∧ H1 p = some (.lst xs) ∧ ∃ (Pv : Nat → L2.St → Hp → Prop), Pv 0 σ H1 ∧ (∀ i σ' H', i ≤ xs.length → Pv i σ' H' → SqL K H' p xs) ∧
    (∀ (i : Nat) x σ' H', xs[i]? = some x → Pv i σ' H' → g x σ' H' fun σ2 H2 => tu { D with nx := Pv (i + 1), ct := Pv (i + 1), bk := tz D } σ2 H2) ∧ ∀ σ' H', Pv xs.length σ' H' → tz D σ' H') : tSeq (tFor (iList K tl) g tu) tz D σ H := h H (Ex.refl H) _ fun v H1 e r => by
  obtain ⟨p, xs, rfl, hp, Pv, h0, hl, hs, hd⟩ := hR v H1 e r
  exact ⟨p, rfl, ⟨xs, sq_of hp⟩, for_it (D := { D with nx := tz D }) walk_list Pv h0 (fun i σ' H' hi h => hl i σ' H' hi h) (fun i x σ' H2 H3 hi h y => by
    obtain ⟨rfl, hx⟩ := y
    exact hs i x σ' _ hx h) hd⟩
theorem lst_hid {nl ll x : Addr} {H : Hp} {nt lt : List Addr} {xs : List Str} (h1 : H nl = some (.lst (rvs nt))) (h2 : H ll = some (.lst (rvs lt))) (n1 : nt ≠ []) (n2 : lt ≠ []) (h : H x = some (.lst (svs xs))) : hid nl ll ll H x = some (.lst (svs xs)) := by
  have no : ∀ (as : List Addr), as ≠ [] → rvs as ≠ svs xs := fun as ha e => by
    cases as with
    | nil => exact ha rfl
    | cons a r =>
      cases xs with
      | nil => cases e
      | cons y ys =>
        have := (List.cons.inj e).1
        cases this
  refine (hideP_ne ?_).trans h
  rintro (e | e | e)
  · rw [e, h1] at h
    exact no nt n1 (by simpa using h)
  · rw [e, h2] at h
    exact no lt n2 (by simpa using h)
  · rw [e, h2] at h
    exact no lt n2 (by simpa using h)
theorem tup_hid {nl ll x : Addr} {H : Hp} {as bs xs : List V} (h1 : H nl = some (.lst as)) (h2 : H ll = some (.lst bs)) (h : H x = some (.tup xs)) : hid nl ll ll H x = some (.tup xs) := by
  refine (hideP_ne ?_).trans h
  rintro (e | e | e)
  · rw [e, h1] at h
    cases h
  · rw [e, h2] at h
    cases h
  · rw [e, h2] at h
    cases h
theorem lead_hid {nl ll t : Addr} {H : Hp} {nt lt : List Addr} {r : Str × Nd × Gp} (h1 : H nl = some (.lst (rvs nt))) (h2 : H ll = some (.lst (rvs lt))) (n1 : nt ≠ []) (n2 : lt ≠ []) (h : LeadAt H t r) : LeadAt (hid nl ll ll H) t r := by
  obtain ⟨u, p, w1, ⟨a, b, c, w2⟩, x, y, w3, w4, w5⟩ := h
  exact ⟨u, p, tup_hid h1 h2 w1, ⟨a, b, c, tup_hid h1 h2 w2.tup, lst_hid h1 h2 n1 n2 w2.one, lst_hid h1 h2 n1 n2 w2.two, lst_hid h1 h2 n1 n2 w2.set⟩, x, y, tup_hid h1 h2 w3, lst_hid h1 h2 n1 n2 w4, lst_hid h1 h2 n1 n2 w5⟩
theorem er_lstR {σ : L2.St} {H : Hp} {te : TE} {A : Rel} (h : EvR te σ H A) : EvR (tLst (tCons te tNil)) σ H (fun v H1 H3 => ∃ p x H2, v = .ref p ∧ Ex H1 H2 ∧ Ex H2 H3 ∧ A x H1 H2 ∧ H2 p = none ∧ H3 p = some (.lst [x])) := fun H1 e Q k =>
  h H1 e _ fun x H2 e2 r => ⟨by simp [sizeLine_eq], fun p hp => k (.ref p) _ (e2.trans (Ex.new hp)) ⟨p, x, H2, rfl, e2, Ex.new hp, r, hp, upd_same⟩⟩
theorem er_leads {σ : L2.St} {H : Hp} {t1 t2 t3 : TE} {E : XK} {D t : Addr} {q : Pl} {a b : List Str} {n : Nd} {g : Gp} (h1 : Ev t1 σ H (.ref D)) (h2 : Ev t2 σ H (.ref t)) (h3 : EvR t3 σ H (ROGap (some g))) (hP : PlAt H D q) (hO : PlOk q) (hA : RowOk q.kd a) (hB : RowOk q.kd b) (hn : NdAt H t n) (ho : NodeOk q.kd a b n) (hg : gapIn q.kd g) : EvR (tCall (spLLeads K) [] E (tCons t1 (tCons t2 (tCons t3 tNil)))) σ H (RLeads (leadsR q.kd n g)) := by
  refine er_call (ear_cons (er_v h1) (ear_cons (er_v h2) (ear_cons h3 ear_nil))) ?_
  rintro vs H1 H2 e1 e2 ⟨v, r, H3, rfl, e3, e4, rfl, v2, r2, H4, rfl, e5, e6, rfl, v3, r3, H5, rfl, e7, e8, ⟨pg, rfl, hpg, _⟩, rfl⟩
  have ee := e1.trans e2
  exact ⟨_, ⟨D, t, pg, q, a, b, n, g, rfl, hP.ex ee, hO, hA, hB, hn.ex ee, ho, hpg.ex e8, hg, rfl⟩, fun v H6 e r => bk_objs _ _ _ _ e2 r⟩
theorem ok_L_search (T : Tp K mg) (F : FD K d_L_search) (c_L_gap : C8.Cal P w K mg base 4 "_law_gap" (spLGap K) []) (c_L_leads : C8.Cal P w K mg base 3 "_law_leads" (spLLeads K) []) : C8.Cal P w K mg base 5 "_law_search" (spLSearch K) [] := by
  refine cal_k F T.g_law_search sc_L_search (fun _ _ _ _ _ _ us hl => match us, hl with | [_, _, _, _], _ => rfl) (fun vs H Q E h => ?_) (fun cdv A outer s H vs Q E hr h => ?_)
  · obtain ⟨R, ⟨D, p, r, lim, q, a, b, rfl, _⟩, _⟩ := h
    rfl
  · obtain ⟨R, ⟨D, p, r, lim, pl, a, b, rfl, hP, hO, hA, hB, hp, hr', hl1, hl2, rfl⟩, q⟩ := h
    refine ⟨_, (pss_cons (ps_par3 (i := 4) (j := 5) (l := 6) (by rfl) (sc_L_search).nd rfl rfl rfl (by decide) (by decide) (by decide) rfl rfl rfl (pa_cons (pe_lst (pa_cons (pe_tup (pa_cons (pe_callTy (k_list (K := K) rfl) (by rfl) T.f_list PyProof.Rows.boot_list (pa_cons (pv 1) pa_nil)) (pa_cons (pe_callTy (k_list (K := K) rfl) (by rfl) T.f_list PyProof.Rows.boot_list (pa_cons (pv 2) pa_nil)) (pa_cons (pe_lst pa_nil) pa_nil)))) pa_nil)) (pa_cons (pe_lst (pa_cons (pe_lst pa_nil) pa_nil)) (pa_cons pe_int pa_nil))) (by rfl))
  (pss_cons (ps_if (pt_cmpR (k_neD (K := K) rfl hr) (C8.pe_c c_L_gap hr (by decide) (by rfl) (pa_cons (pv 0) (pa_cons (pe_ix (k_ixL (K := K) rfl) (pv 4) pe_int (fun _ _ => rfl)) pa_nil))) (pe_tup (pa_cons (pe_lst pa_nil) (pa_cons (pe_lst pa_nil) pa_nil))) (nomark _))
  (pss_one (ps_ret (pe_tup (pa_cons pe_str (pa_cons (pe_lst pa_nil) pa_nil)))))
  pss_nil)
  (pss_cons (ps_while PassesOwn.never (pt_cmpR op_lt (pv 6) (pe_callB (k_len (K := K) rfl) (by rfl) T.f_len PySem.boot_len (pa_cons (pv 4) pa_nil)) (nomark _))
  (pss_cons (ps_for PassesOwn.never rfl (k_piList (K := K) rfl (C8.pe_c c_L_leads hr (by decide) (by rfl) (pa_cons (pv 0) (pa_cons (pe_ix (k_ixL (K := K) rfl) (pv 4) (pv 6) (fun _ _ => rfl)) (pa_cons (C8.pe_c c_L_gap hr (by decide) (by rfl) (pa_cons (pv 0) (pa_cons (pe_ix (k_ixL (K := K) rfl) (pv 4) (pv 6) (fun _ _ => rfl)) pa_nil))) pa_nil))))) (k_pgTup (K := K) rfl rfl (pgs_cons (pg_name (i := 7) (sc_L_search).nd rfl (.inl rfl)) (pgs_cons (pg_name (i := 8) (sc_L_search).nd rfl (.inl rfl)) (pgs_cons (pg_name (i := 9) (sc_L_search).nd rfl (.inl rfl)) pgs_nil))))
  (pss_cons (ps_if (pt_cmpR (k_neD (K := K) rfl hr) (C8.pe_c c_L_gap hr (by decide) (by rfl) (pa_cons (pv 0) (pa_cons (pv 8) pa_nil))) (pv 9) (nomark _))
  (pss_one (ps_ret (pe_tup (pa_cons pe_str (pa_cons (pe_op op_cat (pe_ix (k_ixL (K := K) rfl) (pv 5) (pv 6) (fun _ _ => rfl)) (pe_lst (pa_cons (pv 7) pa_nil))) pa_nil)))))
  pss_nil)
  (pss_one (ps_if (pt_cmpR (k_notInD (K := K) rfl hr) (pv 8) (pv 4) (by rfl))
  (pss_cons (ps_if (pt_cmpR op_eq (pe_callB (k_len (K := K) rfl) (by rfl) T.f_len PySem.boot_len (pa_cons (pv 4) pa_nil)) (pv 3) (nomark _))
  (pss_one (ps_ret (pe_tup (pa_cons pe_str (pa_cons (pv 3) pa_nil)))))
  pss_nil)
  (pss_cons (ps_expr (k_bm (K := K) rfl PySem.F.plainAttrs_list PySem.F.slot_list_append PySem.F.type_list_append mt_append (pv 4) (pa_cons (pv 8) pa_nil)))
  (pss_one (ps_expr (k_bm (K := K) rfl PySem.F.plainAttrs_list PySem.F.slot_list_append PySem.F.type_list_append mt_append (pv 5) (pa_cons (pe_op op_cat (pe_ix (k_ixL (K := K) rfl) (pv 5) (pv 6) (fun _ _ => rfl)) (pe_lst (pa_cons (pv 7) pa_nil))) pa_nil))))))
  pss_nil))))
  (pss_one (ps_aug (i := 6) (sc_L_search).nd rfl (.inl rfl) pe_int ip_add))))
  (pss_one (ps_ret (pe_tup (pa_cons pe_str (pa_cons (pv 4) pa_nil)))))))), ?_⟩
    have hd := hO.kd
    generalize hdd : pl.kd = d at *
    have hd8 := hd.len
    have hso : NodeOk d a b (a, b, []) := ⟨List.Sublist.refl _, List.Sublist.refl _, .nil, fun k hk => nomatch hk⟩
    refine q_par3 (T3' := fun x y z H1 => ∃ nl ll st la, x = .ref nl ∧ y = .ref ll ∧ z = .int 0 ∧ H nl = none ∧ H ll = none ∧ nl ≠ ll ∧ la ≠ nl ∧ la ≠ ll ∧ H1 nl = some (.lst [.ref st]) ∧ H1 ll = some (.lst [.ref la]) ∧ H1 la = some (.lst []) ∧ NdAt (hid nl ll ll H1) st (a, b, []))
      (ear_cons (er_lstR (er_start (ev_var rfl) (ev_var rfl) hp hr')) (ear_cons (er_lstN (el_lst ea_nil (by simp))) (ear_cons (er_v ev_c) ear_nil))) ?_ ?_
    · rintro vs H1 e1 ⟨v, r1, Ha, rfl, ea, eb, ⟨nl, x, Hx, rfl, ex1, ex2, ⟨st, rfl, p1, p2, p3, hnd, f1, f2, f3, f4, d1, d2, d3⟩, hnl, hnl'⟩, v2, r2, Hb, rfl, ec, ed, ⟨ll, la, rfl, hll, hla, hne, hll', hla'⟩, v3, r3, Hc, rfl, ee, ef, rfl, rfl⟩
      have e3 : Ex Hx H1 := (ex2.trans ec).trans ed
      have nn : ∀ {y : Addr} {o : HO}, Hx y = some o → hid nl ll ll H1 y = some o := fun {y o} hy => by
        refine (hideP_ne ?_).trans (e3 _ _ hy)
        rintro (e | e | e)
        · rw [e, hnl] at hy; cases hy
        · rw [e, fresh_back ex2 hll] at hy; cases hy
        · rw [e, fresh_back ex2 hll] at hy; cases hy
      exact ⟨_, _, _, rfl, nl, ll, st, la, rfl, rfl, rfl, fresh_back ex1 hnl, fresh_back ea hll, ne_of_none hnl' hll, (ne_of_none hnl' hla).symm, hne.symm, ed _ _ (ec _ _ hnl'), ed _ _ hll', ed _ _ hla', p1, p2, p3, nn hnd.tup, nn hnd.one, nn hnd.two, nn hnd.set⟩
    rintro x1 y1 z1 H1 e1 ⟨nl, ll, st, la, rfl, rfl, rfl, nnl, nll, hne, la1, la2, hnl, hll, hla, hst⟩
    have hst1 : NdAt H1 st (a, b, []) := hst.ex (hideP_ex _ _)
    have heq : ∀ (x : Pl), x.kd = x.kd := fun _ => rfl
    refine q_when (b := !decide (gapR d (a, b, []) = some ([], []))) (et_neG (due := ([], [])) (er_lgapOf (q := pl) (ev_var rfl) (ev_ixL (i := 0) (ev_var rfl) ev_c (SqL.of hnl) rfl) (hP.ex e1) hO hst1 (by rw [hdd]; exact hso.ndin hA hB)) (fun _ _ _ r => by rw [hdd] at r; exact r) (er_gap (xs := []) (ys := []) (el_lst ea_nil (by simp)) (el_lst ea_nil (by simp))) (fun x Ha Hb ea eb r => r) (fun x hx => (gapR_in hso hA hB hx).ok hd) ⟨(fun x hx => nomatch hx), fun x hx => nomatch hx⟩) (fun hb H2 e2 => ?_) fun hb H2 e2 => ?_
    · have hne : ¬ gapR d (a, b, []) = some ([], []) := of_decide_eq_false (by simpa using hb)
      unfold searchR at q
      rw [if_neg hne] at q
      refine s_retR (er_apart (l := []) (el_lst ea_nil (by simp))) fun v H3 e3 r => q v H3 ((e1.trans e2).trans e3) ?_
      obtain ⟨t, p', rfl, f1, f2, g1, g2⟩ := r
      exact ⟨t, p', rfl, fresh_back (e1.trans e2) f1, fresh_back (e1.trans e2) f2, g1, g2⟩
    have hg0 : gapR d (a, b, []) = some ([], []) := of_decide_eq_true (by simpa using hb)
    unfold searchR at q
    rw [if_pos hg0] at q
    generalize hres : K64.outer (gapR d) (leadsR d) lim (lim + 1) [(a, b, [])] [[]] 0 = res at q
    have hPm : ∀ x, Pm3 nl ll ll x → H x = none := by
      rintro x (rfl | rfl | rfl)
      · exact nnl
      · exact nll
      · exact nll
    have ci0 : LInv lim H nl ll H1 [(a, b, [])] [[]] [st] [la] := by
      refine ⟨ex_hideP e1 hPm, hnl, hll, .cons hst .nil, .cons ?_ .nil, rfl, by simpa using hl1, fun i l hi => ?_⟩
      · refine (hideP_ne ?_).trans hla
        rintro (e | e | e)
        · exact la1 e
        · exact la2 e
        · exact la2 e
      · have hi' := List.getElem?_eq_some_iff.mp hi
        obtain ⟨hlt, hl⟩ := hi'
        have : i = 0 := by simpa using hlt
        subst this
        have : l = [] := hl.symm
        subst this
        exact Nat.le_refl _
    have si0 : SInv (gapR d) (leadsR d) (NodeOk d a b) (a, b, []) [(a, b, [])] 0 := SInv.start hso hg0
    have hstep : ∀ n g, NodeOk d a b n → gapR d n = some g → ∀ r ∈ leadsR d n g, NodeOk d a b r.2.1 := fun n g hn hg r hr => by
      obtain ⟨k, hk, rfl⟩ := List.mem_map.mp hr
      exact hn.step (nextK_mem hk)
    let W : Nat → L2.St → Hp → Prop := fun m σ' H' => ∃ (at_ f : Nat) (ns : List Nd) (ls : List (List Str)) (nt lts : List Addr) (y7 y8 y9 : Option V), m = f ∧ σ' = [some (.ref D), some (.ref p), some (.ref r), some (.int (lim : Int)), some (.ref nl), some (.ref ll), some (.int (at_ : Int)), y7, y8, y9] ∧
      LInv lim H nl ll H' ns ls nt lts ∧ SInv (gapR d) (leadsR d) (NodeOk d a b) (a, b, []) ns at_ ∧ f + at_ = lim + 1 ∧ K64.outer (gapR d) (leadsR d) lim f ns ls at_ = res
    refine q_while W (lim + 1) ⟨0, lim + 1, _, _, _, _, none, none, none, rfl, rfl, ci0.ex e2, si0, rfl, hres⟩ ?_
    rintro m σ' H5 ⟨at_, f, ns, ls, nt, lts, y7, y8, y9, rfl, rfl, ci, si, hf, hou⟩
    have hlq := Paired.length ci.no
    refine ⟨decide (at_ < ns.length), et_is (et_B (ev_op (ev_var rfl) (ev_len (ev_var rfl) (SqL.of ci.hnl)) rv_I0)) (by simp [hlq]), fun hb H6 e6 => ?_, fun hb H6 e6 => ?_⟩
    rotate_left
    · have hb := of_decide_eq_false hb
      rw [outer_end (by omega)] at hou
      subst hou
      have ci6 := ci.ex e6
      refine s_retR (er_u (eu_tup (ea_cons ev_c (ea_cons (ev_var rfl) ea_nil)) (by simp))) fun v H7 e7 ⟨t, ev, ht, ht'⟩ => q v H7 (ci6.old.trans e7) ⟨t, nl, nt, ev, fresh_back ci6.old ht, ht', (ci6.ex e7).hnl, paired_nx (ci6.ex e7).no (hideP_ex _ _)⟩
    have hat := of_decide_eq_true hb
    obtain ⟨f2, ef2⟩ : ∃ f', m = f' + 1 := ⟨m - 1, by have := ci.len; omega⟩
    subst ef2
    have hn : ns[at_]? = some ns[at_] := List.getElem?_eq_getElem hat
    have hln : ls[at_]? = some (ls[at_]'(by have := ci.eq; omega)) := List.getElem?_eq_getElem (by have := ci.eq; omega)
    generalize ns[at_] = n at hn
    generalize (ls[at_]'(by have := ci.eq; omega)) = line at hln
    have hnm := List.mem_of_getElem? hn
    have ho := si.good n hnm
    obtain ⟨g, hg⟩ := si.gp n hnm
    rw [outer_go hn hln hg] at hou
    have hgi := gapR_in ho hA hB hg
    have ci6 := ci.ex e6
    obtain ⟨t, htx, htn⟩ := ci6.node hn
    refine ⟨fun σ' H' => ∃ m', m' < f2 + 1 ∧ W m' σ' H', fun _ _ h => h, ?_⟩
    generalize hin : inner (gapR d) lim line (leadsR d n g) ns ls = tgt at hou
    have hP6 := hP.ex ci6.old
    have htn6 : NdAt H6 t n := htn.ex (hideP_ex _ _)
    refine q_forNLg (er_leads (q := pl) (a := a) (b := b) (n := n) (g := g) (ev_var rfl) (ev_ixL (ev_var rfl) (ev_var rfl) (SqL.of ci6.hnl) htx) (EvR.imp (er_lgapOf (q := pl) (ev_var rfl) (ev_ixL (ev_var rfl) (ev_var rfl) (SqL.of ci6.hnl) htx) hP6 hO htn6 (by rw [hdd]; exact ho.ndin hA hB)) fun v Ha Hb _ _ r => by rw [hdd, hg] at r; exact r) hP6 hO (by rw [hdd]; exact hA) (by rw [hdd]; exact hB) htn6 (by rw [hdd]; exact ho) (by rw [hdd]; exact hgi)) ?_
    rintro v H7 e7 ⟨pk, ts, rfl, hpk, hpk', hts⟩
    rw [hdd] at hts
    have ci7 := ci6.ex e7
    have hnt : nt ≠ [] := fun e => by
      rw [e] at hlq
      have : ns.length = 0 := by simpa using hlq.symm
      omega
    have hlt0 : lts ≠ [] := fun e => by
      have := Paired.length ci.li
      have := ci.eq
      rw [e] at *
      simp at *
      omega
    have hlr := Paired.length hts
    refine ⟨pk, rvs ts, rfl, hpk', fun i σ' H' => ∃ (ns' : List Nd) (ls' : List (List Str)) (nt' : List Addr) (lts' : List Addr) (y7 y8 y9 : Option V), σ' = [some (.ref D), some (.ref p), some (.ref r), some (.int (lim : Int)), some (.ref nl), some (.ref ll), some (.int (at_ : Int)), y7, y8, y9] ∧
        LInv lim H nl ll H' ns' ls' nt' lts' ∧ inner (gapR d) lim line ((leadsR d n g).drop i) ns' ls' = tgt ∧ hid nl ll ll H' pk = some (.lst (rvs ts)) ∧ Paired (LeadAt (hid nl ll ll H')) ts (leadsR d n g) ∧ ls'[at_]? = some line,
      ⟨ns, ls, nt, lts, _, _, _, rfl, ci7, hin, hid_new ci6.there hpk hpk', Paired.mapP hts fun x y z => lead_hid ci7.hnl ci7.hll hnt hlt0 z, hln⟩, ?_, ?_, ?_⟩
    · rintro i σ' H' _ ⟨ns', ls', nt', lts', y7, y8, y9, rfl, ci', _, hk, _⟩
      exact SqL.of (hideP_ex _ _ _ _ hk)
    · rintro i x σ' H8 hx ⟨ns', ls', nt', lts', y7, y8, y9, rfl, ci', hi', hk', hts', hl'⟩
      have hits : i < ts.length := by
        have := (List.getElem?_eq_some_iff.mp hx).1
        rw [List.length_map] at this
        exact this
      obtain ⟨⟨k, later, due⟩, hri, hlead⟩ := paired_at hts' (List.getElem?_eq_getElem hits)
      have hx' : x = .ref ts[i] := by
        rw [List.getElem?_map, List.getElem?_eq_getElem hits] at hx
        exact (Option.some.inj hx).symm
      subst hx'
      have hrm := List.mem_of_getElem? hri
      obtain ⟨k0, hk0, hke⟩ := List.mem_map.mp hrm
      obtain ⟨rfl, rfl, rfl⟩ : k0 = k ∧ (stepP d n g k0).1 = later ∧ (stepP d n g k0).2 = due := by
        have := Prod.mk.inj hke
        exact ⟨this.1, by rw [this.2], by rw [this.2]⟩
      have hks := nextK_mem hk0
      obtain ⟨hil, hie⟩ := List.getElem?_eq_some_iff.mp hri
      have hdrop : (leadsR d n g).drop i = (k0, (stepP d n g k0).1, (stepP d n g k0).2) :: (leadsR d n g).drop (i + 1) := by
        rw [List.drop_eq_getElem_cons hil, hie]
      rw [hdrop, inner_cons] at hi'
      have ho' := ho.step (g := g) hks
      obtain ⟨u, pd, htup, hu, hpd⟩ := hlead
      refine get3 (st_of (hideP_ex _ _ _ _ htup)) ?_
      have hu8 : NdAt H8 u (stepP d n g k0).1 := hu.ex (hideP_ex _ _)
      have hpd8 : GapAt H8 pd (stepP d n g k0).2 := hpd.ex (hideP_ex _ _)
      refine q_when (b := !decide (gapR d (stepP d n g k0).1 = some (stepP d n g k0).2)) (et_neG (er_lgapOf (q := pl) (ev_var rfl) (ev_var rfl) (hP.ex ci'.old) hO hu8 (by rw [hdd]; exact ho'.ndin hA hB)) (fun _ _ _ r => by rw [hdd] at r; exact r) (er_v (ev_var rfl)) (fun x Ha Hb ea eb r => ⟨pd, r, hpd8.ex (ea.trans eb)⟩) (fun x hx => (gapR_in ho' hA hB hx).ok hd) (due_ok hd hgi hks)) (fun hb H10 e10 => ?_) fun hb H10 e10 => ?_
      · have hne : ¬ gapR d (stepP d n g k0).1 = some (stepP d n g k0).2 := of_decide_eq_false (by simpa using hb)
        rw [if_neg hne] at hi'
        subst hi'
        subst hou
        have ci10 := ci'.ex e10
        obtain ⟨lt, hlx, hlt⟩ := ci10.line hl'
        have hlb := ci10.lb _ _ hl'
        have := ci10.len
        have := ci10.eq
        have := (List.getElem?_eq_some_iff.mp hl').1
        refine s_retR (er_apart (l := line ++ [k0]) (el_is (el_catV (ev_ixL (ev_var rfl) (ev_var rfl) (SqL.of ci10.hll) hlx) (hideP_ex _ _ _ _ hlt) (el_lst (ea_cons (ev_var rfl) ea_nil) (by simp)) (by rw [svs_len]; simp; omega)) (by simp))) fun v H11 e11 rr => q v H11 (ci10.old.trans e11) ?_
        obtain ⟨t', p', rfl, w1, w2, w3, w4⟩ := rr
        exact ⟨t', p', rfl, fresh_back ci10.old w1, fresh_back ci10.old w2, w3, w4⟩
      have heq : gapR d (stepP d n g k0).1 = some (stepP d n g k0).2 := of_decide_eq_true (by simpa using hb)
      rw [if_pos heq] at hi'
      have ci10 := ci'.ex e10
      have hlq' := Paired.length ci10.no
      refine s_if (b := !decide ((stepP d n g k0).1 ∈ ns')) (et_B (ev_niNd (ev_var rfl) (ev_var rfl) (hu8.ex e10) ci10.hnl (paired_nx ci10.no (hideP_ex _ _)))) (fun hb H11 e11 => ?_) fun hb H11 e11 => ?_
      · have hnot : ¬ (stepP d n g k0).1 ∈ ns' := of_decide_eq_false (by simpa using hb)
        rw [if_neg hnot] at hi'
        have ci11 := ci10.ex e11
        refine q_when (b := decide (ns'.length = lim)) (et_is (et_B (ev_op (ev_len (ev_var rfl) (SqL.of ci11.hnl)) (ev_var rfl) (rv_eq rfl))) (by simp [hlq']; omega)) (fun hb H12 e12' => ?_) fun hb H12 e12' => ?_
        · have hlm := of_decide_eq_true hb
          rw [if_pos hlm] at hi'
          subst hi'
          subst hou
          have ci12 := ci11.ex e12'
          refine s_retR (er_u (eu_tup (ea_cons ev_c (ea_cons (ev_var rfl) ea_nil)) (by simp))) fun v H13 e13 ⟨t, ev, ht, ht'⟩ => q v H13 (ci12.old.trans e13) ⟨t, ev, fresh_back ci12.old ht, ht'⟩
        · have hlm := of_decide_eq_false hb
          rw [if_neg hlm] at hi'
          have ci12 := ci11.ex e12'
          have e812 := (e10.trans e11).trans e12'
          have lns := ci12.len
          have leq := ci12.eq
          have hat' := (List.getElem?_eq_some_iff.mp hl').1
          have hlb := ci12.lb _ _ hl'
          refine q_app ci12.hnl (ev_var rfl) (ev_var rfl) (by rw [List.length_map]; omega) fun H13 e13 => ?_
          have ci13 := ci12.ex e13
          have hll13 : upd H13 nl (.lst (rvs nt' ++ [.ref u])) ll = some (.lst (rvs lts')) := by
            rw [upd_ne hne.symm]
            exact ci13.hll
          have hlq13 := Paired.length ci13.li
          obtain ⟨lt, hlx, hlt⟩ := ci13.line hl'
          have hltn : lt ≠ nl := fun e => by
            rw [e] at hlt
            have z3 : hid nl ll ll H13 nl = none := hideP_yes (.inl rfl)
            rw [z3] at hlt
            cases hlt
          have hlt13 : upd H13 nl (.lst (rvs nt' ++ [.ref u])) lt = some (.lst (svs line)) := by
            rw [upd_ne hltn]
            exact hideP_ex _ _ _ _ hlt
          refine s_appL (ys := svs (line ++ [k0])) hll13 (ev_var rfl) (el_is (el_catV (ev_ixL (ev_var rfl) (ev_var rfl) (SqL.of hll13) hlx) hlt13 (el_lst (ea_cons (ev_var rfl) ea_nil) (by simp)) (by rw [svs_len]; simp; omega)) (by simp)) (by rw [List.length_map]; omega) fun lp H15 hlp e15 hlp' => ?_
          have x2 : Ex (hid nl ll ll H13) (hid nl ll ll H15) := by
            have := hideP_mono (Q := Pm3 nl ll ll) e15
            rw [show hideP (Pm3 nl ll ll) (upd H13 nl (.lst (rvs nt' ++ [.ref u]))) = hid nl ll ll H13 from hid_nl] at this
            exact this
          have x8 : Ex (hid nl ll ll H8) (hid nl ll ll (upd H15 ll (.lst (rvs lts' ++ [.ref lp])))) := by
            rw [hid_ll]
            exact (hideP_mono (e812.trans e13)).trans x2
          have x13 : Ex (hid nl ll ll H13) (hid nl ll ll (upd H15 ll (.lst (rvs lts' ++ [.ref lp])))) := by
            rw [hid_ll]
            exact x2
          have hlp15 : hid nl ll ll (upd H15 ll (.lst (rvs lts' ++ [.ref lp]))) lp = some (.lst (svs (line ++ [k0]))) := by
            rw [hid_ll]
            refine hid_new (Ha := upd H13 nl (.lst (rvs nt' ++ [.ref u]))) ?_ hlp hlp'
            rintro b (rfl | rfl | rfl)
            · rw [upd_same]; simp
            · rw [hll13]; simp
            · rw [hll13]; simp
          refine ⟨ns' ++ [(stepP d n g k0).1], ls' ++ [line ++ [k0]], nt' ++ [u], lts' ++ [lp], _, _, _, rfl, ⟨ci13.base.trans x13, ?_, ?_, ?_, ?_, by simp [leq], by rw [List.length_append, List.length_singleton]; omega, lb_snoc ci13.lb hl'⟩, hi', x8 _ _ hk', Paired.mapP hts' fun x y z => z.ex x8, ?_⟩
          · rw [upd_ne hne, e15 _ _ upd_same]
            simp
          · rw [upd_same]
            simp
          · exact paired_snoc (paired_nx ci13.no x13) (hu.ex x8)
          · exact paired_snoc (Paired.mapP ci13.li fun _ _ z => x13 _ _ z) hlp15
          · rw [List.getElem?_append_left hat']
            exact hl'
      · have hmem : (stepP d n g k0).1 ∈ ns' := of_decide_eq_true (by simpa using hb)
        rw [if_pos hmem] at hi'
        have ci11 := ci10.ex e11
        have eh := hideP_mono (Q := Pm3 nl ll ll) (e10.trans e11)
        exact ⟨ns', ls', nt', lts', _, _, _, rfl, ci11, hi', eh _ _ hk', Paired.mapP hts' fun x y z => z.ex eh, hl'⟩
    · rintro σ' H8 ⟨ns', ls', nt', lts', y7, y8, y9, rfl, ci', hi', hk', hts', hl'⟩
      rw [List.drop_of_length_le (by rw [List.length_map]; omega)] at hi'
      have hi' : Inn.go ns' ls' = tgt := hi'
      subst hi'
      refine s_aug rfl ev_c fun H9 e9 => ⟨f2, by omega, at_ + 1, f2, ns', ls', nt', lts', _, _, _, rfl, rfl, ci'.ex e9, si.turn hstep hn hg hin, by omega, hou⟩
end
end K64
set_option Elab.async false
set_option linter.all false
set_option maxRecDepth 100000
set_option maxHeartbeats 4000000
/-! Suits.__init__, _law_suits. -/
namespace K64
open PySem PySem.Spec PyProof.Rows L2 Evl
section
variable {P : Program} {w : World} {K : PySem.W.Frag} {mg : Str → Option Value} {base : Heap}
theorem mak_k {x qual : Str} {C : Addr} {params : Arguments} {body : List Stmt} {scope : Scope} {f : Addr} {N ps : List Str} {k : Nat} {sp : Sp} (M : Mk K C f) (hm : mg x = some (.ref C)) (F : ∃ fd, FunD K "__init__" qual params body scope [] [] f fd) (S : FnScope N ps scope)
    (hb : ∀ (kV doc pm : Value) (an : Option Addr) (cdv ct : Value) (us : List Value), us.length = ps.length → bindArgs (PySem.W.fnOf "__init__" qual params body scope .none kV doc pm an cdv ct) ⟨us, []⟩ = pure (ps.zip us))
    (len : ∀ vs H Q E, sp vs H Q E → vs.length = ps.length)
    (hbody : ∀ (cdv : Value) (A : Around) (outer : List Env) (s : Shared) (H : Hp) (vs : List V) (Q : VK) (E : XK), Room k (A.deeper (envOfC qual scope s.heap.objs.size f cdv)) → sp vs H Q E →
      ∃ t, PSs (cxOf C8.CX0 P w K mg base N qual scope f cdv A outer s H E).nox body t ∧ t { nx := fun _ H' => Q .non H', rt := Q } (start N vs) H) : C8.Mak P w K mg base (k + 1) x C sp [] := by
  obtain ⟨fd, F⟩ := F
  exact ⟨f, fd, ps, [], M, fn_k F S len hbody, hm, F.bindsN hb, .nil⟩
theorem er_sortedV {β : Type} [DecidableEq β] [PySem.W.Datum β] {σ : L2.St} {H : Hp} {te : TE} {F : Addr → β → Hp → Prop} {bs : List β} {p : Addr} {ps : List Addr} (hd : ∀ a b A, F a b A → Dp K A (.ref a) (PySem.W.Datum.toD b)) (hF : ∀ a b A B, Ex A B → F a b A → F a b B) (hal : PySem.W.AllAlike (bs.map PySem.W.Datum.toD)) (hs : PySem.W.Sortable (bs.map PySem.W.Datum.toD)) (hz : bs.length ≤ 100000) (hdp : PySem.W.Datum.depth β ≤ 40)
    (h : Ev te σ H (.ref p)) (hp0 : H p = some (.lst (rvs ps))) (hps0 : Paired (fun a b => F a b H) ps bs) : EvR (tCB (rSortedD K) (tCons te tNil)) σ H (RObjs F (bs.mergeSort (PySem.W.dataLe (β := β) false fun b => PySem.W.Datum.toD b))) := fun H1 e Q q =>
  h H1 e _ fun H2 e2 => by
    have hp' := (e.trans e2) _ _ hp0
    have hps : Paired (fun a b => F a b H2) ps bs := Paired.mapP hps0 fun a b z => hF _ _ _ _ (e.trans e2) z
    have hl := Paired.length hps
    have z1 : ((rvs ps).zip bs).map Prod.fst = rvs ps := List.map_fst_zip (by rw [List.length_map]; omega)
    have z2 : ((rvs ps).zip bs).map Prod.snd = bs := List.map_snd_zip (by rw [List.length_map]; omega)
    have hm : ∀ z ∈ (rvs ps).zip bs, ∃ a, z.1 = .ref a ∧ F a z.2 H2 := fun z hz => paired_zip hps hz
    refine ⟨p, β, fun b => PySem.W.Datum.toD b, (rvs ps).zip bs, rfl, SqL.of (by rw [z1]; exact hp'), fun z hz => ?_, by rw [show ((rvs ps).zip bs).map (fun z => PySem.W.Datum.toD z.2) = (((rvs ps).zip bs).map Prod.snd).map PySem.W.Datum.toD by rw [List.map_map]; rfl, z2]; exact hal, by rw [show ((rvs ps).zip bs).map (fun z => PySem.W.Datum.toD z.2) = (((rvs ps).zip bs).map Prod.snd).map PySem.W.Datum.toD by rw [List.map_map]; rfl, z2]; exact hs, by rw [List.length_zip, List.length_map]; omega, fun z hz => Nat.le_trans (PySem.W.Datum.depth_le _) hdp, fun t ht => ?_⟩
    · obtain ⟨a, ea, ha⟩ := hm z hz
      rw [ea]
      exact hd a z.2 H2 ha
    · have en := Ex.new (o := HO.lst ((((rvs ps).zip bs).mergeSort (PySem.W.dataLe false fun z => PySem.W.Datum.toD z.2)).map Prod.fst)) ht
      refine q _ _ (e2.trans en) ?_
      have hs2 : (((rvs ps).zip bs).mergeSort (PySem.W.dataLe false fun z => PySem.W.Datum.toD z.2)).map Prod.snd = bs.mergeSort (PySem.W.dataLe (β := β) false fun b => PySem.W.Datum.toD b) := by
        conv => rhs; rw [← z2]
        exact List.map_mergeSort fun a _ b _ => rfl
      have hm2 : ∀ z ∈ ((rvs ps).zip bs).mergeSort (PySem.W.dataLe false fun z => PySem.W.Datum.toD z.2), ∃ a, z.1 = .ref a ∧ F a z.2 (upd H2 t (.lst ((((rvs ps).zip bs).mergeSort (PySem.W.dataLe false fun z => PySem.W.Datum.toD z.2)).map Prod.fst))) := fun z hz => by
        obtain ⟨a, h1, h2⟩ := hm z ((List.mergeSort_perm _ _).mem_iff.mp hz)
        exact ⟨a, h1, hF _ _ _ _ en h2⟩
      have h5 := paired_of_mem (F := fun a b => F a b (upd H2 t (.lst ((((rvs ps).zip bs).mergeSort (PySem.W.dataLe false fun z => PySem.W.Datum.toD z.2)).map Prod.fst)))) hm2
      rw [hs2] at h5
      obtain ⟨qs, h6, h7⟩ := paired_refs h5
      refine ⟨t, qs, rfl, fresh_back e2 ht, ?_, h7⟩
      rw [upd_same, h6]
theorem alike_pairs (p q : Str × Str) : PySem.W.alike (PySem.W.Datum.toD p) (PySem.W.Datum.toD q) = true := by
  show PySem.W.alike (.tuple [.str _, .str _]) (.tuple [.str _, .str _]) = true
  simp [PySem.W.alike, PySem.W.alikeAll]
/-! ### Suits.__init__ -/
def spInit (K : PySem.W.Frag) : Sp := fun vs H Q _ => ∃ (S kl pl dx : Addr) (q : Pl) (pa : List Addr), vs = [.ref S, .ref kl, .ref pl] ∧ H S = some (.ins (He.ga K "Suits") dx []) ∧ PlOk q ∧ H kl = some (.lst (svs q.ks)) ∧ H pl = some (.lst (rvs pa)) ∧ Paired (PairAt H) pa q.ps ∧ ∀ H', Ex (hideA S H) H' → Su K H' S q.kd → Q .non H'
theorem ev_diff {σ : L2.St} {H : Hp} {te : TE} {E : XK} {l : Addr} {ks : List Str} (h : Ev te σ H (.ref l)) (hl : H l = some (.lst (svs ks))) (hn : ks.Nodup) (hz : ks.length ≤ 60) : Ev (tCall spDiff [] E (tCons te tNil)) σ H (.bl true) := ev_of (er_callA (ea_cons h ea_nil) (fun H1 e => ⟨l, ks, rfl, e _ _ hl, hn, hz, rfl⟩) bk_v)
def ordP (p : Str × Str) : Str × Str := ord2 p.1 p.2
theorem s_fldR {σ : L2.St} {H : Hp} {D : Ends} {ta tv : TE} {f : Str} {R : Rel} {S dx C : Addr} {fs : List (Str × V)} (hv : EvR tv σ H R) (ha : Ev ta σ H (.ref S)) (hS : H S = some (.ins C dx fs)) (hc : Cls K C) (hn : NoAttr K C f) (hl : fs.length < 1000)
    (k : ∀ v H1 H2, Ex H H1 → Ex H1 H2 → R v H H1 → D.nx σ (upd H2 S (.ins C dx (putF f v fs)))) : sFld K ta tv f D σ H := hv H (Ex.refl H) _ fun v H1 e1 r => ha H1 e1 _ fun H2 e2 => ⟨S, C, dx, fs, rfl, e2 _ _ (e1 _ _ hS), hc, hn, hl, k v H1 H2 e1 e2 r⟩
theorem q_fldR {σ : L2.St} {H : Hp} {D : Ends} {tz : TS} {ta tv : TE} {f : Str} {R : Rel} {S dx C : Addr} {fs : List (Str × V)} (hv : EvR tv σ H R) (ha : Ev ta σ H (.ref S)) (hS : H S = some (.ins C dx fs)) (hc : Cls K C) (hn : NoAttr K C f) (hl : fs.length < 1000)
    (k : ∀ v H1 H2, Ex H H1 → Ex H1 H2 → R v H H1 → tz D σ (upd H2 S (.ins C dx (putF f v fs)))) : tSeq (sFld K ta tv f) tz D σ H := s_fldR (D := { D with nx := tz D }) hv ha hS hc hn hl k
theorem put1 (v : V) : putF "its_kinds" v [] = [(("its_kinds" : Str), v)] := rfl
theorem put2 (v x : V) : putF "its_pairs" x [(("its_kinds" : Str), v)] = [(("its_kinds" : Str), v), (("its_pairs" : Str), x)] := by
  unfold putF
  rw [if_neg (by decide)]
  rfl
theorem put3 (v x y : V) : putF "its_mates" y [(("its_kinds" : Str), v), (("its_pairs" : Str), x)] = [(("its_kinds" : Str), v), (("its_pairs" : Str), x), (("its_mates" : Str), y)] := by
  unfold putF
  rw [if_neg (by decide)]
  unfold putF
  rw [if_neg (by decide)]
  rfl
theorem sc_S_init : FnScope ["self", "kinds", "pairs", "found", "at", "item", "pair", "kind"] ["self", "kinds", "pairs"] (defScope s_S_init) := C8.fnScope_by (by decide +kernel)
theorem ok_S_init (T : Tp K mg) (F : FD K d_S_init) (c_are_kinds : C8.Cal P w K mg base 2 "are_kinds" spAreKinds []) (c_are_different : C8.Cal P w K mg base 1 "are_different" spDiff []) (c_in_order : C8.Cal P w K mg base 1 "in_order" spIn_order []) (c_S_mates_in : C8.Met P w K mg base 2 (He.ga K "Suits") "mates_in" (spMates_in K) []) : C8.Mak P w K mg base 3 "Suits" (He.ga K "Suits") (spInit K) [] := by
  refine mak_k T.maker T.g_Suits F sc_S_init (fun _ _ _ _ _ _ us hl => match us, hl with | [_, _, _], _ => rfl) (fun vs H Q E h => ?_) (fun cdv A outer s H vs Q E hr h => ?_)
  · obtain ⟨S, kl, pl, dx, q, pa, rfl, _⟩ := h
    rfl
  · obtain ⟨S, kl, pl, dx, pq, pa, rfl, hS, hO, hkl, hpl, hpa, q⟩ := h
    have hlk := hO.len
    have hlk1 := hO.pos
    have hlp := hO.plen
    have hpl' := Paired.length hpa
    have hC := T.cl
    refine ⟨_, (pss_cons (ps_if (PW.pt (pw_or (pt_not (pt_val (C8.pe_c c_are_kinds hr (by decide) (by rfl) (pa_cons (pv 1) pa_nil)))) (pw_or (pt_not (pt_chain op_le op_le pe_int (pe_callB (k_len (K := K) rfl) (by rfl) T.f_len PySem.boot_len (pa_cons (pv 1) pa_nil)) (pe_gi T.i_MOST_KINDS))) (pw_or1 (pt_not (pt_val (C8.pe_c c_are_different hr (by decide) (by rfl) (pa_cons (pv 1) pa_nil))))))))
  (pss_one ps_never)
  pss_nil)
  (pss_cons (ps_if (PW.pt (pw_or (pt_not (pt_val (pe_callB (k_isi (K := K) rfl) (by rfl) T.f_isinstance boot_isinstance (pa_cons (pv 2) (pa_cons (pe_bltn (by rfl) T.f_list (by decide +kernel) (v := .ty "list") rfl) pa_nil))))) (pw_or1 (pt_cmpR op_gt (pe_callB (k_len (K := K) rfl) (by rfl) T.f_len PySem.boot_len (pa_cons (pv 2) pa_nil)) (pe_gi T.i_MOST_PAIRS) (nomark _)))))
  (pss_one ps_never)
  pss_nil)
  (pss_cons (ps_set (i := 3) (sc_S_init).nd rfl (.inr rfl) (pe_lst pa_nil))
  (pss_cons (ps_for PassesOwn.never rfl (k_piEnum (K := K) rfl (by rfl) T.f_enumerate (pa_cons (pv 2) pa_nil)) (k_pgTup (K := K) rfl rfl (pgs_cons (pg_name (i := 4) (sc_S_init).nd rfl (.inl rfl)) (pgs_cons (pg_name (i := 5) (sc_S_init).nd rfl (.inl rfl)) pgs_nil)))
  (pss_cons (ps_if (PW.pt (pw_or (pt_not (pt_val (pe_callB (k_isi (K := K) rfl) (by rfl) T.f_isinstance boot_isinstance (pa_cons (pv 5) (pa_cons (pe_bltn (by rfl) T.f_tuple (by decide +kernel) (v := .ty "tuple") rfl) pa_nil))))) (pw_or (pt_cmpR op_ne (pe_callB (k_len (K := K) rfl) (by rfl) T.f_len PySem.boot_len (pa_cons (pv 5) pa_nil)) pe_int (nomark _)) (pw_or (pt_cmpR (k_notIn (K := K) rfl) (pe_ix (k_ixT (K := K) rfl) (pv 5) pe_int (fun _ _ => rfl)) (pv 1) (by rfl)) (pw_or1 (pt_cmpR (k_notIn (K := K) rfl) (pe_ix (k_ixT (K := K) rfl) (pv 5) pe_int (fun _ _ => rfl)) (pv 1) (by rfl)))))))
  (pss_one ps_never)
  pss_nil)
  (pss_cons (ps_set (i := 6) (sc_S_init).nd rfl (.inl rfl) (C8.pe_c c_in_order hr (by decide) (by rfl) (pa_cons (pe_ix (k_ixT (K := K) rfl) (pv 5) pe_int (fun _ _ => rfl)) (pa_cons (pe_ix (k_ixT (K := K) rfl) (pv 5) pe_int (fun _ _ => rfl)) pa_nil))))
  (pss_cons (ps_if (pt_cmpR (k_inD (K := K) rfl hr) (pv 6) (pv 3) (by rfl))
  (pss_one ps_never)
  pss_nil)
  (pss_one (ps_expr (k_bm (K := K) rfl PySem.F.plainAttrs_list PySem.F.slot_list_append PySem.F.type_list_append mt_append (pv 3) (pa_cons (pv 6) pa_nil))))))))
  (pss_cons (ps_fld (pv 0) (pe_callB (k_sortedS (K := K) rfl) (by rfl) T.f_sorted boot_sorted (pa_cons (pv 1) pa_nil)) rfl)
  (pss_cons (ps_fld (pv 0) (pe_callB (k_sortedD (K := K) rfl hr) (by rfl) T.f_sorted boot_sorted (pa_cons (pv 3) pa_nil)) rfl)
  (pss_one (ps_fld (pv 0) (pe_dc (own := [("kind", 7)]) (g := (gName 7)) (by rfl) (sc_S_init).nd (k_piList (K := K) rfl (k_fld (K := K) rfl (pv 0) rfl)) (blkOk_by (own := [("kind", 7)]) (N := ["self", "kinds", "pairs", "found", "at", "item", "pair", "kind"]) (sc := defScope s_S_init) (by decide +kernel)) (fun _ _ _ _ _ => (pg_name (i := 7) (sc_S_init).nd rfl (by first | exact .inl rfl | exact .inr rfl))) (fun _ _ _ _ _ => pts_nil) (fun _ _ _ _ _ => (pv 7)) (fun _ _ _ _ _ => (C8.pe_mt c_S_mates_in hr (by decide) (pv 0) (pa_cons (pv 3) (pa_cons (pv 7) pa_nil))))) rfl)))))))), ?_⟩
    have c2 : EvT (tTest (tChain _ _ _ _ _)) [some (.ref S), some (.ref kl), some (.ref pl), none, none, none, none, none] H true := et_test (ev_is (ev_chain (a := decide ((1 : Int) ≤ ((svs pq.ks).length : Int))) ev_c (ev_len (K := K) (xs := svs pq.ks) (ev_var (i := 1) rfl) (SqL.of hkl)) (ev_c (v := .int 8)) (rv_I0 (g := fun i j => .bl (decide (i ≤ j)))) (rv_I0 (g := fun i j => .bl (decide (i ≤ j))))) (by rw [svs_len, decide_eq_true (by omega), if_pos rfl, decide_eq_true (by omega)]))
    refine q_when (b := false) (et_is (et_or (a := false) (b := false) (et_is (et_not (a := true) (et_B (ev_areKinds (ev_var rfl) hkl (by omega) hO.good))) rfl) fun _ => et_is (et_or (a := false) (b := false) (et_is (et_not (a := true) c2) rfl) fun _ => et_is (et_not (a := true) (et_B (ev_diff (ev_var rfl) hkl hO.nd (by omega)))) rfl) rfl) rfl) (fun h => nomatch h) fun _ H1 e1 => ?_
    refine q_when (b := false) (et_is (et_or (a := false) (b := false) (et_is (et_not (a := true) (et_B (ev_isi (b := true) (ev_var rfl) (fun _ e => tyx_lst (e _ _ (e1 _ _ hpl))) (by decide +kernel)))) rfl) fun _ => et_is (et_B (ev_op (ev_len (ev_var rfl) (SqL.of (e1 _ _ hpl))) ev_c rv_I0)) (by rw [List.length_map]; simp; omega)) rfl) (fun h => nomatch h) fun _ H2 e2 => ?_
    have e12 := e1.trans e2
    refine q_asgL (el_lst ea_nil (by simp)) fun fl H3 hfl e3 h3 => ?_
    have e13 := e12.trans e3
    have nfl : H fl = none := fresh_back e12 hfl
    refine q_forEnum (Hc := H) (ea_cons (ev_var rfl) ea_nil) (SqL.of hpl) (fun i σ' H' => ∃ (y4 y5 y6 y7 : Option V) (fa : List Addr), σ' = [some (.ref S), some (.ref kl), some (.ref pl), some (.ref fl), y4, y5, y6, y7] ∧ Ex H (hideA fl H') ∧ H' fl = some (.lst (rvs fa)) ∧ Paired (PairAt (hideA fl H')) fa ((pq.ps.take i).map ordP))
      (fun H4 e4 => ⟨_, _, _, _, [], rfl, fun b o hb => ?_, e4 _ _ h3, .nil⟩) (fun i σ' H' h => ?_) ?_ ?_
    · rw [hideA_ne (ne_of_none hb nfl)]
      exact (e13.trans e4) _ _ hb
    · obtain ⟨_, _, _, _, _, _, h, _⟩ := h
      exact h.trans (hideA_ex _ _)
    · rintro i x σ' H4 t hx ⟨y4, y5, y6, y7, fa, rfl, ex, hf, hfp⟩ ht
      have hi : i < pa.length := by have := (List.getElem?_eq_some_iff.mp hx).1; rw [List.length_map] at this; exact this
      obtain ⟨pr, hpr, hpr2⟩ := paired_at hpa (List.getElem?_eq_getElem hi)
      have hx' : x = .ref pa[i] := by
        rw [List.getElem?_map, List.getElem?_eq_getElem hi] at hx
        exact (Option.some.inj hx).symm
      subst hx'
      have hfl' := Paired.length hfp
      rw [List.length_map, List.length_take] at hfl'
      have e5 : Ex H4 (upd H4 t (.tup [.int (i : Nat), .ref pa[i]])) := Ex.new ht
      generalize upd H4 t (.tup [.int (i : Nat), .ref pa[i]]) = H5 at e5
      have o5 : Ex H H5 := (ex.trans (hideA_ex _ _)).trans e5
      have hitem : H5 pa[i] = some (.tup [.str pr.1, .str pr.2]) := o5 _ _ hpr2
      obtain ⟨pin1, pin2⟩ := hO.pin pr (List.mem_of_getElem? hpr)
      refine q_when (b := false) (et_is (et_or (a := false) (b := false) (et_is (et_not (a := true) (et_B (ev_isi (b := true) (ev_var rfl) (fun _ e => tyx_tup (e _ _ hitem)) (by decide +kernel)))) rfl) fun _ => et_is (et_or (a := false) (b := false) (et_is (et_B (ev_op (ev_lenT (ev_var rfl) hitem) ev_c (rv_ne rfl))) rfl) fun _ => et_is (et_or (a := false) (b := false) (et_is (et_B (ev_niS (ev_ixT (i := 0) (ev_var rfl) ev_c hitem rfl) (ev_var rfl) (SqL.of (o5 _ _ hkl)))) (by simp [pin1])) fun _ => et_is (et_B (ev_niS (ev_ixT (i := 1) (ev_var rfl) ev_c hitem rfl) (ev_var rfl) (SqL.of (o5 _ _ hkl)))) (by simp [pin2])) rfl) rfl) rfl) (fun h => nomatch h) fun _ H6 e6 => ?_
      have hitem6 := e6 _ _ hitem
      refine q_asgR (er_callA (R := RU [.str (ordP pr).1, .str (ordP pr).2]) (ea_cons (ev_ixT (i := 0) (ev_var rfl) ev_c hitem6 rfl) (ea_cons (ev_ixT (i := 1) (ev_var rfl) ev_c hitem6 rfl) ea_nil)) (fun H7 _ => ⟨pr.1, pr.2, rfl, rfl⟩) bk_u) fun v H7 e7 ⟨pt, ev, hpt, hpt'⟩ => ?_
      subst ev
      have e47 := (e5.trans e6).trans e7
      have hf7 := e47 _ _ hf
      have hfp7 : Paired (PairAt H7) fa ((pq.ps.take i).map ordP) := Paired.mapP hfp fun a b z => e47 _ _ (hideA_ex _ _ _ _ z)
      have hnot : ordP pr ∉ (pq.ps.take i).map ordP := fun hm => by
        obtain ⟨y, hy, ey⟩ := List.mem_map.mp hm
        obtain ⟨j, hj, rfl⟩ := List.getElem_of_mem hy
        rw [List.length_take] at hj
        rw [List.getElem_take] at ey
        have hip := List.getElem?_eq_some_iff.mp hpr
        obtain ⟨hip, eip⟩ := hip
        have := nd_inj hO.pnd (i := j) (j := i) (by rw [List.length_map]; omega) (by rw [List.length_map]; omega) (by rw [List.getElem_map, List.getElem_map, eip]; exact ey)
        omega
      refine q_when (b := false) (et_B (ev_is (ev_op (ev_var rfl) (ev_var rfl) (fun H8 e8 Q' q' => ⟨fl, rvs fa, _, rfl, SqL.of (e8 _ _ hf7), .mk (α := Str × Str) (ordP pr) ((pq.ps.take i).map ordP) (dp_pair (e8 _ _ hpt')) (dp_pairs (Paired.mapP hfp7 fun a b z => e8 _ _ z)) (by decide), q' H8 (Ex.refl H8)⟩ : Evl.RV (rInD K false) _ _ H7 _)) (by rw [if_neg Bool.false_ne_true]; exact congrArg V.bl ((dec_eq _ _).trans (decide_eq_false hnot))))) (fun h => nomatch h) fun _ H8 e8 => ?_
      refine s_app (e8 _ _ hf7) (ev_var rfl) (ev_var rfl) (by rw [List.length_map]; omega) fun H9 e9 => ?_
      have e49 := (e47.trans e8).trans e9
      have ptf : pt ≠ fl := fun e => by
        rw [e, (e5.trans e6) _ _ hf] at hpt
        cases hpt
      refine ⟨_, _, _, _, fa ++ [pt], rfl, ?_, by rw [upd_same]; simp, ?_⟩
      · rw [hideA_upd]
        exact ex.trans (hideA_mono e49)
      · rw [hideA_upd, List.take_add_one, hpr, List.map_append]
        refine paired_snoc (Paired.mapP hfp fun a b z => hideA_mono e49 _ _ z) ?_
        show hideA fl H9 pt = _
        rw [hideA_ne ptf]
        exact e9 _ _ (e8 _ _ hpt')
    · rintro σ' H4 ⟨y4, y5, y6, y7, fa, rfl, ex, hf, hfp⟩
      rw [List.take_of_length_le (by rw [List.length_map]; omega)] at hfp
      have o4 : Ex H H4 := ex.trans (hideA_ex _ _)
      have hfp4 : Paired (PairAt H4) fa (pq.ps.map ordP) := Paired.mapP hfp fun a b z => hideA_ex _ _ _ _ z
      have hfl2 := Paired.length hfp4
      rw [List.length_map] at hfl2
      have hfS : fl ≠ S := fun e => by rw [e, hS] at nfl; cases nfl
      refine q_fldR (er_l (el_sorted (ev_var rfl) (o4 _ _ hkl) (by omega))) (ev_var rfl) (o4 _ _ hS) T.cl T.n_its_kinds (by simp) ?_
      rintro v H5 H6 e5 e6 ⟨k, rfl, hk, hk'⟩
      rw [put1]
      have kS : k ≠ S := fun e => by rw [e, o4 _ _ hS] at hk; cases hk
      have s7 : upd H6 S (.ins (He.ga K "Suits") dx [(("its_kinds" : Str), .ref k)]) S = some (.ins (He.ga K "Suits") dx [(("its_kinds" : Str), .ref k)]) := upd_same
      have k7 : upd H6 S (.ins (He.ga K "Suits") dx [(("its_kinds" : Str), .ref k)]) k = some (.lst (svs (sortS pq.ks))) := by
        rw [upd_ne kS]
        exact e6 _ _ hk'
      have x7 : Ex (hideA S H4) (hideA S (upd H6 S (.ins (He.ga K "Suits") dx [(("its_kinds" : Str), .ref k)]))) := by
        rw [hideA_upd]
        exact hideA_mono (e5.trans e6)
      generalize upd H6 S (.ins (He.ga K "Suits") dx [(("its_kinds" : Str), .ref k)]) = H7 at s7 k7 x7
      have g4 : ∀ {a : Addr} {o : HO}, H4 a = some o → a ≠ S → H7 a = some o := fun {a o} h hne => hideA_ex _ _ _ _ (x7 _ _ (by rw [hideA_ne hne]; exact h))
      have tupS : ∀ {a : Addr} {xs : List V} {Hx : Hp}, Hx S = H4 S → Hx a = some (.tup xs) → a ≠ S := fun {a xs Hx} h1 h2 e => by
        rw [e, h1, o4 _ _ hS] at h2
        cases h2
      have f7 : H7 fl = some (.lst (rvs fa)) := g4 hf hfS
      have fp7 : Paired (fun a b => FP a b H7) fa (pq.ps.map ordP) := Paired.mapP hfp4 fun a b z => g4 z (tupS rfl z)
      refine q_fldR (er_sortedV (F := FP) (bs := pq.ps.map ordP) (fun a b A h => dp_pair h) (fun a b A B e h => e _ _ h) (PySem.W.AllAlike.of fun a b => alike_pairs a b) (.inl fun dd hd => by
        obtain ⟨b, _, rfl⟩ := List.mem_map.mp hd
        exact ⟨_, _, rfl⟩) (by rw [List.length_map]; omega) (by decide) (ev_var rfl) f7 fp7) (ev_var rfl) s7 T.cl T.n_its_pairs (by simp) ?_
      rintro v H8 H9 e8 e9 ⟨p, pp, rfl, hp, hp', hpp⟩
      rw [put2]
      have pS : p ≠ S := fun e => by rw [e, s7] at hp; cases hp
      have s10 : upd H9 S (.ins (He.ga K "Suits") dx [(("its_kinds" : Str), .ref k), (("its_pairs" : Str), .ref p)]) S = some (.ins (He.ga K "Suits") dx [(("its_kinds" : Str), .ref k), (("its_pairs" : Str), .ref p)]) := upd_same
      have x10 : Ex (hideA S H7) (hideA S (upd H9 S (.ins (He.ga K "Suits") dx [(("its_kinds" : Str), .ref k), (("its_pairs" : Str), .ref p)]))) := by
        rw [hideA_upd]
        exact hideA_mono (e8.trans e9)
      have p10 : upd H9 S (.ins (He.ga K "Suits") dx [(("its_kinds" : Str), .ref k), (("its_pairs" : Str), .ref p)]) p = some (.lst (rvs pp)) := by
        rw [upd_ne pS]
        exact e9 _ _ hp'
      have pp10 : Paired (PairAt (upd H9 S (.ins (He.ga K "Suits") dx [(("its_kinds" : Str), .ref k), (("its_pairs" : Str), .ref p)]))) pp pq.kd.sp := Paired.mapP hpp fun a b z => by
        have z9 := e9 _ _ z
        have hne : a ≠ S := fun e => by
          rw [e, e9 _ _ (e8 _ _ s7)] at z9
          cases z9
        show upd H9 S _ a = _
        rw [upd_ne hne]
        exact z9
      generalize upd H9 S (.ins (He.ga K "Suits") dx [(("its_kinds" : Str), .ref k), (("its_pairs" : Str), .ref p)]) = H10 at s10 x10 p10 pp10
      have k10 : H10 k = some (.lst (svs (sortS pq.ks))) := hideA_ex _ _ _ _ (x10 _ _ (by rw [hideA_ne kS]; exact k7))
      have f10 : H10 fl = some (.lst (rvs fa)) := hideA_ex _ _ _ _ (x10 _ _ (by rw [hideA_ne hfS]; exact f7))
      have fp10 : Paired (PairAt H10) fa (pq.ps.map ordP) := Paired.mapP fp7 fun a b z => hideA_ex _ _ _ _ (x10 _ _ (by
        have hne : a ≠ S := fun e => by
          have z : H7 a = _ := z
          rw [e, s7] at z
          cases z
        rw [hideA_ne hne]
        exact z))
      have hfd : ∀ y : Str, (sortS pq.ks).filter (fun o => decide (ord2 y o ∈ pq.ps.map ordP)) = pq.kd.mates y := fun y => by
        unfold Kd.mates
        refine List.filter_congr fun o _ => ?_
        unfold Kd.fit
        rw [Bool.eq_iff_iff, decide_eq_true_eq, decide_eq_true_eq]
        exact ((List.mergeSort_perm _ _).mem_iff).symm
      refine s_fldR (er_dcompL (ks := sortS pq.ks) (fun y => svs (pq.kd.mates y)) (ei_keyOf (ei_list (ev_fld (ev_var rfl) s10 T.cl T.n_its_kinds rfl) (SqL.of k10))) (asc_nd (sortS_slt hO.nd)) (by rw [sortS_len]; omega) (fun _ => rfl) (fun y hy H11 e11 => ev_var rfl) fun y hy H11 e11 => el_is (el_of (er_methA (R := RL (svs ((sortS pq.ks).filter fun o => decide (ord2 y o ∈ pq.ps.map ordP)))) (ev_var rfl) (e11 _ _ s10) rfl (ea_cons (ev_var rfl) (ea_cons (ev_var rfl) ea_nil)) (fun H12 e12 => ⟨S, dx, k, fl, _, sortS pq.ks, pq.ps.map ordP, fa, y, rfl, (e11.trans e12) _ _ s10, rfl, (e11.trans e12) _ _ k10, by rw [sortS_len]; omega, (e11.trans e12) _ _ f10, Paired.mapP fp10 fun a b z => (e11.trans e12) _ _ z, rfl⟩) bk_l)) (by rw [hfd])) (ev_var rfl) s10 T.cl T.n_its_mates (by simp) ?_
      rintro v H11 H12 e11 e12 ⟨md, wa, rfl, hmd, hmd', hwa, _⟩
      rw [put3]
      have mS : md ≠ S := fun e => by rw [e, s10] at hmd; cases hmd
      have ne12 : ∀ {a : Addr} {o : HO}, H10 a = some o → a ≠ S → upd H12 S (.ins (He.ga K "Suits") dx [(("its_kinds" : Str), .ref k), (("its_pairs" : Str), .ref p), (("its_mates" : Str), .ref md)]) a = some o := fun {a o} h hne => by
        rw [upd_ne hne]
        exact (e11.trans e12) _ _ h
      refine q _ (fun b o hb => ?_) ⟨k, p, md, dx, wa, pp, upd_same, ne12 k10 kS, ne12 p10 pS, Paired.mapP pp10 fun a b z => ne12 z fun e => ?_, ?_, fun x hx => ?_⟩
      · have hbS : b ≠ S := fun e => by
          rw [e] at hb
          unfold hideA at hb
          rw [if_pos rfl] at hb
          cases hb
        rw [hideA_ne hbS] at hb
        exact ne12 (hideA_ex _ _ _ _ (x10 _ _ (by rw [hideA_ne hbS]; exact g4 (o4 _ _ hb) hbS))) hbS
      · have z : H10 a = _ := z
        rw [e, s10] at z
        cases z
      · rw [upd_ne mS]
        exact e12 _ _ hmd'
      · have hw := hwa x hx
        have wS : wa x ≠ S := fun e => by
          have := hw.1
          rw [e, s10] at this
          cases this
        rw [upd_ne wS]
        exact e12 _ _ hw.2
/-! ### _law_suits -/
def RSu (K : PySem.W.Frag) (q : Pl) : Rel := fun v H1 H2 => ∃ S, v = .ref S ∧ H1 S = none ∧ Su K H2 S q.kd
theorem bk_su {q : Pl} : Bk (RSu K q) := fun v H1 H2 H3 e ⟨S, h1, h2, h3⟩ => ⟨S, h1, fresh_back e h2, h3⟩
theorem er_mk {σ : L2.St} {H : Hp} {t : TA} {E : XK} {S : List V → Hp → Hp → Prop} {q : Pl} (h : EvAR t σ H S) (k : ∀ vs H1 H2, Ex H H1 → Ex H1 H2 → S vs H1 H2 → ∃ kl pl pa, vs = [.ref kl, .ref pl] ∧ PlOk q ∧ H2 kl = some (.lst (svs q.ks)) ∧ H2 pl = some (.lst (rvs pa)) ∧ Paired (PairAt H2) pa q.ps) : EvR (tMake (He.ga K "Suits") (spInit K) [] E t) σ H (RSu K q) := fun H1 e Q qq =>
  h H1 e _ fun vs H2 e2 s => by
    obtain ⟨k1, p1, pa, rfl, hO, hk, hp, hpa⟩ := k vs H1 H2 e e2 s
    intro x dx hx hdx hne
    have fr : ∀ {a : Addr} {o : HO}, H2 a = some o → upd (upd H2 dx (.own x)) x (.ins (He.ga K "Suits") dx []) a = some o := fun {a o} h => by
      rw [upd_ne (ne_of_none h hx), upd_ne (ne_of_none h hdx)]
      exact h
    refine ⟨x, k1, p1, dx, q, pa, rfl, upd_same, hO, fr hk, fr hp, Paired.mapP hpa fun a b z => fr z, fun H' e' hSu => ⟨rfl, qq _ H' (e2.trans fun b o hb => e' _ _ ?_) ⟨x, rfl, fresh_back e2 hx, hSu⟩⟩⟩
    rw [hideA_ne (ne_of_none hb hx)]
    exact fr hb
def spLSuits (K : PySem.W.Frag) : Sp := pur fun vs H R => ∃ D q, vs = [.ref D] ∧ PlAt H D q ∧ PlOk q ∧ R = RSu K q
theorem sc_L_suits : FnScope ["_law_plan_here"] ["_law_plan_here"] (defScope s_L_suits) := C8.fnScope_by (by decide +kernel)
theorem ok_L_suits (T : Tp K mg) (F : FD K d_L_suits) (c_S_init : C8.Mak P w K mg base 3 "Suits" (He.ga K "Suits") (spInit K) []) : C8.Cal P w K mg base 5 "_law_suits" (spLSuits K) [] := by
  refine cal_k F T.g_law_suits sc_L_suits (fun _ _ _ _ _ _ us hl => match us, hl with | [_], _ => rfl) (fun vs H Q E h => ?_) (fun cdv A outer s H vs Q E hr h => ?_)
  · obtain ⟨R, ⟨D, q, rfl, _⟩, _⟩ := h
    rfl
  · obtain ⟨R, ⟨D, pl, rfl, hP, hO, rfl⟩, q⟩ := h
    refine ⟨_, (pss_one (ps_ret (C8.pe_mk c_S_init hr (by decide) (by rfl) (pa_cons (pe_callTy (k_list (K := K) rfl) (by rfl) T.f_list PyProof.Rows.boot_list (pa_cons (pe_dget (hu_of hr) (pv 0) pe_str (fun _ _ => rfl)) pa_nil)) (pa_cons (pe_callTy (k_list (K := K) rfl) (by rfl) T.f_list PyProof.Rows.boot_list (pa_cons (pe_dget (hu_of hr) (pv 0) pe_str (fun _ _ => rfl)) pa_nil)) pa_nil))))), ?_⟩
    obtain ⟨kl, pr, pa, hq⟩ := hP
    refine s_retR (er_mk (q := pl) (ear_cons (er_l (el_list (ev_pks (ev_var rfl) ev_c hq) (SqL.of hq.kinds))) (ear_cons (er_l (el_list (ev_pps (ev_var rfl) ev_c hq) (SqL.of hq.pairs))) ear_nil)) ?_) q
    rintro vs H0 H1 e0 e1 ⟨v, r, H2, rfl, e2, e3, ⟨k1, rfl, hk1, hk1'⟩, v2, r2, H3, rfl, e4, e5, ⟨p1, rfl, hp1, hp1'⟩, rfl⟩
    exact ⟨k1, p1, pa, rfl, hO, e3 _ _ hk1', e5 _ _ hp1', Paired.mapP hq.pair fun a b z => (e0.trans e1) _ _ z⟩
end
end K64
set_option Elab.async false
set_option linter.all false
set_option maxRecDepth 100000
set_option maxHeartbeats 4000000
/-! The bag: _law_bag, _law_take, _law_row. -/
namespace K64
open PySem PySem.Spec PyProof.Rows L2 Evl
/-- the bag at B -/
def BagAt (H : Hp) (B cl : Addr) : Prop := ∃ (a b : Int) (c : Nat) (cs : List Int), H B = some (.lst [.int a, .int b, .int (c : Int), .ref cl]) ∧ hideA B H cl = some (.lst (cs.map V.int))
theorem BagAt.some {H : Hp} {B cl : Addr} (h : BagAt H B cl) : H B ≠ none := by
  obtain ⟨a, b, c, cs, h1, h2⟩ := h
  rw [h1]
  simp
theorem BagAt.ex {H H' : Hp} {B cl : Addr} (h : BagAt H B cl) (e : Ex H H') : BagAt H' B cl := by
  obtain ⟨a, b, c, cs, h1, h2⟩ := h
  exact ⟨a, b, c, cs, e _ _ h1, hideA_mono e _ _ h2⟩
theorem hideA_none {B : Addr} {H : Hp} : hideA B H B = none := if_pos rfl
theorem hideA_eq {B x : Addr} {H : Hp} {o : HO} (h : hideA B H x = some o) : x ≠ B := fun e => by
  rw [e, hideA_none] at h
  cases h
/-- a def that takes from the bag, else changes nothing that stood -/
def bagD (D : List V → Hp → Rel → Prop) : Sp := fun vs H Q _ => ∃ B cl ws R, vs = .ref B :: ws ∧ BagAt H B cl ∧ D ws (hideA B H) R ∧ ∀ v H', Ex (hideA B H) (hideA B H') → BagAt H' B cl → R v (hideA B H) (hideA B H') → Q v H'
def EvRB (te : TE) (σ : L2.St) (B cl : Addr) (Hc : Hp) (R : Rel) : Prop := ∀ H1, Ex Hc (hideA B H1) → BagAt H1 B cl → ∀ Q : VK, (∀ v H2, Ex (hideA B H1) (hideA B H2) → BagAt H2 B cl → R v (hideA B H1) (hideA B H2) → Q v H2) → te σ H1 Q
def EvARB (ta : TA) (σ : L2.St) (B cl : Addr) (Hc : Hp) (R : List V → Hp → Hp → Prop) : Prop := ∀ H1, Ex Hc (hideA B H1) → BagAt H1 B cl → ∀ Q : List V → Hp → Prop, (∀ v H2, Ex (hideA B H1) (hideA B H2) → BagAt H2 B cl → R v (hideA B H1) (hideA B H2) → Q v H2) → ta σ H1 Q
section
variable {σ : L2.St} {B cl : Addr} {Hc H : Hp} {te ta tb : TE} {R R' A A' : Rel} {v : V} {xs : List V}
theorem EvRB.mono {Hd : Hp} (h : EvRB te σ B cl Hc R) (e : Ex Hc Hd) : EvRB te σ B cl Hd R := fun H1 a b Q q => h H1 (e.trans a) b Q q
theorem EvRB.imp (h : EvRB te σ B cl Hc R) (k : ∀ v H1 H2, Ex Hc H1 → Ex H1 H2 → R v H1 H2 → R' v H1 H2) : EvRB te σ B cl Hc R' := fun H1 a b Q q => h H1 a b Q fun v H2 e b2 r => q v H2 e b2 (k _ _ _ a e r)
theorem lb (h : EvR te σ Hc R) (hR : ∀ v H1 H2, H1 B ≠ none → Ex H1 H2 → R v H1 H2 → R' v (hideA B H1) (hideA B H2)) : EvRB te σ B cl Hc R' := fun H1 a b Q q => h H1 (a.trans (hideA_ex _ _)) Q fun v H2 e r => q v H2 (hideA_mono e) (b.ex e) (hR v H1 H2 b.some e r)
theorem lb_v (h : Ev te σ Hc v) : EvRB te σ B cl Hc (RV v) := lb (er_v h) fun _ _ _ _ _ r => r
theorem hidf {H1 : Hp} {p : Addr} (h : H1 p = none) : hideA B H1 p = none := by
  unfold hideA
  split
  · rfl
  · exact h
theorem hids {H1 H2 : Hp} {p : Addr} {o : HO} (hb : H1 B ≠ none) (h : H1 p = none) (h2 : H2 p = some o) : hideA B H2 p = some o := (hideA_ne fun e => hb (by rw [← e]; exact h)).trans h2
theorem lb_l (h : EvL te σ Hc xs) : EvRB te σ B cl Hc (RL xs) := lb (er_l h) fun v H1 H2 hb e ⟨p, h1, h2, h3⟩ => ⟨p, h1, hidf h2, hids hb h2 h3⟩
theorem lb_u (h : EvU te σ Hc xs) : EvRB te σ B cl Hc (RU xs) := lb (er_u h) fun v H1 H2 hb e ⟨p, h1, h2, h3⟩ => ⟨p, h1, hidf h2, hids hb h2 h3⟩
theorem earb_nil : EvARB tNil σ B cl Hc (fun vs _ _ => vs = []) := fun H1 _ b Q q => q [] H1 (Ex.refl _) b rfl
theorem earb_cons {tr : TA} {S : List V → Hp → Hp → Prop} (h : EvRB te σ B cl Hc R) (hr : EvARB tr σ B cl Hc S) : EvARB (tCons te tr) σ B cl Hc (fun vs H1 H3 => ∃ v r H2, vs = v :: r ∧ Ex H1 H2 ∧ Ex H2 H3 ∧ R v H1 H2 ∧ S r H2 H3) := fun H1 a b Q q =>
  h H1 a b _ fun v H2 e b2 r => hr H2 (a.trans e) b2 _ fun vs H3 e' b3 s => q _ H3 (e.trans e') b3 ⟨v, vs, _, rfl, e, e', r, s⟩
theorem erb_callB {D : List V → Hp → Rel → Prop} {E : XK} {t : TA} {S : List V → Hp → Hp → Prop} (h : EvARB t σ B cl Hc S) (k : ∀ vs H1 H2, Ex Hc H1 → Ex H1 H2 → S vs H1 H2 → ∃ ws R', vs = .ref B :: ws ∧ D (ws ++ []) H2 R' ∧ ∀ v H3, Ex H2 H3 → R' v H2 H3 → R v H1 H3) : EvRB (tCall (bagD D) [] E t) σ B cl Hc R := fun H1 a b Q q =>
  h H1 a b _ fun vs H2 e b2 s => by
    obtain ⟨ws, R', rfl, d, k⟩ := k vs _ _ a e s
    exact ⟨B, cl, _, R', rfl, b2, d, fun v H3 e3 b3 r => q v H3 (e.trans e3) b3 (k _ _ e3 r)⟩
theorem erb_op {r : R2} (ha : EvRB ta σ B cl Hc A) (hb : EvRB tb σ B cl Hc A') (hr : ∀ x y H1 H2 H3, Ex Hc H1 → Ex H1 H2 → Ex H2 H3 → A x H1 H2 → A' y H2 H3 → ∃ z : V, (∀ Hf : Hp, Ex H3 Hf → ∀ Q : VK, Q z Hf → r x y Hf Q) ∧ R z H1 H3) : EvRB (tOp r ta tb) σ B cl Hc R := fun H1 a b Q q =>
  ha H1 a b _ fun x H2 e b2 rx => hb H2 (a.trans e) b2 _ fun y H3 e' b3 ry => by
    obtain ⟨z, h1, h2⟩ := hr x y _ _ _ a e e' rx ry
    exact h1 H3 (hideA_ex _ _) Q (q z H3 (e.trans e') b3 h2)
/-- .. that makes something new -/
theorem erb_opR {r : R2} (ha : EvRB ta σ B cl Hc A) (hb : EvRB tb σ B cl Hc A') (hr : ∀ x y H1 H2 H3, Ex Hc H1 → Ex H1 H2 → Ex H2 H3 → A x H1 H2 → A' y H2 H3 → ∃ R1 : Rel, (∀ Hf : Hp, Ex H3 Hf → ∀ Q : VK, (∀ z Hg, Ex Hf Hg → R1 z Hf Hg → Q z Hg) → r x y Hf Q) ∧ ∀ z Hf Hg, Hf B ≠ none → hideA B Hf = H3 → Ex Hf Hg → R1 z Hf Hg → R z H1 (hideA B Hg)) : EvRB (tOp r ta tb) σ B cl Hc R := fun H1 a b Q q =>
  ha H1 a b _ fun x H2 e b2 rx => hb H2 (a.trans e) b2 _ fun y H3 e' b3 ry => by
    obtain ⟨R1, h1, h2⟩ := hr x y _ _ _ a e e' rx ry
    exact h1 H3 (hideA_ex _ _) Q fun z Hg eg r1 => q z Hg ((e.trans e').trans (hideA_mono eg)) (b3.ex eg) (h2 z H3 Hg b3.some rfl eg r1)
/-! statements -/
variable {D : Ends} {tz : TS}
theorem qb_asg {i : Nat} (h : EvRB te σ B cl (hideA B H) R) (b : BagAt H B cl) (k : ∀ v H1, Ex (hideA B H) (hideA B H1) → BagAt H1 B cl → R v (hideA B H) (hideA B H1) → tz D (σ.set i (some v)) H1) : tSeq (tAsg te (gName i)) tz D σ H := h H (Ex.refl _) b _ fun v H1 e b1 r => k v H1 e b1 r
theorem sb_asg {i : Nat} (h : EvRB te σ B cl (hideA B H) R) (b : BagAt H B cl) (k : ∀ v H1, Ex (hideA B H) (hideA B H1) → BagAt H1 B cl → R v (hideA B H) (hideA B H1) → D.nx (σ.set i (some v)) H1) : tAsg te (gName i) D σ H := h H (Ex.refl _) b _ fun v H1 e b1 r => k v H1 e b1 r
theorem sb_ret (h : EvRB te σ B cl (hideA B H) R) (b : BagAt H B cl) (k : ∀ v H1, Ex (hideA B H) (hideA B H1) → BagAt H1 B cl → R v (hideA B H) (hideA B H1) → D.rt v H1) : tRet te D σ H := h H (Ex.refl _) b _ fun v H1 e b1 r => k v H1 e b1 r
theorem qb_par {i j : Nat} {ta : TA} {S : List V → Hp → Hp → Prop} {T : V → V → Hp → Hp → Prop} (h : EvARB ta σ B cl (hideA B H) S) (b : BagAt H B cl) (hS : ∀ vs H1, Ex (hideA B H) H1 → S vs (hideA B H) H1 → ∃ x y, vs = [x, y] ∧ T x y (hideA B H) H1) (k : ∀ x y H1, Ex (hideA B H) (hideA B H1) → BagAt H1 B cl → T x y (hideA B H) (hideA B H1) → tz D ((σ.set i (some x)).set j (some y)) H1) :
    tSeq (tPar i j ta) tz D σ H := h H (Ex.refl _) b _ fun vs H1 e b1 s => by
  obtain ⟨x, y, rfl, hT⟩ := hS vs _ e s
  exact ⟨x, y, rfl, k x y H1 e b1 hT⟩
end
/-! ### _law_take -/
def RNat (n : Nat) : Rel := fun v _ _ => ∃ k : Nat, k < n ∧ v = .int (k : Int)
def spTake : Sp := bagD fun ws _ R => ∃ many : Nat, ws = [.int (many : Int)] ∧ 1 ≤ many ∧ many ≤ 1000000 ∧ R = RNat many
theorem fmod_nat {i : Int} {n : Nat} (h : 1 ≤ n) : ∃ k : Nat, k < n ∧ i.fmod (n : Int) = (k : Int) := by
  have h1 := Int.fmod_nonneg_of_pos i (show (0 : Int) < (n : Int) by omega)
  have h2 := Int.fmod_lt_of_pos i (show (0 : Int) < (n : Int) by omega)
  exact ⟨(i.fmod n).toNat, by omega, by omega⟩
section
variable {P : Program} {w : World} {K : PySem.W.Frag} {mg : Str → Option Value} {base : Heap}
theorem erb_take {σ : L2.St} {B cl : Addr} {Hc : Hp} {t1 t2 : TE} {E : XK} {n : Nat} {A : Rel} (h1 : ∀ H, Ev t1 σ H (.ref B)) (h2 : EvRB t2 σ B cl Hc A) (hA : ∀ v H1 H2, A v H1 H2 → ∃ m : Nat, v = .int (m : Int) ∧ 1 ≤ m ∧ m ≤ 1000000 ∧ m ≤ n) : EvRB (tCall spTake [] E (tCons t1 (tCons t2 tNil))) σ B cl Hc (RNat n) := by
  refine erb_callB (earb_cons (lb_v (h1 _)) (earb_cons h2 earb_nil)) ?_
  rintro vs H1 H2 e1 e2 ⟨v, r, H3, rfl, e3, e4, rfl, v2, r2, H4, rfl, e5, e6, hv, rfl⟩
  obtain ⟨m, rfl, m1, m2, m3⟩ := hA _ _ _ hv
  exact ⟨_, _, rfl, ⟨m, rfl, m1, m2, rfl⟩, fun v H3 e r => by
    obtain ⟨k, hk, rfl⟩ := r
    exact ⟨k, by omega, rfl⟩⟩
theorem q_ifInt {σ : L2.St} {H : Hp} {D : Ends} {tz : TS} {tt : TT} {te : TE} {b : Bool} {i : Nat} {x0 : Int} (hσ : σ.set i (some (.int x0)) = σ) (h : EvT tt σ H b) (h1 : b = true → ∃ x, Ev te σ H (.int x)) (k : ∀ x H1, Ex H H1 → tz D (σ.set i (some (.int x))) H1) : tSeq (tIfS tt (tAsg te (gName i)) tNext) tz D σ H :=
  q_when h (fun hb H1 e1 => by
    obtain ⟨x, hx⟩ := h1 hb
    exact s_asg (D := { D with nx := tz D }) (hx.mono e1) fun H2 e2 => k x H2 (e1.trans e2)) fun hb H1 e1 => by
    have := k x0 H1 e1
    rw [hσ] at this
    exact this
theorem sc_L_take : FnScope ["_law_bag_here", "_law_many", "_law_cell", "_law_value", "_law_begin", "_law_second"] ["_law_bag_here", "_law_many"] (defScope s_L_take) := C8.fnScope_by (by decide +kernel)
theorem ok_L_take (T : Tp K mg) (F : FD K d_L_take) : C8.Cal P w K mg base 1 "_law_take" spTake [] := by
  refine cal_k F T.g_law_take sc_L_take (fun _ _ _ _ _ _ us hl => match us, hl with | [_, _], _ => rfl) (fun vs H Q E h => ?_) (fun cdv A outer s H vs Q E hr h => ?_)
  · obtain ⟨B, cl, ws, R, rfl, _, ⟨many, rfl, _⟩, _⟩ := h
    rfl
  · obtain ⟨B, cl, ws, R, rfl, ⟨a, b, c, cs, hB, hcl⟩, ⟨many, rfl, hm1, hm2, rfl⟩, q⟩ := h
    refine ⟨_, (pss_cut (ps_if (pt_cmpR op_eq (pe_ix (k_ixL (K := K) rfl) (pv 0) pe_int (fun _ _ => rfl)) pe_int (nomark _))
  (pss_cons (ps_set (i := 2) (sc_L_take).nd rfl (.inl rfl) pe_int)
  (pss_cons (ps_if (pt_cmpR op_lt (pe_ix (k_ixL (K := K) rfl) (pv 0) pe_int (fun _ _ => rfl)) (pe_callB (k_len (K := K) rfl) (by rfl) T.f_len PySem.boot_len (pa_cons (pe_ix (k_ixL (K := K) rfl) (pv 0) pe_int (fun _ _ => rfl)) pa_nil)) (nomark _))
  (pss_one (ps_set (i := 2) (sc_L_take).nd rfl (.inl rfl) (pe_ix (k_ixL (K := K) rfl) (pe_ix (k_ixL (K := K) rfl) (pv 0) pe_int (fun _ _ => rfl)) (pe_ix (k_ixL (K := K) rfl) (pv 0) pe_int (fun _ _ => rfl)) (fun _ _ => rfl))))
  pss_nil)
  (pss_cons (ps_augS (pv 0) pe_int (k_get (K := K) rfl) pe_int ip_add set_list)
  (pss_cons (ps_if (pt_cmpR op_ge (pv 2) pe_int (nomark _))
  (pss_one (ps_asg (pv 2) (pg_sub (pv 0) pe_int set_list)))
  pss_nil)
  (pss_one (ps_asg (pe_op op_modN (pe_op op_add (pe_op op_add (pe_op op_mul (pe_ix (k_ixL (K := K) rfl) (pv 0) pe_int (fun _ _ => rfl)) pe_int) (pe_op op_modN (pv 2) pe_int)) (pe_op op_mul pe_int (pe_ix (k_ixL (K := K) rfl) (pv 0) pe_int (fun _ _ => rfl)))) pe_int) (pg_sub (pv 0) pe_int set_list)))))))
  pss_nil)
  (pss_cons (ps_if (pt_cmpR op_gt (pe_ix (k_ixL (K := K) rfl) (pv 0) pe_int (fun _ _ => rfl)) pe_int (nomark _))
  (pss_cons (ps_set (i := 3) (sc_L_take).nd rfl (.inl rfl) (pe_op op_modN (pe_ix (k_ixL (K := K) rfl) (pv 0) pe_int (fun _ _ => rfl)) (pv 1)))
  (pss_cons (ps_asg (pe_op op_fdivN (pe_ix (k_ixL (K := K) rfl) (pv 0) pe_int (fun _ _ => rfl)) (pv 1)) (pg_sub (pv 0) pe_int set_list))
  (pss_one (ps_ret (pv 3)))))
  pss_nil)
  (pss_cons (ps_set (i := 4) (sc_L_take).nd rfl (.inl rfl) (pe_op op_modN (pe_op op_mul (pe_op op_add (pe_ix (k_ixL (K := K) rfl) (pv 0) pe_int (fun _ _ => rfl)) pe_int) pe_int) pe_int))
  (pss_cons (ps_set (i := 5) (sc_L_take).nd rfl (.inl rfl) (pe_op op_modN (pe_op op_mul (pe_op op_modN (pe_op op_mul (pv 4) (pv 4)) pe_int) pe_int) pe_int))
  (pss_cons (ps_if (pt_cmpR op_gt (pv 1) pe_int (nomark _))
  (pss_one (ps_ret (pe_op op_modN (pe_op op_add (pe_op op_mul (pv 5) pe_int) (pv 4)) (pv 1))))
  pss_nil)
  (pss_one (ps_ret (pe_op op_modN (pe_op op_fdivN (pv 5) pe_int) (pv 1))))))))), ?_⟩
    have hne := hideA_eq hcl
    refine q_cut (M := fun σ' H' => ∃ (a b : Int) (c : Nat) (y2 : Option V), σ' = [some (.ref B), some (.int (many : Int)), y2, none, none, none] ∧ Ex (hideA B H) (hideA B H') ∧ H' B = some (.lst [.int a, .int b, .int (c : Int), .ref cl])) ?_ ?_
    · refine s_when (et_B (ev_op (ev_ixL (i := 0) (ev_var rfl) ev_c (SqL.of hB) rfl) ev_c (rv_eq rfl))) (fun hb H1 e1 => ?_) fun hb H1 e1 => ⟨a, b, c, _, rfl, hideA_mono e1, e1 _ _ hB⟩
      refine q_asg ev_c fun H2 e2 => ?_
      have e12 := e1.trans e2
      have hcl2 : H2 cl = some (.lst (cs.map V.int)) := e12 _ _ (hideA_ex _ _ _ _ hcl)
      refine q_ifInt (x0 := 0) rfl (b := decide (c < cs.length)) (et_is (et_B (ev_op (ev_ixL (i := 2) (ev_var rfl) ev_c (SqL.of (e12 _ _ hB)) rfl) (ev_len (ev_ixL (i := 3) (ev_var rfl) ev_c (SqL.of (e12 _ _ hB)) rfl) (SqL.of hcl2)) rv_I0)) (by rw [List.length_map]; simp)) (fun hb => ?_) fun x H3 e3 => ?_
      · have hb := of_decide_eq_true hb
        exact ⟨cs[c], ev_ixL (i := c) (ev_ixL (i := 3) (ev_var rfl) ev_c (SqL.of (e12 _ _ hB)) rfl) (ev_ixL (i := 2) (ev_var rfl) ev_c (SqL.of (e12 _ _ hB)) rfl) (SqL.of hcl2) (by rw [List.getElem?_map, List.getElem?_eq_getElem hb]; rfl)⟩
      have hB3 := e3 _ _ (e12 _ _ hB)
      refine ⟨_, rfl, B, _, _, 2, rfl, rfl, SqL.of hB3, rfl, _, _, rfl, rfl, B, _, 2, 2, rfl, rfl, hB3, rfl, ?_⟩
      have h4 : upd H3 B (.lst [.int a, .int b, .int ((c + 1 : Nat) : Int), .ref cl]) B = some (.lst [.int a, .int b, .int ((c + 1 : Nat) : Int), .ref cl]) := upd_same
      have x4 : Ex (hideA B H) (hideA B (upd H3 B (.lst [.int a, .int b, .int ((c + 1 : Nat) : Int), .ref cl]))) := by
        rw [hideA_upd]
        exact hideA_mono (e12.trans e3)
      have hset : ([V.int a, .int b, .int (c : Int), .ref cl].set 2 (.int ((c : Int) + 1))) = [V.int a, .int b, .int ((c + 1 : Nat) : Int), .ref cl] := rfl
      rw [hset]
      generalize upd H3 B (.lst [.int a, .int b, .int ((c + 1 : Nat) : Int), .ref cl]) = H4 at h4 x4
      have last : ∀ (a' : Int) (H5 : Hp), Ex (hideA B H) (hideA B H5) → H5 B = some (.lst [.int a', .int b, .int ((c + 1 : Nat) : Int), .ref cl]) → ∀ D : Ends, (∀ H6 : Hp, (∃ (a b : Int) (c : Nat) (y2 : Option V), [some (.ref B), some (.int (many : Int)), some (.int x), none, none, none] = [some (.ref B), some (.int (many : Int)), y2, none, none, none] ∧ Ex (hideA B H) (hideA B H6) ∧ H6 B = some (.lst [.int a, .int b, .int (c : Int), .ref cl])) → D.nx [some (.ref B), some (.int (many : Int)), some (.int x), none, none, none] H6) →
          (tAsg (tOp (rI (fun _ j => j ≠ 0) fun i j => .int (i.fmod j)) (tOp (rI0 fun i j => .int (i + j)) (tOp (rI0 fun i j => .int (i + j)) (tOp (rI CMul fun i j => .int (i * j)) (tOp (rIxL K) (tVar 0) (tC (.int 1))) (tC (.int 48271))) (tOp (rI (fun _ j => j ≠ 0) fun i j => .int (i.fmod j)) (tVar 2) (tC (.int 2147483647)))) (tOp (rI CMul fun i j => .int (i * j)) (tC (.int 7919)) (tOp (rIxL K) (tVar 0) (tC (.int 2))))) (tC (.int 2147483647))) (gSub (tVar 0) (tC (.int 1)) rSetL)) D [some (.ref B), some (.int (many : Int)), some (.int x), none, none, none] H5 := by
        intro a' H5 x5 h5 D kk
        refine s_setL (j := 1) h5 (ev_op (ev_op (ev_op (ev_op (ev_ixL (i := 1) (ev_var rfl) ev_c (SqL.of h5) rfl) ev_c (rv_I (.inr ⟨by decide, by decide⟩))) (ev_op (ev_var rfl) ev_c (rv_I (by decide))) rv_I0) (ev_op ev_c (ev_ixL (i := 2) (ev_var rfl) ev_c (SqL.of h5) rfl) (rv_I (.inl ⟨by decide, by decide⟩))) rv_I0) ev_c (rv_I (by decide))) (ev_var rfl) ev_c (by simp) fun H6 e6 => kk _ ⟨a', _, c + 1, _, rfl, ?_, by rw [upd_same]; rfl⟩
        rw [hideA_upd]
        exact x5.trans (hideA_mono e6)
      refine q_when (et_B (ev_op (ev_var rfl) ev_c rv_I0)) (fun hb H5 e5 => ?_) fun hb H5 e5 => ?_
      · refine s_setL (j := 0) (e5 _ _ h4) (ev_var rfl) (ev_var rfl) ev_c (by simp) fun H6 e6 => ?_
        refine last x _ (by rw [hideA_upd]; exact x4.trans (hideA_mono (e5.trans e6))) (by rw [upd_same]; rfl) _ fun H7 h => h
      · exact last a H5 (x4.trans (hideA_mono e5)) (e5 _ _ h4) _ fun H7 h => h
    · rintro σ' H1 ⟨a, b, c, y2, rfl, x1, hB1⟩
      have bag : ∀ {a b : Int} {c : Nat} {H' : Hp}, Ex (hideA B H) (hideA B H') → H' B = some (.lst [.int a, .int b, .int (c : Int), .ref cl]) → BagAt H' B cl := fun {a b c H'} x h => ⟨a, b, c, cs, h, x _ _ hcl⟩
      refine q_when (et_B (ev_op (ev_ixL (i := 0) (ev_var rfl) ev_c (SqL.of hB1) rfl) ev_c rv_I0)) (fun hb H2 e2 => ?_) fun hb H2 e2 => ?_
      · have hB2 := e2 _ _ hB1
        obtain ⟨n, hn, en⟩ := fmod_nat (i := a) hm1
        refine q_asg (v := .int (n : Int)) (ev_is (ev_op (ev_ixL (i := 0) (ev_var rfl) ev_c (SqL.of hB2) rfl) (ev_var rfl) (rv_I (by omega))) (by rw [en])) fun H3 e3 => ?_
        have hB3 := e3 _ _ hB2
        refine q_setL (j := 0) hB3 (ev_op (ev_ixL (i := 0) (ev_var rfl) ev_c (SqL.of hB3) rfl) (ev_var rfl) (rv_I (C := CDivN) ⟨by omega, by omega⟩)) (ev_var rfl) ev_c (by simp) fun H4 e4 => ?_
        have x4 : Ex (hideA B H) (hideA B (upd H4 B (.lst ([V.int a, .int b, .int (c : Int), .ref cl].set 0 (.int (a.fdiv many)))))) := by
          rw [hideA_upd]
          exact x1.trans (hideA_mono ((e2.trans e3).trans e4))
        exact s_ret (ev_var rfl) fun H5 e5 => q _ H5 (x4.trans (hideA_mono e5)) ((bag x4 (by rw [upd_same]; rfl)).ex e5) ⟨n, hn, rfl⟩
      · have hB2 := e2 _ _ hB1
        obtain ⟨g, hg, eg⟩ := fmod_nat (i := (b + 1) * 39373) (n := 1000000007) (by omega)
        refine q_asg (v := .int (g : Int)) (ev_is (ev_op (ev_op (ev_op (ev_ixL (i := 1) (ev_var rfl) ev_c (SqL.of hB2) rfl) ev_c rv_I0) ev_c (rv_I (.inr ⟨by decide, by decide⟩))) ev_c (rv_I (by decide))) (congrArg V.int eg)) fun H3 e3 => ?_
        refine q_asg (ev_op (ev_op (ev_op (ev_op (ev_var rfl) (ev_var rfl) (rv_I (C := CMul) (.inl ⟨by omega, by omega⟩))) ev_c (rv_I (by decide))) ev_c (rv_I (.inr ⟨by decide, by decide⟩))) ev_c (rv_I (by decide))) fun H4 e4 => ?_
        refine q_when (b := false) (et_is (et_B (ev_op (ev_var rfl) ev_c rv_I0)) (by simp; omega)) (fun h => nomatch h) fun _ H5 e5 => ?_
        have e25 := ((e2.trans e3).trans e4).trans e5
        refine s_ret (ev_op (ev_op (ev_var rfl) ev_c (rv_I (C := CDivN) ⟨by decide, by decide⟩)) (ev_var rfl) (rv_I (by omega))) fun H6 e6 => q _ H6 (x1.trans (hideA_mono (e25.trans e6))) ((bag (x1.trans (hideA_mono e25)) (e25 _ _ hB1)).ex e6) ?_
        obtain ⟨z, hz, ez⟩ := fmod_nat (i := (((((g : Int) * (g : Int)).fmod 998244353) * 30011).fmod 998244353).fdiv 7) hm1
        exact ⟨z, hz, by rw [← ez]⟩
theorem er_lst4 {σ : L2.St} {H : Hp} {ta tb tc td : TE} {x y z : V} {xs : List V} (h1 : Ev ta σ H x) (h2 : Ev tb σ H y) (h3 : Ev tc σ H z) (h4 : EvL td σ H xs) : EvR (tLst (tCons ta (tCons tb (tCons tc (tCons td tNil))))) σ H (fun v H1 H6 => ∃ p l, v = .ref p ∧ H1 p = none ∧ l ≠ p ∧ H6 p = some (.lst [x, y, z, .ref l]) ∧ H6 l = some (.lst xs)) := fun H1 e Q q =>
  h1 H1 e _ fun H2 e2 => h2 H2 (e.trans e2) _ fun H3 e3 => h3 H3 ((e.trans e2).trans e3) _ fun H4 e4 => h4 H4 (((e.trans e2).trans e3).trans e4) _ fun l H5 hl e5 hl' => ⟨by simp [sizeLine_eq], fun p hp => q (.ref p) _ ((((e2.trans e3).trans e4).trans e5).trans (Ex.new hp)) ⟨p, l, rfl, fresh_back (((e2.trans e3).trans e4).trans e5) hp, ne_of_none hl' hp, upd_same, (Ex.new hp) _ _ hl'⟩⟩
/-! ### _law_bag -/
def RBag : Rel := fun v H1 H2 => ∃ B cl, v = .ref B ∧ H1 B = none ∧ BagAt H2 B cl
def spBag (K : PySem.W.Frag) : Sp := pur fun vs H R => ∃ (S : Addr) (ns : List Int), vs = [.ref S] ∧ SqL K H S (ns.map V.int) ∧ ns.length ≤ 100 ∧ R = RBag
theorem sc_L_bag : FnScope ["_law_script", "_law_cell"] ["_law_script"] (defScope s_L_bag) := C8.fnScope_by (by decide +kernel)
theorem ok_L_bag (T : Tp K mg) (F : FD K d_L_bag) : C8.Cal P w K mg base 1 "_law_bag" (spBag K) [] := by
  refine cal_k F T.g_law_bag sc_L_bag (fun _ _ _ _ _ _ us hl => match us, hl with | [_], _ => rfl) (fun vs H Q E h => ?_) (fun cdv A outer s H vs Q E hr h => ?_)
  · obtain ⟨R, ⟨S, ns, rfl, _⟩, _⟩ := h
    rfl
  · obtain ⟨R, ⟨S, ns, rfl, hS, hz, rfl⟩, q⟩ := h
    refine ⟨_, (pss_one (ps_ret (pe_lst (pa_cons pe_int (pa_cons pe_int (pa_cons pe_int (pa_cons (pe_lc (own := [("_law_cell", 1)]) (g := (gName 1)) (by rfl) (sc_L_bag).nd (k_piList (K := K) rfl (pe_slice (k_slL (K := K) rfl) (pv 0) po_none (po_some pe_int))) (blkOk_by (own := [("_law_cell", 1)]) (N := ["_law_script", "_law_cell"]) (sc := defScope s_L_bag) (by decide +kernel)) (fun _ _ _ _ _ => (pg_name (i := 1) (sc_L_bag).nd rfl (by first | exact .inl rfl | exact .inr rfl))) (fun _ _ _ _ _ => pts_nil) (fun _ _ _ _ _ => (pe_callB call_abs (by rfl) T.f_abs boot_abs (pa_cons (pv 1) pa_nil)))) pa_nil))))))), ?_⟩
    have hcut : cutV (ns.map V.int) none (some (63 : Int)) = (ns.take 63).map V.int := by
      rw [show (63 : Int) = ((63 : Nat) : Int) from rfl, cut_to]
      exact List.map_take.symm
    refine s_retR (er_lst4 ev_c ev_c ev_c (el_compN (α := Int) V.int (ys := ns.take 63) (ei_listN (el_is (el_sl (ev_var rfl) eo_none (eo_some ev_c) hS) hcut)) rfl (by rw [List.length_take]; omega) (fun _ => true) (fun i => .int (if i < 0 then -i else i)) (fun _ => rfl) (fun _ _ _ _ => et_yes) fun y hy _ H1 e1 => ?_)) fun v H1 e1 ⟨p, l, ev, h1, h3, h4, h5⟩ => q v H1 e1 ?_
    · exact ev_cb (ea_cons (ev_var rfl) ea_nil) fun H2 e2 Q q => ⟨y, rfl, q H2 (Ex.refl H2)⟩
    rw [filt_tt] at h5
    refine ⟨p, l, ev, h1, 0, 1234567891, 0, (ns.take 63).map fun i => if i < 0 then -i else i, h4, ?_⟩
    rw [hideA_ne h3, h5, List.map_map]
    rfl
/-! ### _law_row -/
/-- [e for k in range(n)], e taking from the bag, texts -/
theorem erb_compS {σ : L2.St} {B cl : Addr} {Hc : Hp} {tn te : TE} {j : Nat} {vs : List Nat} (L : Nat → Prop) (Pz : Str → Prop) (hn : EvRB tn σ B cl Hc (fun v _ _ => ∃ m : Nat, v = .int (m : Int) ∧ m ≤ 1000 ∧ L m)) (hw : ∀ x, wipe ((wipe σ vs).set j (some x)) vs = wipe σ vs)
    (he : ∀ (i : Nat) Hd, Ex Hc Hd → EvRB te ((wipe σ vs).set j (some (.int (i : Int)))) B cl Hd (fun v _ _ => ∃ z : Str, v = .str z ∧ Pz z)) :
    EvRB (tLc (iRng1 (tCons tn tNil)) (gName j) tYes te vs) σ B cl Hc (fun v H1 H2 => ∃ p xs, v = .ref p ∧ H1 p = none ∧ H2 p = some (.lst (svs xs)) ∧ L xs.length ∧ ∀ x ∈ xs, Pz x) := fun H0 a0 b0 Q q =>
  hn H0 a0 b0 _ fun v H1 e1 b1 ⟨m, ev, hm, hL⟩ => by
    subst ev
    refine ⟨(m : Int), rfl, by omega, by omega, fun D hD => ?_⟩
    have hDB : D ≠ B := fun e => b1.some (by rw [← e]; exact hD)
    have hDc : D ≠ cl := fun e => by
      obtain ⟨_, _, _, _, _, h⟩ := b1
      rw [← e, hidf hD] at h
      cases h
    refine lc_it (walk_range.mono (fun _ h => h) fun i H x H' _ _ y => (⟨y.1, by rw [y.2]; exact congrArg V.int (Int.zero_add _)⟩ : YFn (fun i => V.int ((i : Nat) : Int)) i H x H')) (fun i H' => Ex (hideA B H1) (hideA B H') ∧ BagAt H' B cl ∧ ∃ xs : List Str, H' D = some (.lst (svs xs)) ∧ xs.length = i ∧ ∀ x ∈ xs, Pz x) ⟨fun b o hb => ?_, b1.ex (Ex.new hD), [], upd_same, rfl, fun x hx => nomatch hx⟩ (fun _ _ _ _ => True.intro) (fun i x H2 H3 hi h y => ?_) (fun H' h => ?_)
    · exact hideA_mono (Ex.new hD) _ _ hb
    · obtain ⟨e2, b2, xs, hxs, hxl, hxp⟩ := h
      obtain ⟨rfl, rfl⟩ := y
      refine ⟨hw _, fun_yes ?_⟩
      refine he i _ ((a0.trans e1).trans e2) H3 (Ex.refl _) b2 _ fun v H4 e4 b4 ⟨z, ev, hz⟩ => ?_
      subst ev
      have hD4 : H4 D = some (.lst (svs xs)) := hideA_ex _ _ _ _ (e4 _ _ ((hideA_ne hDB).trans hxs))
      refine ⟨svs xs, hD4, sz_lt (by rw [svs_len]; omega), ?_, ?_, xs ++ [z], ?_, by simp [hxl], fun x hx => ?_⟩
      · intro b o hb
        have hbD : b ≠ D := fun e => by
          rw [e, hidf hD] at hb
          cases hb
        have := (e2.trans e4) _ _ hb
        unfold hideA at this ⊢
        split
        · rename_i h
          rw [if_pos h] at this
          cases this
        · rename_i h
          rw [if_neg h] at this
          rw [upd_ne hbD]
          exact this
      · obtain ⟨a, b, c, cs, w1, w2⟩ := b4
        refine ⟨a, b, c, cs, ?_, ?_⟩
        · rw [upd_ne hDB.symm]
          exact w1
        · have hcB := hideA_eq w2
          rw [hideA_ne hcB] at w2 ⊢
          rw [upd_ne hDc.symm]
          exact w2
      · rw [upd_same]
        simp
      · rcases List.mem_append.mp hx with hx | hx
        · exact hxp x hx
        · have : x = z := by simpa using hx
          rw [this]
          exact hz
    · obtain ⟨e2, b2, xs, hxs, hxl, hxp⟩ := h
      refine q (.ref D) H' (e1.trans e2) b2 ⟨D, xs, rfl, fresh_back e1 (hidf hD), (hideA_ne hDB).trans hxs, ?_, hxp⟩
      have : xs.length = m := by rw [hxl]; exact Int.toNat_natCast m
      rw [this]
      exact hL
def RRow (most : Nat) (sk : List Str) : Rel := fun v H1 H2 => ∃ p xs, v = .ref p ∧ H1 p = none ∧ H2 p = some (.lst (svs xs)) ∧ xs.length ≤ most ∧ ∀ x ∈ xs, x ∈ sk
def spLRow (K : PySem.W.Frag) : Sp := bagD fun ws Hc R => ∃ D q most, ws = [.ref D, .int ((most : Nat) : Int)] ∧ PlAt Hc D q ∧ PlOk q ∧ most ≤ 100 ∧ R = RRow most q.ks
theorem sc_L_row : FnScope ["_law_bag_here", "_law_plan_here", "_law_most", "_law_k"] ["_law_bag_here", "_law_plan_here", "_law_most"] (defScope s_L_row) := C8.fnScope_by (by decide +kernel)
theorem ok_L_row (T : Tp K mg) (F : FD K d_L_row) (c_L_take : C8.Cal P w K mg base 1 "_law_take" spTake []) : C8.Cal P w K mg base 2 "_law_row" (spLRow K) [] := by
  refine cal_k F T.g_law_row sc_L_row (fun _ _ _ _ _ _ us hl => match us, hl with | [_, _, _], _ => rfl) (fun vs H Q E h => ?_) (fun cdv A outer s H vs Q E hr h => ?_)
  · obtain ⟨B, cl, ws, R, rfl, _, ⟨D, pq, most, rfl, _⟩, _⟩ := h
    rfl
  · obtain ⟨B, cl, ws, R, rfl, hb, ⟨D, pq, most, rfl, hP, hO, hm, rfl⟩, q⟩ := h
    refine ⟨_, (pss_one (ps_ret (pe_lc (own := [("_law_k", 3)]) (g := (gName 3)) (by rfl) (sc_L_row).nd (pi_range1 (by rfl) T.f_range (pa_cons (C8.pe_c c_L_take hr (by decide) (by rfl) (pa_cons (pv 0) (pa_cons (pe_op op_add (pv 2) pe_int) pa_nil))) pa_nil)) (blkOk_by (own := [("_law_k", 3)]) (N := ["_law_bag_here", "_law_plan_here", "_law_most", "_law_k"]) (sc := defScope s_L_row) (by decide +kernel)) (fun _ _ _ _ _ => (pg_name (i := 3) (sc_L_row).nd rfl (by first | exact .inl rfl | exact .inr rfl))) (fun _ _ _ _ _ => pts_nil) (fun _ _ _ _ _ => (pe_ix (k_ixL (K := K) rfl) (pe_dget (hu_of hr) (pv 1) pe_str (fun _ _ => rfl)) (C8.pe_c c_L_take hr (by decide) (by rfl) (pa_cons (pv 0) (pa_cons (pe_callB (k_len (K := K) rfl) (by rfl) T.f_len PySem.boot_len (pa_cons (pe_dget (hu_of hr) (pv 1) pe_str (fun _ _ => rfl)) pa_nil)) pa_nil))) (fun _ _ => rfl)))))), ?_⟩
    have hl1 := hO.pos
    have hl8 := hO.len
    refine sb_ret (erb_compS (fun m => m ≤ most) (fun z => z ∈ pq.ks) (EvRB.imp (erb_take (n := most + 1) (fun _ => ev_var rfl) (lb_v (v := .int ((most + 1 : Nat) : Int)) (ev_op (ev_var rfl) ev_c rv_I0)) fun v H1 H2 r => ⟨most + 1, r, by omega, by omega, Nat.le_refl _⟩) fun v H1 H2 _ _ ⟨k, hk, ev⟩ => ⟨k, ev, by omega, by omega⟩) (fun _ => rfl) fun i Hd ed => ?_) hb q
    obtain ⟨kl, pr, pa, hq⟩ := hP.ex ed
    refine erb_op (lb_v (ev_pks (ev_var rfl) ev_c hq)) (erb_take (n := pq.ks.length) (fun _ => ev_var rfl) (lb_v (ev_len (ev_pks (ev_var rfl) ev_c hq) (SqL.of hq.kinds))) fun v H1 H2 r => ⟨pq.ks.length, by rw [svs_len] at r; exact r, by omega, by omega, Nat.le_refl _⟩) fun x y H1 H2 H3 e1 e2 e3 rx ry => ?_
    obtain ⟨k, hk, rfl⟩ := ry
    have rx : x = .ref kl := rx
    subst rx
    exact ⟨.str pq.ks[k], fun Hf ef Q qq => ⟨kl, svs pq.ks, (k : Int), _, rfl, rfl, SqL.of ((((e1.trans e2).trans e3).trans ef) _ _ hq.kinds), atI_nat (svs_get (List.getElem?_eq_getElem hk)), qq⟩, _, rfl, List.getElem_mem hk⟩
end
end K64
set_option Elab.async false
set_option linter.all false
set_option maxRecDepth 100000
set_option maxHeartbeats 4000000
/-! _law_like. -/
namespace K64
open PySem PySem.Spec PyProof.Rows L2 Evl
section
variable {K : PySem.W.Frag} {σ : L2.St} {B cl : Addr} {Hc H : Hp} {ta tb te : TE} {sk : List Str}
theorem rrow_mono {a b : Nat} {v : V} {H1 H2 : Hp} (h : RRow a sk v H1 H2) (hab : a ≤ b) : RRow b sk v H1 H2 := by
  obtain ⟨p, xs, h1, h2, h3, h4, h5⟩ := h
  exact ⟨p, xs, h1, h2, h3, by omega, h5⟩
theorem bk_row {n : Nat} : Bk (RRow n sk) := fun v H1 H2 H3 e ⟨p, xs, h1, h2, h3, h4, h5⟩ => ⟨p, xs, h1, fresh_back e h2, h3, h4, h5⟩
theorem lb_row {xs : List Str} {n : Nat} (h : EvL te σ Hc (svs xs)) (hl : xs.length ≤ n) (hk : ∀ x ∈ xs, x ∈ sk) : EvRB te σ B cl Hc (RRow n sk) := EvRB.imp (lb_l h) fun v H1 H2 _ _ ⟨p, h1, h2, h3⟩ => ⟨p, xs, h1, h2, h3, hl, hk⟩
theorem erb_cat {a b : Nat} (ha : EvRB ta σ B cl Hc (RRow a sk)) (hb : EvRB tb σ B cl Hc (RRow b sk)) (hz : a + b ≤ 100000) : EvRB (tOp rCat ta tb) σ B cl Hc (RRow (a + b) sk) :=
  erb_opR ha hb fun x y H1 H2 H3 e1 e2 e3 ⟨p, xs, ex, p1, p2, p3, p4⟩ ⟨r, ys, ey, r1, r2, r3, r4⟩ => by
    subst ex
    subst ey
    refine ⟨RL (svs xs ++ svs ys), fun Hf ef Q q => ⟨p, r, _, _, rfl, rfl, ef _ _ (e3 _ _ p2), ef _ _ r2, sz_of (by rw [svs_len, svs_len]; omega), fun l hl => q _ _ (Ex.new hl) ⟨l, rfl, hl, upd_same⟩⟩, ?_⟩
    rintro z Hf Hg hb hf eg ⟨l, rfl, hl, hl'⟩
    refine ⟨l, xs ++ ys, rfl, ?_, ?_, by rw [List.length_append]; omega, fun x hx => (List.mem_append.mp hx).elim (p4 x) (r4 x)⟩
    · have := hidf (B := B) hl
      rw [hf] at this
      exact fresh_back (e2.trans e3) this
    · have := hids (B := B) hb hl hl'
      rw [this, ← List.map_append]
theorem el_revL {xs : List V} (h : EvL te σ H xs) : EvL (tRevL K te) σ H xs.reverse := fun H1 e Q q =>
  h H1 e _ fun p H2 hp e2 h2 => ⟨p, xs, rfl, SqL.of h2, fun l hl => q l _ (fresh_back e2 hl) (e2.trans (Ex.new hl)) upd_same⟩
/-- list(e), e a tuple of two kinds -/
theorem erb_list2 (h : EvRB te σ B cl Hc (fun v _ H2 => ∃ a x y, v = .ref a ∧ H2 a = some (.tup [.str x, .str y]) ∧ x ∈ sk ∧ y ∈ sk)) : EvRB (tCB (rListS K) (tCons te tNil)) σ B cl Hc (RRow 2 sk) := fun H1 a b Q q =>
  h H1 a b _ fun v H2 e b2 ⟨t, x, y, ev, ht, hx, hy⟩ => by
    subst ev
    refine ⟨t, _, rfl, .inr (st_of (hideA_ex _ _ _ _ ht)), fun l hl => q _ _ (e.trans (hideA_mono (Ex.new hl))) (b2.ex (Ex.new hl)) ⟨l, [x, y], rfl, fresh_back e (hidf hl), hids b2.some hl upd_same, by simp, fun z hz => ?_⟩⟩
    have : z = x ∨ z = y := by simpa using hz
    rcases this with rfl | rfl
    · exact hx
    · exact hy
theorem qb_forR {D : Ends} {tz tu : TS} {tn : TE} {j n : Nat} (hn : EvRB tn σ B cl (hideA B H) (fun v _ _ => ∃ m : Nat, v = .int (m : Int) ∧ m ≤ n)) (hz : n ≤ 100000) (b : BagAt H B cl) (Pv : Nat → L2.St → Hp → Prop) (h0 : ∀ H1, Ex (hideA B H) (hideA B H1) → BagAt H1 B cl → Pv 0 σ H1)
    (hs : ∀ (i : Nat) σ' H', i < n → Pv i σ' H' → tu { D with nx := Pv (i + 1), ct := Pv (i + 1), bk := tz D } (σ'.set j (some (.int (i : Int)))) H') (hd : ∀ m σ' H', m ≤ n → Pv m σ' H' → tz D σ' H') : tSeq (tFor (iRng1 (tCons tn tNil)) (gName j) tu) tz D σ H := hn H (Ex.refl _) b _ fun v H1 e1 b1 ⟨m, ev, hm⟩ => by
  subst ev
  refine ⟨(m : Int), rfl, by omega, by omega, for_it (D := { D with nx := tz D }) (walk_range.mono (fun _ h => h) fun i H x H' _ _ y => (⟨y.1, by rw [y.2]; exact congrArg V.int (Int.zero_add _)⟩ : YFn (fun i => V.int ((i : Nat) : Int)) i H x H')) Pv (h0 H1 e1 b1) (fun _ _ _ _ _ => True.intro) (fun i x σ' H2 H3 hi h y => ?_) fun σ' H2 h => hd m σ' H2 hm (by rwa [Int.toNat_natCast] at h)⟩
  obtain ⟨rfl, rfl⟩ := y
  exact hs i σ' H3 (by omega) h
end
theorem canLay_pairs : ∀ ps : List (Str × Str), (∀ p ∈ ps, okS p.1 ∧ okS p.2) → PyData.canLayAll0 (ps.map PySem.W.Datum.toD) = true
  | [], _ => rfl
  | p :: r, h => by
    rw [List.map_cons, PyData.canLayAll0, canLay_pairs r fun y hy => h y (List.mem_cons_of_mem _ hy), Bool.and_true]
    show PyData.canLay0 (.tuple [.str p.1, .str p.2]) = true
    have so : ∀ {x : Str}, okS x → PyData.strOk x = true := fun {x} h => by
      unfold PyData.strOk
      rw [← Array.all_toList, List.all_eq_true]
      intro c hc
      exact decide_eq_true (h c hc)
    rw [PyData.canLay0, PyData.canLayAll0, PyData.canLayAll0, PyData.canLayAll0, PyData.canLay0, PyData.canLay0, so (h p List.mem_cons_self).1, so (h p List.mem_cons_self).2]
    rfl
theorem shaped_pairs {ps : List (Str × Str)} (h : ∀ p ∈ ps, okS p.1 ∧ okS p.2) : SeqAt.shaped (PySem.W.Datum.toD ps) = true := by
  unfold SeqAt.shaped
  rw [Bool.and_eq_true]
  refine ⟨?_, decide_eq_true (Nat.le_trans (PySem.W.Datum.depth_le ps) (by decide))⟩
  show PyData.canLay0 (.list _) = true
  rw [PyData.canLay0]
  exact canLay_pairs ps h
section
variable {P : Program} {w : World} {K : PySem.W.Frag} {mg : Str → Option Value} {base : Heap}
theorem PlOk.pairs {q : Pl} (h : PlOk q) : ∀ p ∈ q.ps, okS p.1 ∧ okS p.2 := fun p hp => ⟨(h.good _ (h.pin p hp).1).ok, (h.good _ (h.pin p hp).2).ok⟩
def spLLike (K : PySem.W.Frag) : Sp := bagD fun ws Hc R => ∃ D r q row, ws = [.ref D, .ref r] ∧ PlAt Hc D q ∧ PlOk q ∧ Hc r = some (.lst (svs row)) ∧ row.length ≤ 100 ∧ (∀ x ∈ row, x ∈ q.ks) ∧ R = RRow (row.length + 6) q.ks
theorem sc_L_like : FnScope ["_law_bag_here", "_law_plan_here", "_law_row_here", "_law_found", "_law_k", "_law_at", "_law_way"] ["_law_bag_here", "_law_plan_here", "_law_row_here"] (defScope s_L_like) := C8.fnScope_by (by decide +kernel)
theorem ok_L_like (T : Tp K mg) (F : FD K d_L_like) (c_L_take : C8.Cal P w K mg base 1 "_law_take" spTake []) (c_L_fit : C8.Cal P w K mg base 1 "_law_fit" (spLFit K) []) : C8.Cal P w K mg base 2 "_law_like" (spLLike K) [] := by
  refine cal_k F T.g_law_like sc_L_like (fun _ _ _ _ _ _ us hl => match us, hl with | [_, _, _], _ => rfl) (fun vs H Q E h => ?_) (fun cdv A outer s H vs Q E hr h => ?_)
  · obtain ⟨B, cl, ws, R, rfl, _, ⟨D, r, pq, row, rfl, _⟩, _⟩ := h
    rfl
  · obtain ⟨B, cl, ws, R, rfl, hb, ⟨D, r, pq, row, rfl, hP, hO, hrw, hz, hin, rfl⟩, q⟩ := h
    refine ⟨_, (pss_cons (ps_set (i := 3) (sc_L_like).nd rfl (.inl rfl) (pe_callTy (k_list (K := K) rfl) (by rfl) T.f_list PyProof.Rows.boot_list (pa_cons (pv 2) pa_nil)))
  (pss_cons (ps_for PassesOwn.never rfl (pi_range1 (by rfl) T.f_range (pa_cons (C8.pe_c c_L_take hr (by decide) (by rfl) (pa_cons (pv 0) (pa_cons pe_int pa_nil))) pa_nil)) (pg_name (i := 4) (sc_L_like).nd rfl (.inl rfl))
  (pss_cons (ps_par (i := 5) (j := 6) (by rfl) (sc_L_like).nd rfl rfl (by decide) rfl rfl (pa_cons (C8.pe_c c_L_take hr (by decide) (by rfl) (pa_cons (pv 0) (pa_cons (pe_op op_add (pe_callB (k_len (K := K) rfl) (by rfl) T.f_len PySem.boot_len (pa_cons (pv 3) pa_nil)) pe_int) pa_nil))) (pa_cons (C8.pe_c c_L_take hr (by decide) (by rfl) (pa_cons (pv 0) (pa_cons pe_int pa_nil))) pa_nil)) (by rfl))
  (pss_one (ps_if (pt_cmpR op_eq (pv 6) pe_int (nomark _))
  (pss_one (ps_set (i := 3) (sc_L_like).nd rfl (.inl rfl) (pe_op op_cat (pe_op op_cat (pe_slice (k_slL (K := K) rfl) (pv 3) po_none (po_some (pv 5))) (k_revL (K := K) rfl (pe_slice (k_slL (K := K) rfl) (pv 3) (po_some (pv 5)) (po_some (pe_op op_add (pv 5) pe_int))))) (pe_slice (k_slL (K := K) rfl) (pv 3) (po_some (pe_op op_add (pv 5) pe_int)) po_none))))
  (pss_one (ps_if (PW.pt (pw_and (pt_cmpR op_eq (pv 6) pe_int (nomark _)) (pw_and (pt_cmpR op_gt (pe_callB (k_len (K := K) rfl) (by rfl) T.f_len PySem.boot_len (pa_cons (pv 3) pa_nil)) (pe_op op_add (pv 5) pe_int) (nomark _)) (pw_and1 (pt_val (C8.pe_c c_L_fit hr (by decide) (by rfl) (pa_cons (pv 1) (pa_cons (pe_ix (k_ixL (K := K) rfl) (pv 3) (pv 5) (fun _ _ => rfl)) (pa_cons (pe_ix (k_ixL (K := K) rfl) (pv 3) (pe_op op_add (pv 5) pe_int) (fun _ _ => rfl)) pa_nil)))))))))
  (pss_one (ps_set (i := 3) (sc_L_like).nd rfl (.inl rfl) (pe_op op_cat (pe_slice (k_slL (K := K) rfl) (pv 3) po_none (po_some (pv 5))) (pe_slice (k_slL (K := K) rfl) (pv 3) (po_some (pe_op op_add (pv 5) pe_int)) po_none))))
  (pss_one (ps_if (PW.pt (pw_and (pt_cmpR op_eq (pv 6) pe_int (nomark _)) (pw_and1 (pt_cmpR (k_neD (K := K) rfl hr) (pe_dget (hu_of hr) (pv 1) pe_str (fun _ _ => rfl)) (pe_lst pa_nil) (nomark _)))))
  (pss_one (ps_set (i := 3) (sc_L_like).nd rfl (.inl rfl) (pe_op op_cat (pe_op op_cat (pe_slice (k_slL (K := K) rfl) (pv 3) po_none (po_some (pv 5))) (pe_callTy (k_list (K := K) rfl) (by rfl) T.f_list PyProof.Rows.boot_list (pa_cons (pe_ix (k_ixL (K := K) rfl) (pe_dget (hu_of hr) (pv 1) pe_str (fun _ _ => rfl)) (C8.pe_c c_L_take hr (by decide) (by rfl) (pa_cons (pv 0) (pa_cons (pe_callB (k_len (K := K) rfl) (by rfl) T.f_len PySem.boot_len (pa_cons (pe_dget (hu_of hr) (pv 1) pe_str (fun _ _ => rfl)) pa_nil)) pa_nil))) (fun _ _ => rfl)) pa_nil))) (pe_slice (k_slL (K := K) rfl) (pv 3) (po_some (pv 5)) po_none))))
  pss_nil))))))))
  (pss_one (ps_ret (pv 3))))), ?_⟩
    refine qb_asg (lb_row (n := row.length) (el_list (ev_var rfl) (SqL.of hrw)) (Nat.le_refl _) hin) hb fun v H1 e1 b1 r1 => ?_
    have hmv := e1
    refine qb_forR (n := 3) (EvRB.imp (erb_take (n := 4) (fun _ => ev_var rfl) (lb_v ev_c) fun v H1 H2 r => ⟨4, r, by omega, by omega, Nat.le_refl _⟩) fun v H1 H2 _ _ ⟨k, hk, ev⟩ => ⟨k, ev, by omega⟩) (by omega) b1 (fun i σ' H' => ∃ (f : V) (y4 y5 y6 : Option V), σ' = [some (.ref B), some (.ref D), some (.ref r), some f, y4, y5, y6] ∧ Ex (hideA B H) (hideA B H') ∧ BagAt H' B cl ∧ RRow (row.length + 2 * i) pq.ks f (hideA B H) (hideA B H')) (fun H2 e2 b2 => ⟨v, _, _, _, rfl, e1.trans e2, b2, ?_⟩) ?_ ?_
    · obtain ⟨p, xs, z1, z2, z3, z4⟩ := r1
      exact ⟨p, xs, z1, z2, e2 _ _ z3, z4⟩
    · rintro i σ' H2 hi ⟨f, y4, y5, y6, rfl, e2, b2, p, xs, rfl, hp, hp', hxl, hxk⟩
      have hP2 := hP.ex e2
      refine qb_par (T := fun x y _ _ => ∃ at_ way : Nat, x = .int (at_ : Int) ∧ y = .int (way : Int) ∧ at_ ≤ xs.length) (earb_cons (erb_take (n := xs.length + 1) (fun _ => ev_var rfl) (lb_v (v := .int ((xs.length + 1 : Nat) : Int)) (ev_is (ev_op (ev_len (ev_var rfl) (SqL.of hp')) ev_c rv_I0) (by rw [svs_len]; rfl))) fun v H1 H2 r => ⟨xs.length + 1, r, by omega, by omega, Nat.le_refl _⟩) (earb_cons (erb_take (n := 3) (fun _ => ev_var rfl) (lb_v ev_c) fun v H1 H2 r => ⟨3, r, by omega, by omega, Nat.le_refl _⟩) earb_nil)) b2 ?_ ?_
      · rintro vs Hx ex ⟨v1, r1, Hy, rfl, ey, ez, ⟨k1, hk1, rfl⟩, v2, r2, Hz, rfl, eu, ew, ⟨k2, hk2, rfl⟩, rfl⟩
        exact ⟨_, _, rfl, k1, k2, rfl, rfl, by omega⟩
      rintro x y H3 e3 b3 ⟨at_, way, rfl, rfl, hat⟩
      have ex3 := e2.trans e3
      have hp3 := e3 _ _ hp'
      have fin : ∀ {H4 : Hp}, Ex H3 H4 → ∀ (D' : Ends) (te : TE), EvRB te [some (.ref B), some (.ref D), some (.ref r), some (.ref p), some (.int (i : Int)), some (.int (at_ : Int)), some (.int (way : Int))] B cl (hideA B H4) (RRow (xs.length + 2) pq.ks) →
          (∀ v H5, (∃ (f : V) (y4 y5 y6 : Option V), [some (.ref B), some (.ref D), some (.ref r), some v, some (.int (i : Int)), some (.int (at_ : Int)), some (.int (way : Int))] = [some (.ref B), some (.ref D), some (.ref r), some f, y4, y5, y6] ∧ Ex (hideA B H) (hideA B H5) ∧ BagAt H5 B cl ∧ RRow (row.length + 2 * (i + 1)) pq.ks f (hideA B H) (hideA B H5)) → D'.nx [some (.ref B), some (.ref D), some (.ref r), some v, some (.int (i : Int)), some (.int (at_ : Int)), some (.int (way : Int))] H5) →
          tAsg te (gName 3) D' [some (.ref B), some (.ref D), some (.ref r), some (.ref p), some (.int (i : Int)), some (.int (at_ : Int)), some (.int (way : Int))] H4 := by
        intro H4 e4 D' te h kk
        refine sb_asg h (b3.ex e4) fun v H5 e5 b5 r5 => kk v H5 ⟨v, _, _, _, rfl, (ex3.trans (hideA_mono e4)).trans e5, b5, rrow_mono (bk_row _ _ _ _ (ex3.trans (hideA_mono e4)) r5) (by omega)⟩
      have slT : ∀ {H4 : Hp} {t1 t2 : TE}, Ex H3 H4 → Ev t1 [some (.ref B), some (.ref D), some (.ref r), some (.ref p), some (.int (i : Int)), some (.int (at_ : Int)), some (.int (way : Int))] (hideA B H4) (.ref p) → Ev t2 [some (.ref B), some (.ref D), some (.ref r), some (.ref p), some (.int (i : Int)), some (.int (at_ : Int)), some (.int (way : Int))] (hideA B H4) (.int (at_ : Int)) → EvRB (tSl (rSlL K) t1 tNoPart (tPart t2)) [some (.ref B), some (.ref D), some (.ref r), some (.ref p), some (.int (i : Int)), some (.int (at_ : Int)), some (.int (way : Int))] B cl (hideA B H4) (RRow at_ pq.ks) := by
        intro H4 t1 t2 e4 h1 h2
        exact lb_row (xs := xs.take at_) (el_is (el_sl h1 eo_none (eo_some h2) (SqL.of (hideA_mono e4 _ _ hp3))) (by rw [cut_to]; exact List.map_take.symm)) (by rw [List.length_take]; omega) fun x hx => hxk x (List.mem_of_mem_take hx)
      have slD : ∀ {H4 : Hp} {t1 t2 : TE} {j : Nat}, Ex H3 H4 → at_ ≤ j → Ev t1 [some (.ref B), some (.ref D), some (.ref r), some (.ref p), some (.int (i : Int)), some (.int (at_ : Int)), some (.int (way : Int))] (hideA B H4) (.ref p) → Ev t2 [some (.ref B), some (.ref D), some (.ref r), some (.ref p), some (.int (i : Int)), some (.int (at_ : Int)), some (.int (way : Int))] (hideA B H4) (.int (j : Int)) → EvRB (tSl (rSlL K) t1 (tPart t2) tNoPart) [some (.ref B), some (.ref D), some (.ref r), some (.ref p), some (.int (i : Int)), some (.int (at_ : Int)), some (.int (way : Int))] B cl (hideA B H4) (RRow (xs.length - at_) pq.ks) := by
        intro H4 t1 t2 j e4 hj h1 h2
        exact lb_row (xs := xs.drop j) (el_is (el_sl h1 (eo_some h2) eo_none (SqL.of (hideA_mono e4 _ _ hp3))) (by rw [cut_from]; exact List.map_drop.symm)) (by rw [List.length_drop]; omega) fun x hx => hxk x (List.mem_of_mem_drop hx)
      have ev2 : ∀ {Hx : Hp}, Ev (tOp (rI0 fun i j => .int (i + j)) (tVar 5) (tC (.int 2))) [some (.ref B), some (.ref D), some (.ref r), some (.ref p), some (.int (i : Int)), some (.int (at_ : Int)), some (.int (way : Int))] Hx (.int ((at_ + 2 : Nat) : Int)) := fun {Hx} => ev_op (ev_var rfl) ev_c rv_I0
      refine s_if (et_B (ev_op (ev_var rfl) ev_c (rv_eq rfl))) (fun hb4 H4 e4 => ?_) fun hb4 H4 e4 => ?_
      · refine fin e4 _ _ (EvRB.imp (erb_cat (erb_cat (slT e4 (ev_var rfl) (ev_var rfl)) (lb_row (n := 2) (xs := ((xs.drop at_).take 2).reverse) (el_is (el_revL (el_sl (ev_var rfl) (eo_some (ev_var rfl)) (eo_some ev2) (SqL.of (hideA_mono e4 _ _ hp3)))) ?_) (by rw [List.length_reverse, List.length_take]; omega) fun x hx => hxk x (List.mem_of_mem_drop (List.mem_of_mem_take (List.mem_reverse.mp hx)))) (by omega)) (slD e4 (j := at_ + 2) (by omega) (ev_var rfl) ev2) (by omega)) fun v Ha Hb _ _ r => rrow_mono r (by omega)) fun v H5 h => h
        rw [cut_mid, ← List.map_drop, ← List.map_take, ← List.map_reverse]
      · refine s_if (b := decide (way = 1) && (decide (at_ + 1 < xs.length) && pq.kd.fit (kdOf xs at_) (kdOf xs (at_ + 1)))) ?_ (fun hb5 H5 e5 => ?_) fun hb5 H5 e5 => ?_
        · have hp4 : H4 p = some (.lst (svs xs)) := e4 _ _ (hideA_ex _ _ _ _ hp3)
          refine et_and (et_is (et_B (ev_op (ev_var rfl) ev_c (rv_eq rfl))) ?_) fun h1 => et_and (et_is (et_B (ev_op (ev_len (ev_var rfl) (SqL.of hp4)) (ev_op (ev_var rfl) ev_c rv_I0) rv_I0)) ?_) fun h2 => ?_
          · rw [Bool.eq_iff_iff, decide_eq_true_eq, decide_eq_true_eq]
            constructor
            · intro h
              injection h with h
              omega
            · intro h
              rw [h]
              rfl
          · rw [svs_len, Bool.eq_iff_iff, decide_eq_true_eq, decide_eq_true_eq]
            omega
          · have h2 := of_decide_eq_true h2
            exact et_B (ev_fit (ev_var rfl) (ev_ixL (i := at_) (ev_var rfl) (ev_var rfl) (SqL.of hp4) (svs_get (by rw [kdOf_at (List.getElem?_eq_getElem (show at_ < xs.length by omega)), List.getElem?_eq_getElem (show at_ < xs.length by omega)]))) (ev_ixL (i := at_ + 1) (ev_var rfl) (ev_op (ev_var rfl) ev_c rv_I0) (SqL.of hp4) (svs_get (by rw [kdOf_at (List.getElem?_eq_getElem h2), List.getElem?_eq_getElem h2]))) ((hP.ex ex3).ex ((hideA_ex _ _).trans e4)))
        · exact fin (e4.trans e5) _ _ (EvRB.imp (erb_cat (slT (e4.trans e5) (ev_var rfl) (ev_var rfl)) (slD (e4.trans e5) (j := at_ + 2) (by omega) (ev_var rfl) ev2) (by omega)) fun v Ha Hb _ _ r => rrow_mono r (by omega)) fun v H6 h => h
        · have e45 := e4.trans e5
          have hP5 : PlAt (hideA B H5) D pq := (hP.ex ex3).ex (hideA_mono e45)
          obtain ⟨kl, pr, pa, hq⟩ := hP5
          have hq5 : PlA H5 D kl pr pa pq := hq.ex (hideA_ex _ _)
          refine s_if (b := decide (way = 2) && !decide (pq.ps = [])) ?_ (fun hb6 H6 e6 => ?_) fun hb6 H6 e6 => ?_
          · refine et_and (et_is (et_B (ev_op (ev_var rfl) ev_c (rv_eq rfl))) ?_) fun h1 => ?_
            · rw [Bool.eq_iff_iff, decide_eq_true_eq, decide_eq_true_eq]
              constructor
              · intro h
                injection h with h
                omega
              · intro h
                rw [h]
                rfl
            · refine et_B (ev_opL (ev_pps (ev_var rfl) ev_c hq5) (el_lst ea_nil (by simp)) fun l Hl hl el => ?_)
              intro Hm em Q' q'
              refine ⟨PySem.W.Datum.toD pq.ps, PySem.W.Datum.toD ([] : List (Str × Str)), Dp.lst (SqL.of (em _ _ (el _ _ hq5.pairs))) (dp_pairs (Paired.mapP hq5.pair fun a b z => em _ _ (el _ _ z))), Dp.lst (SqL.of (em _ _ hl)) .nil, shaped_pairs hO.pairs, rfl, ?_⟩
              rw [PySem.W.Datum.eqv]
              have := q' Hm (Ex.refl Hm)
              rw [show (!decide (pq.ps = [])) = !(decide (pq.ps = ([] : List (Str × Str)))) from rfl] at this
              exact this
          · simp only [Bool.and_eq_true, Bool.not_eq_true', decide_eq_false_iff_not] at hb6
            have hps := List.length_pos_iff.mpr hb6.2
            have hpl := hO.plen
            have hqx := hq.ex (hideA_mono (D := B) e6)
            have hlp := Paired.length hqx.pair
            refine fin (e45.trans e6) _ _ (EvRB.imp (erb_cat (erb_cat (slT (e45.trans e6) (ev_var rfl) (ev_var rfl)) (erb_list2 (erb_op (lb_v (ev_pps (ev_var rfl) ev_c hqx)) (erb_take (n := pq.ps.length) (fun _ => ev_var rfl) (lb_v (ev_len (ev_pps (ev_var rfl) ev_c hqx) (SqL.of hqx.pairs))) fun v H1 H2 r => ⟨pq.ps.length, by rw [List.length_map, hlp] at r; exact r, by omega, by omega, Nat.le_refl _⟩) fun x y Ha Hb Hd ea eb ed rx ry => ?_)) (by omega)) (slD (e45.trans e6) (j := at_) (by omega) (ev_var rfl) (ev_var rfl)) (by omega)) fun v Ha Hb _ _ r => rrow_mono r (by omega)) fun v H7 h => h
            obtain ⟨k, hk, rfl⟩ := ry
            have rx : x = .ref pr := rx
            subst rx
            have hka : pa[k]? = some (pa[k]'(by omega)) := List.getElem?_eq_getElem (by omega)
            obtain ⟨pp, w1, w2⟩ := paired_at hqx.pair hka
            have eall := (ea.trans eb).trans ed
            refine ⟨.ref (pa[k]'(by omega)), fun Hf ef Q' q' => ⟨pr, rvs pa, (k : Int), _, rfl, rfl, SqL.of (ef _ _ (eall _ _ hqx.pairs)), atI_nat (by rw [List.getElem?_map, hka]; rfl), q'⟩, _, pp.1, pp.2, rfl, eall _ _ w2, ?_⟩
            exact hO.pin pp (List.mem_of_getElem? w1)
          · exact ⟨.ref p, _, _, _, rfl, ex3.trans (hideA_mono (e45.trans e6)), b3.ex (e45.trans e6), rrow_mono ⟨p, xs, rfl, hp, hideA_mono (e45.trans e6) _ _ hp3, hxl, hxk⟩ (by omega)⟩
    · rintro m σ' H2 hm ⟨f, y4, y5, y6, rfl, e2, b2, r2⟩
      obtain ⟨p, xs, rfl, hp, hp', hxl, hxk⟩ := r2
      exact s_ret (ev_var rfl) fun H3 e3 => q _ H3 (e2.trans (hideA_mono e3)) (b2.ex e3) ⟨p, xs, rfl, hp, hideA_mono e3 _ _ hp', by omega, hxk⟩
end
end K64
set_option Elab.async false
set_option linter.all false
set_option maxRecDepth 100000
set_option maxHeartbeats 4000000
/-! _law_places, _law_few. -/
namespace K64
open PySem PySem.Spec PyProof.Rows L2 Evl
def placesL : Nat → List (Nat × Nat)
  | 0 => []
  | n + 1 => placesL n ++ (List.range n).map fun j => (j, n)
theorem placesL_lt : ∀ n, ∀ p ∈ placesL n, p.1 < p.2 ∧ p.2 < n
  | 0, p, h => nomatch h
  | n + 1, p, h => by
    rcases List.mem_append.mp h with h | h
    · have := placesL_lt n p h
      omega
    · obtain ⟨j, hj, rfl⟩ := List.mem_map.mp h
      have := List.mem_range.mp hj
      exact ⟨this, Nat.lt_succ_self _⟩
theorem placesL_nd : ∀ n, (placesL n).Nodup
  | 0 => List.nodup_nil
  | n + 1 => by
    refine List.nodup_append.mpr ⟨placesL_nd n, ?_, fun a ha b hb e => ?_⟩
    · exact List.Pairwise.map _ (fun a b h e => h (Prod.mk.inj e).1) List.nodup_range
    · obtain ⟨j, hj, rfl⟩ := List.mem_map.mp hb
      have := placesL_lt n a ha
      rw [e] at this
      exact absurd this.2 (Nat.lt_irrefl _)
theorem placesL_len : ∀ n, n ≤ 4 → (placesL n).length ≤ 6 := by decide
theorem placesL_len8 : ∀ n, n ≤ 8 → (placesL n).length ≤ 36 := by decide
section
variable {P : Program} {w : World} {K : PySem.W.Frag} {mg : Str → Option Value} {base : Heap}
abbrev FI (a : Addr) (p : Nat × Nat) (H : Hp) : Prop := H a = some (.tup [.int (p.1 : Int), .int (p.2 : Int)])
def spPlaces : Sp := pur fun vs _ R => ∃ n : Nat, vs = [.int (n : Int)] ∧ n ≤ 8 ∧ R = RObjs FI (placesL n)
theorem s_extR {σ : L2.St} {H : Hp} {D : Ends} {ta te : TE} {l : Addr} {xs : List V} {R : Rel} (hl : H l = some (.lst xs)) (ha : Ev ta σ H (.ref l)) (h : EvR te σ H R) (hR : ∀ v H0 H1, Ex H H0 → Ex H0 H1 → R v H0 H1 → ∃ p zs, v = .ref p ∧ H1 p = some (.lst zs) ∧ xs.length + zs.length ≤ 100000 ∧ D.nx σ (upd H1 l (.lst (xs ++ zs)))) :
    tDrop (tBM K "list" rExtend ta (tCons te tNil)) D σ H := ha H (Ex.refl H) _ fun H1 e1 => ⟨Or.inl ⟨rfl, xs, sq_of (e1 l _ hl)⟩, h H1 e1 _ fun v H2 e2 r => by
  obtain ⟨p, zs, rfl, hp, hz, k⟩ := hR v H1 H2 e1 e2 r
  exact ⟨l, p, xs, zs, rfl, rfl, e2 l _ (e1 l _ hl), hp, sz_of hz, k⟩⟩
theorem sc_L_places : FnScope ["_law_many", "_law_found", "_law_k", "_law_j"] ["_law_many"] (defScope s_L_places) := C8.fnScope_by (by decide +kernel)
theorem ok_L_places (T : Tp K mg) (F : FD K d_L_places) : C8.Cal P w K mg base 1 "_law_places" spPlaces [] := by
  refine cal_k F T.g_law_places sc_L_places (fun _ _ _ _ _ _ us hl => match us, hl with | [_], _ => rfl) (fun vs H Q E h => ?_) (fun cdv A outer s H vs Q E hr h => ?_)
  · obtain ⟨R, ⟨n, rfl, _⟩, _⟩ := h
    rfl
  · obtain ⟨R, ⟨n, rfl, hn, rfl⟩, q⟩ := h
    refine ⟨_, (pss_cons (ps_set (i := 1) (sc_L_places).nd rfl (.inl rfl) (pe_lst pa_nil))
  (pss_cons (ps_for PassesOwn.never rfl (pi_range1 (by rfl) T.f_range (pa_cons (pv 0) pa_nil)) (pg_name (i := 2) (sc_L_places).nd rfl (.inr rfl))
  (pss_one (ps_expr (k_bm (K := K) rfl PySem.F.plainAttrs_list PySem.F.slot_list_extend PySem.F.type_list_extend mt_extend (pv 1) (pa_cons (pe_lc (own := [("_law_j", 3)]) (g := (gName 3)) (by rfl) (sc_L_places).nd (pi_range1 (by rfl) T.f_range (pa_cons (pv 2) pa_nil)) (blkOk_by (own := [("_law_j", 3)]) (N := ["_law_many", "_law_found", "_law_k", "_law_j"]) (sc := defScope s_L_places) (by decide +kernel)) (fun _ _ _ _ _ => (pg_name (i := 3) (sc_L_places).nd rfl (by first | exact .inl rfl | exact .inr rfl))) (fun _ _ _ _ _ => pts_nil) (fun _ _ _ _ _ => (pe_tup (pa_cons (pv 3) (pa_cons (pv 2) pa_nil))))) pa_nil)))))
  (pss_one (ps_ret (pv 1))))), ?_⟩
    refine q_asgL (el_lst ea_nil (by simp)) fun fl H1 hfl e1 h1 => ?_
    refine q_forR1 (n := (n : Int)) (ea_cons (ev_var rfl) ea_nil) (by omega) (fun i σ' H' => ∃ (y2 y3 : Option V) (ps : List Addr), σ' = [some (.int (n : Int)), some (.ref fl), y2, y3] ∧ Ex H (hideA fl H') ∧ H' fl = some (.lst (rvs ps)) ∧ Paired (fun a b => FI a b (hideA fl H')) ps (placesL i)) (fun H2 e2 => ⟨_, _, [], rfl, fun b o hb => ?_, e2 _ _ h1, .nil⟩) ?_ ?_
    · rw [hideA_ne (ne_of_none hb hfl)]
      exact (e1.trans e2) _ _ hb
    · rintro i σ' H2 hi ⟨y2, y3, ps, rfl, ex, hf, hp⟩
      have hpl := Paired.length hp
      have hi8 : i < 8 := by omega
      have hl8 := placesL_len8 i (by omega)
      refine s_extR hf (ev_var rfl) (er_ofComp (F := FI) (fun j => (j, i)) (er_compR (Rl := fun j => RU [.int (j : Int), .int (i : Int)]) (F := fun y v H => ∃ a, v = .ref a ∧ FI a (y, i) H) (n := i) (ei_rngN (ev_var rfl) rfl (by omega)) (by omega) (fun _ => true) (fun y v A B e ⟨a, z1, z2⟩ => ⟨a, z1, e _ _ z2⟩) (fun y v A B D _ _ hA e ⟨a, z1, z2, z3⟩ => ⟨a, z1, (hideA_ne (fun q => hA (by rw [← q]; exact z2))).trans z3⟩) (fun _ => rfl) (fun _ _ _ _ => et_yes) fun y hy _ H3 e3 => er_u (eu_tup (ea_cons (ev_var rfl) (ea_cons (ev_var rfl) ea_nil)) (by simp)))) ?_
      rintro v H3 H4 e3 e4 ⟨p, qs, rfl, hp', hp2, hq⟩
      rw [filt_tt] at hq
      have hql := Paired.length hq
      rw [List.length_map, List.length_range] at hql
      refine ⟨p, rvs qs, rfl, hp2, by rw [List.length_map, List.length_map]; omega, _, _, ps ++ qs, rfl, ?_, by rw [upd_same]; simp, ?_⟩
      · rw [hideA_upd]
        exact ex.trans (hideA_mono (e3.trans e4))
      · rw [hideA_upd]
        refine paired_app (Paired.mapP hp fun a b z => hideA_mono (e3.trans e4) _ _ z) (Paired.mapP hq fun a b z => ?_)
        have z : H4 a = _ := z
        have hne : a ≠ fl := fun e => by
          rw [e, e4 _ _ (e3 _ _ hf)] at z
          cases z
        show hideA fl H4 a = _
        rw [hideA_ne hne]
        exact z
    · rintro σ' H2 ⟨y2, y3, ps, rfl, ex, hf, hp⟩
      rw [Int.toNat_natCast] at hp
      exact s_ret (ev_var rfl) fun H3 e3 => q _ H3 ((ex.trans (hideA_ex _ _)).trans e3) ⟨fl, ps, rfl, hfl, e3 _ _ hf, Paired.mapP hp fun a b z => e3 _ _ (hideA_ex _ _ _ _ z)⟩
/-! ### _law_few -/
def RPlan : Rel := fun v H1 H2 => ∃ D q, v = .ref D ∧ H1 D = none ∧ PlAt H2 D q ∧ PlOk q ∧ q.ks.length ≤ 4 ∧ q.ps.length ≤ 16
def spLPlan : Sp := bagD fun ws _ R => ws = [.int 4] ∧ R = RPlan
theorem lc_overN {σ : L2.St} {H : Hp} {te tb : TE} {tt : TT} {g : TG} {vs : List Nat} {R R' : Rel} (h : EvR te σ H R) (hb : Bk R') (k : ∀ v H1 H2, Ex H H1 → Ex H1 H2 → R v H1 H2 → EvR (tLc (iList K (tC v)) g tt tb vs) σ H2 R') : EvR (tLc (iList K te) g tt tb vs) σ H R' := fun H1 e Q q =>
  h H1 e _ fun v H2 e2 r => k v H1 H2 e e2 r H2 (Ex.refl H2) Q fun v' H3 e3 r' => q v' H3 (e2.trans e3) (hb _ _ _ _ e2 r')
/-- the pairs of one kind, then all of two -/
def fewPs (q : Pl) : List (Str × Str) := (q.ps.filter fun p => decide (p.1 = p.2)) ++ (placesL q.ks.length).map fun p => (kdOf q.ks p.1, kdOf q.ks p.2)
theorem kdOf_inj {ks : List Str} (h : ks.Nodup) {i j : Nat} (hi : i < ks.length) (hj : j < ks.length) (e : kdOf ks i = kdOf ks j) : i = j := by
  rw [kdOf_at (List.getElem?_eq_getElem hi), kdOf_at (List.getElem?_eq_getElem hj)] at e
  exact nd_inj h hi hj e
theorem few_ok {q : Pl} (h : PlOk q) (h4 : q.ks.length ≤ 4) (h16 : q.ps.length ≤ 16) : PlOk ⟨q.ks, fewPs q⟩ where
  nd := h.nd
  good := h.good
  pos := h.pos
  len := h.len
  pin := fun p hp => by
    rcases List.mem_append.mp hp with hp | hp
    · exact h.pin p (List.mem_filter.mp hp).1
    · obtain ⟨x, hx, rfl⟩ := List.mem_map.mp hp
      have := placesL_lt _ x hx
      exact ⟨kdOf_mem (ps := q.ks) (i := x.1) (fun _ h => h) (by omega), kdOf_mem (ps := q.ks) (i := x.2) (fun _ h => h) (by omega)⟩
  pnd := by
    show (List.map _ (_ ++ _)).Nodup
    rw [List.map_append]
    refine List.nodup_append.mpr ⟨h.pnd.sublist (List.Sublist.map _ List.filter_sublist), ?_, fun a ha b hb e => ?_⟩
    · rw [List.map_map]
      refine List.pairwise_map.mpr ((placesL_nd q.ks.length).imp_of_mem fun {x y} hx hy hne e => ?_)
      have lx := placesL_lt _ x hx
      have ly := placesL_lt _ y hy
      rcases ord2_eq.mp e with e | e
      · rw [Prod.mk.injEq] at e
        have e1 := kdOf_inj h.nd (i := y.1) (j := x.1) (by omega) (by omega) e.1
        have e2 := kdOf_inj h.nd (i := y.2) (j := x.2) (by omega) (by omega) e.2
        exact hne (Prod.ext e1.symm e2.symm)
      · rw [Prod.mk.injEq] at e
        have e1 := kdOf_inj h.nd (i := y.1) (j := x.2) (by omega) (by omega) e.1
        have e2 := kdOf_inj h.nd (i := y.2) (j := x.1) (by omega) (by omega) e.2
        omega
    · obtain ⟨x, hx, rfl⟩ := List.mem_map.mp ha
      rw [List.map_map] at hb
      obtain ⟨y, hy, rfl⟩ := List.mem_map.mp hb
      have hxx : x.1 = x.2 := of_decide_eq_true (List.mem_filter.mp hx).2
      have ly := placesL_lt _ y hy
      rcases ord2_eq.mp e with e | e
      · rw [Prod.mk.injEq] at e
        have := kdOf_inj h.nd (i := y.1) (j := y.2) (by omega) (by omega) (e.1.trans (hxx.trans e.2.symm))
        omega
      · rw [Prod.mk.injEq] at e
        have := kdOf_inj h.nd (i := y.1) (j := y.2) (by omega) (by omega) (e.1.trans (hxx.symm.trans e.2.symm))
        omega
  plen := by
    show (_ ++ _ : List (Str × Str)).length ≤ 36
    rw [List.length_append, List.length_map]
    have := List.length_filter_le (fun p : Str × Str => decide (p.1 = p.2)) q.ps
    have := placesL_len _ h4
    omega
def spLFew : Sp := bagD fun ws _ R => ws = [.int 4] ∧ R = fun v H1 H2 => ∃ D q, v = .ref D ∧ H1 D = none ∧ PlAt H2 D q ∧ PlOk q
theorem sc_L_few : FnScope ["_law_bag_here", "_law_most", "_law_plan_here", "_law_loops", "_law_pair", "_law_kinds", "_law_j", "_law_k"] ["_law_bag_here", "_law_most"] (defScope s_L_few) := C8.fnScope_by (by decide +kernel)
theorem put_pairs {kl pl p' : Addr} : putK [((Sum.inr "kinds" : Key), V.ref kl), (Sum.inr "pairs", .ref pl)] (Sum.inr "pairs") (.ref p') = [((Sum.inr "kinds" : Key), V.ref kl), (Sum.inr "pairs", .ref p')] := by
  have hne : ¬ ((Sum.inr ("kinds" : Str) : Key) = Sum.inr ("pairs" : Str)) := by decide
  unfold putK
  rw [if_pos (by rw [List.any_cons, List.any_cons, decide_eq_false hne]; simp)]
  simp only [List.map_cons, List.map_nil, if_neg hne]
  rfl
theorem ok_L_few (T : Tp K mg) (F : FD K d_L_few) (c_L_plan : C8.Cal P w K mg base 3 "_law_plan" spLPlan []) (c_L_take : C8.Cal P w K mg base 1 "_law_take" spTake []) (c_L_places : C8.Cal P w K mg base 1 "_law_places" spPlaces []) : C8.Cal P w K mg base 4 "_law_few" spLFew [] := by
  refine cal_k F T.g_law_few sc_L_few (fun _ _ _ _ _ _ us hl => match us, hl with | [_, _], _ => rfl) (fun vs H Q E h => ?_) (fun cdv A outer s H vs Q E hr h => ?_)
  · obtain ⟨B, cl, ws, R, rfl, _, ⟨rfl, _⟩, _⟩ := h
    rfl
  · obtain ⟨B, cl, ws, R, rfl, hb, ⟨rfl, rfl⟩, q⟩ := h
    refine ⟨_, (pss_cons (ps_set (i := 2) (sc_L_few).nd rfl (.inl rfl) (C8.pe_c c_L_plan hr (by decide) (by rfl) (pa_cons (pv 0) (pa_cons (pv 1) pa_nil))))
  (pss_cons (ps_if (pt_cmpR op_eq (C8.pe_c c_L_take hr (by decide) (by rfl) (pa_cons (pv 0) (pa_cons pe_int pa_nil))) pe_int (nomark _))
  (pss_cons (ps_setLc (i := 3) (own := [("_law_pair", 4)]) (g := (gName 4)) (by rfl) (sc_L_few).nd rfl rfl (sw_true rfl rfl rfl (by decide +kernel)) (k_piList (K := K) rfl (pe_dget (hu_of hr) (pv 2) pe_str (fun _ _ => rfl))) (blkOk_by (own := [("_law_pair", 4)]) (N := ["_law_bag_here", "_law_most", "_law_plan_here", "_law_loops", "_law_pair", "_law_kinds", "_law_j", "_law_k"]) (sc := defScope s_L_few) (by decide +kernel)) (fun _ _ _ _ _ => (pg_name (i := 4) (sc_L_few).nd rfl (by first | exact .inl rfl | exact .inr rfl))) (fun _ _ _ _ _ => (pts_one (pt_cmpR op_eq (pe_ix (k_ixT (K := K) rfl) (pv 4) pe_int (fun _ _ => rfl)) (pe_ix (k_ixT (K := K) rfl) (pv 4) pe_int (fun _ _ => rfl)) (nomark _)))) (fun _ _ _ _ _ => (pv 4)))
  (pss_cons (ps_set (i := 5) (sc_L_few).nd rfl (.inr rfl) (pe_dget (hu_of hr) (pv 2) pe_str (fun _ _ => rfl)))
  (pss_one (ps_dput (hu_of hr) (pv 2) pe_str (pe_op op_cat (pv 3) (pe_lc (own := [("_law_j", 6), ("_law_k", 7)]) (g := (gTup K 2 (gCons (gName 6) (gCons (gName 7) gNil)))) (by rfl) (sc_L_few).nd (k_piList (K := K) rfl (C8.pe_c c_L_places hr (by decide) (by rfl) (pa_cons (pe_callB (k_len (K := K) rfl) (by rfl) T.f_len PySem.boot_len (pa_cons (pv 5) pa_nil)) pa_nil))) (blkOk_by (own := [("_law_j", 6), ("_law_k", 7)]) (N := ["_law_bag_here", "_law_most", "_law_plan_here", "_law_loops", "_law_pair", "_law_kinds", "_law_j", "_law_k"]) (sc := defScope s_L_few) (by decide +kernel)) (fun _ _ _ _ _ => (k_pgTup (K := K) rfl rfl (pgs_cons (pg_name (i := 6) (sc_L_few).nd rfl (by first | exact .inl rfl | exact .inr rfl)) (pgs_cons (pg_name (i := 7) (sc_L_few).nd rfl (by first | exact .inl rfl | exact .inr rfl)) pgs_nil)))) (fun _ _ _ _ _ => pts_nil) (fun _ _ _ _ _ => (pe_tup (pa_cons (pe_ix (k_ixL (K := K) rfl) (pv 5) (pv 6) (fun _ _ => rfl)) (pa_cons (pe_ix (k_ixL (K := K) rfl) (pv 5) (pv 7) (fun _ _ => rfl)) pa_nil)))))) rfl))))
  pss_nil)
  (pss_one (ps_ret (pv 2))))), ?_⟩
    refine qb_asg (R := RPlan) (erb_callB (earb_cons (lb_v (ev_var rfl)) (earb_cons (lb_v (ev_var rfl)) earb_nil)) ?_) hb fun v H1 e1 b1 r1 => ?_
    · rintro vs Ha Hb ea eb ⟨v, r, Hc, rfl, ec, ed, rfl, v2, r2, Hd, rfl, ee, ef, rfl, rfl⟩
      exact ⟨_, _, rfl, ⟨rfl, rfl⟩, fun v H3 e ⟨D, q, z1, z2, z3⟩ => ⟨D, q, z1, fresh_back eb z2, z3⟩⟩
    obtain ⟨D, pq, rfl, hD, ⟨kl, pr, pa, hq⟩, hO, h4, h16⟩ := r1
    refine erb_op (r := rEq) (σ := [some (.ref B), some (.int 4), some (.ref D), none, none, none, none, none]) (Hc := hideA B H1) (cl := cl) (R := fun v _ _ => ∃ b : Bool, v = .bl b) (erb_take (n := 2) (fun _ => ev_var rfl) (lb_v ev_c) fun v Ha Hb r => ⟨2, r, by omega, by omega, Nat.le_refl _⟩) (lb_v (v := .int 0) ev_c) (fun x y Ha Hb Hd ea eb ed ⟨k, hk, ex⟩ ey => by
      have ey : y = .int 0 := ey
      subst ex
      subst ey
      exact ⟨.bl _, fun Hf _ Q' q' => ⟨rfl, q'⟩, _, rfl⟩) H1 (Ex.refl _) b1 _ fun v H2 e2 b2 ⟨bb, ev⟩ => ?_
    subst ev
    refine ⟨bb, rfl, ?_⟩
    have ex2 := e1.trans e2
    have hq2 := hq.ex e2
    cases bb with
    | false => exact s_ret (D := { nx := fun _ H' => Q .non H', rt := Q }) (ev_var rfl) fun H3 e3 => q _ H3 (ex2.trans (hideA_mono e3)) (b2.ex e3) ⟨D, pq, rfl, hD, ⟨kl, pr, pa, hq2.ex (hideA_mono e3)⟩, hO⟩
    | true =>
      have hq2' : PlA H2 D kl pr pa pq := hq2.ex (hideA_ex _ _)
      refine q_asgR (er_ofComp (F := FP) (fun s => s) (er_compPd (G := fun a b _ => FP a b H2) (p := fun p => decide (p.1 = p.2)) (Rl := fun s => fun v _ _ => ∃ a, v = .ref a ∧ FP a s H2) (F := fun y v H => ∃ a, v = .ref a ∧ FP a y H) (ei_list (ev_pps (ev_var rfl) ev_c hq2') (SqL.of hq2'.pairs)) hq2'.pair (fun _ _ _ _ _ h => h) (by have := Paired.length hq2'.pair; omega) (fun y v A B e ⟨a, w1, w2⟩ => ⟨a, w1, e _ _ w2⟩) (fun y v A B Dx hDx eA hA e ⟨a, w1, w2⟩ => ⟨a, w1, (hideA_ne (ne_of_none w2 hDx)).trans (e _ _ (eA _ _ w2))⟩) (fun _ => rfl) (fun a b H3 e3 g hm => ?_) (fun a b H3 e3 g hm _ => EvR.imp (er_v (ev_var rfl)) fun v Ha Hb _ _ r => ⟨a, r, g⟩))) fun v H3 e3 r3 => ?_
      · refine et_is (et_B (ev_op (ev_ixT (i := 0) (ev_var rfl) ev_c (e3 _ _ g) rfl) (ev_ixT (i := 1) (ev_var rfl) ev_c (e3 _ _ g) rfl) (rv_eq rfl))) ?_
        rw [Bool.eq_iff_iff, decide_eq_true_eq, decide_eq_true_eq]
        exact ⟨fun h => V.str.inj h, fun h => by rw [h]⟩
      rw [List.map_id'] at r3
      obtain ⟨lp, las, rfl, hlp, hlp', hlas⟩ := r3
      have hq3 := hq2'.ex e3
      refine q_asg (ev_pks (ev_var rfl) ev_c hq3) fun H4 e4 => ?_
      have hq4 := hq3.ex e4
      refine (er_catObjs (F := FP) (bs := pq.ps.filter fun p => decide (p.1 = p.2)) (cs := (placesL pq.ks.length).map fun p => (kdOf pq.ks p.1, kdOf pq.ks p.2)) (σ := [some (.ref B), some (.int 4), some (.ref D), some (.ref lp), none, some (.ref kl), none, none]) (fun a b A B e h => e _ _ h) (ev_var rfl) (e4 _ _ hlp') (Paired.mapP hlas fun a b z => e4 _ _ z) (lc_overN (R := RObjs FI (placesL pq.ks.length)) (er_callA (ea_cons (ev_len (ev_var rfl) (SqL.of hq4.kinds)) ea_nil) (fun H5 e5 => ⟨pq.ks.length, by rw [svs_len]; rfl, by omega, rfl⟩) bk_objs) bk_objs ?_) ?_) H4 (Ex.refl H4) _ fun v H7 e7 r7 => ?_
      · rintro v H5 H6 e5 e6 ⟨lq, qs, rfl, hlq, hlq', hqs⟩
        refine er_ofComp (F := FP) (fun p : Nat × Nat => (kdOf pq.ks p.1, kdOf pq.ks p.2)) ?_
        have hql := Paired.length hqs
        have := placesL_len _ h4
        have hcc := er_comp (tt := tYes) (p := fun _ => true) (ei_list (K := K) (te := tC (.ref lq)) (σ := [some (.ref B), some (.int 4), some (.ref D), some (.ref lp), none, some (.ref kl), none, none]) ev_c (SqL.of hlq')) (placesL pq.ks.length) (by rw [List.length_map]; exact hql.symm) (by rw [List.length_map]; omega) (g := gTup K 2 (gCons (gName 6) (gCons (gName 7) gNil))) (vs := [6, 7]) (te := tTup (tCons (tOp (rIxL K) (tVar 5) (tVar 6)) (tCons (tOp (rIxL K) (tVar 5) (tVar 7)) tNil))) (fun p => RU [.str (kdOf pq.ks p.1), .str (kdOf pq.ks p.2)]) (fun y v H => ∃ a, v = .ref a ∧ FP a (kdOf pq.ks y.1, kdOf pq.ks y.2) H) (fun y v A B e ⟨a, w1, w2⟩ => ⟨a, w1, e _ _ w2⟩) (fun y v A B Dx _ _ hA e ⟨a, w1, w2, w3⟩ => ⟨a, w1, (hideA_ne (fun q => hA (by rw [← q]; exact w2))).trans w3⟩) fun i y x H8 H9 hy e8 yy => ?_
        · rw [filt_tt] at hcc
          exact hcc
        · obtain ⟨rfl, hx⟩ := yy
          have hi : i < qs.length := by have := (List.getElem?_eq_some_iff.mp hy).1; omega
          obtain ⟨b, w1, w2⟩ := paired_at hqs (List.getElem?_eq_getElem hi)
          rw [hy] at w1
          cases w1
          rw [List.getElem?_map, List.getElem?_eq_getElem hi] at hx
          cases hx
          have hlt := placesL_lt _ y (List.mem_of_getElem? hy)
          have hk : ∀ {Hz : Hp}, Ex H9 Hz → Hz kl = some (.lst (svs pq.ks)) := fun {Hz} ez => ez _ _ (e8 _ _ (e6 _ _ (e5 _ _ hq4.kinds)))
          have hix : ∀ n, n < pq.ks.length → (svs pq.ks)[n]? = some (.str (kdOf pq.ks n)) := fun n hn => svs_get (by rw [kdOf_at (List.getElem?_eq_getElem hn), List.getElem?_eq_getElem hn])
          exact ⟨Ex.refl _, fun Qg k => ⟨qs[i], _, rfl, st_of (e8 _ _ w2), rfl, _, _, rfl, _, _, rfl, rfl, k _ _ (Ex.refl _) rfl et_yes fun _ => er_u (eu_tup (ea_cons (ev_ixL (i := y.1) (ev_var rfl) (ev_var rfl) (SqL.of (hk (Ex.refl _))) (hix _ (by omega))) (ea_cons (ev_ixL (i := y.2) (ev_var rfl) (ev_var rfl) (SqL.of (hk (Ex.refl _))) (hix _ (by omega))) ea_nil)) (by simp))⟩⟩
      · have := placesL_len _ h4
        have := List.length_filter_le (fun p : Str × Str => decide (p.1 = p.2)) pq.ps
        rw [List.length_map]
        omega
      · obtain ⟨np, nas, rfl, hnp, hnp', hnas⟩ := r7
        have hq7 := hq4.ex e7
        refine ⟨.ref D, rfl, ?_⟩
        refine ⟨D, _, rfl, DPut.k (k := Sum.inr "pairs") hq7.dict (by rw [sizeLine_eq]; simp), ?_⟩
        rw [put_pairs]
        have e27 : Ex H2 H7 := (e3.trans e4).trans e7
        have b7 : BagAt H7 B cl := b2.ex e27
        have hDB : D ≠ B := hideA_eq hq2.dict
        have ne : ∀ {a : Addr} {o : HO}, H7 a = some o → (∀ xs, o ≠ .dK xs) → upd H7 D (.dK [(Sum.inr "kinds", .ref kl), (Sum.inr "pairs", .ref np)]) a = some o := fun {a o} h ho => by
          rw [upd_ne]
          · exact h
          · intro e
            rw [e, hq7.dict] at h
            exact ho _ (Option.some.inj h).symm
        have hnB : ∀ {a : Addr} {o : HO}, H2 a = none → H7 a = some o → a ≠ B := fun {a o} h1 h2 e => by
          rw [e] at h1
          exact b2.some h1
        have hnp2 : H2 np = none := fresh_back (e3.trans e4) hnp
        have hide : ∀ {a : Addr} {o : HO}, a ≠ B → upd H7 D (.dK [(Sum.inr "kinds", .ref kl), (Sum.inr "pairs", .ref np)]) a = some o → hideA B (upd H7 D (.dK [(Sum.inr "kinds", .ref kl), (Sum.inr "pairs", .ref np)])) a = some o := fun {a o} h1 h2 => (hideA_ne h1).trans h2
        have xF : Ex (hideA B H) (hideA B (upd H7 D (.dK [(Sum.inr "kinds", .ref kl), (Sum.inr "pairs", .ref np)]))) := fun b o hbo => by
          have hbB := hideA_eq hbo
          have hbD : b ≠ D := fun e => by
            rw [e, hD] at hbo
            cases hbo
          have := (ex2.trans (hideA_mono e27)) _ _ hbo
          rw [hideA_ne hbB] at this ⊢
          rw [upd_ne hbD]
          exact this
        have bF : BagAt (upd H7 D (.dK [(Sum.inr "kinds", .ref kl), (Sum.inr "pairs", .ref np)])) B cl := by
          obtain ⟨a, b, c, cs, w1, w2⟩ := b7
          have hcB := hideA_eq w2
          rw [hideA_ne hcB] at w2
          refine ⟨a, b, c, cs, ne w1 (fun _ h => nomatch h), ?_⟩
          rw [hideA_ne hcB]
          exact ne w2 (fun _ h => nomatch h)
        have hklB : kl ≠ B := hideA_eq hq2.kinds
        refine (s_ret (D := { nx := fun _ H' => Q .non H', rt := Q }) (ev_var rfl) fun H8 e8 => q _ H8 (xF.trans (hideA_mono e8)) (bF.ex e8) ⟨D, ⟨pq.ks, fewPs pq⟩, rfl, hD, ⟨kl, np, nas, ?_⟩, few_ok hO h4 h16⟩ : tRet (tVar 2) { nx := fun _ H' => Q .non H', rt := Q } [some (.ref B), some (.int 4), some (.ref D), some (.ref lp), none, some (.ref kl), none, none] (upd H7 D (.dK [(Sum.inr "kinds", .ref kl), (Sum.inr "pairs", .ref np)])))
        have hm := hideA_mono (D := B) e8
        refine ⟨hm _ _ (hide hDB upd_same), hm _ _ (hide hklB (ne hq7.kinds (fun _ h => nomatch h))), hm _ _ (hide (hnB hnp2 hnp') (ne hnp' (fun _ h => nomatch h))), Paired.mapP hnas fun a b z => ?_⟩
        have z : H7 a = _ := z
        have haB : a ≠ B := fun e => by
          obtain ⟨x1, x2, x3, x4, w1, w2⟩ := b7
          rw [e, w1] at z
          cases z
        exact hm _ _ (hide haB (ne z (fun _ h => nomatch h)))
end
end K64
set_option Elab.async false
set_option linter.all false
set_option maxRecDepth 100000
set_option maxHeartbeats 4000000
/-! _law_plan. -/
namespace K64
open PySem PySem.Spec PyProof.Rows L2 Evl
def RNames (many : Nat) : Rel := fun v H1 H2 => ∃ p ks, v = .ref p ∧ H1 p = none ∧ H2 p = some (.lst (svs ks)) ∧ ks.length = many ∧ ks.Nodup ∧ ∀ x ∈ ks, GoodK x
def spLNames : Sp := bagD fun ws _ R => ∃ many : Nat, ws = [.int (many : Int)] ∧ 1 ≤ many ∧ many ≤ 8 ∧ R = RNames many
structure PsOk (ks : List Str) (k j : Nat) (ps : List (Str × Str)) : Prop where
  nd : (ps.map ordP).Nodup
  at_ : ∀ p ∈ ps, ∃ j' k' : Nat, j' ≤ k' ∧ k' < ks.length ∧ (k' < k ∨ k' = k ∧ j' < j) ∧ ordP p = ord2 (kdOf ks j') (kdOf ks k')
theorem PsOk.mono {ks : List Str} {k j k2 j2 : Nat} {ps : List (Str × Str)} (h : PsOk ks k j ps) (hk : k < k2 ∨ k = k2 ∧ j ≤ j2) : PsOk ks k2 j2 ps := ⟨h.nd, fun p hp => by
  obtain ⟨j', k', h1, h2, h3, h4⟩ := h.at_ p hp
  exact ⟨j', k', h1, h2, by omega, h4⟩⟩
theorem ord_idx {ks : List Str} (hn : ks.Nodup) {a b c d : Nat} (hab : a ≤ b) (hb : b < ks.length) (hcd : c ≤ d) (hd : d < ks.length) (e : ord2 (kdOf ks a) (kdOf ks b) = ord2 (kdOf ks c) (kdOf ks d)) : a = c ∧ b = d := by
  rcases ord2_eq.mp e with e | e
  · rw [Prod.mk.injEq] at e
    have e1 := kdOf_inj hn (i := c) (j := a) (by omega) (by omega) e.1
    have e2 := kdOf_inj hn (i := d) (j := b) (by omega) (by omega) e.2
    omega
  · rw [Prod.mk.injEq] at e
    have e1 := kdOf_inj hn (i := c) (j := b) (by omega) (by omega) e.1
    have e2 := kdOf_inj hn (i := d) (j := a) (by omega) (by omega) e.2
    omega
theorem PsOk.put {ks : List Str} {k j i : Nat} {ps : List (Str × Str)} {p : Str × Str} (hn : ks.Nodup) (h : PsOk ks k j ps) (hj : j ≤ k) (hk : k < ks.length) (hp : ordP p = ord2 (kdOf ks j) (kdOf ks k)) : PsOk ks k (j + 1) (ps.take i ++ [p] ++ ps.drop i) := by
  have pm : (ps.take i ++ [p] ++ ps.drop i).Perm (p :: ps) := by
    refine (List.perm_append_right_iff (ps.drop i)).mpr List.perm_append_comm |>.trans ?_
    simp
  constructor
  · refine (pm.map ordP).nodup_iff.mpr (List.nodup_cons.mpr ⟨fun hm => ?_, h.nd⟩)
    obtain ⟨x, hx, ex⟩ := List.mem_map.mp hm
    obtain ⟨j', k', h1, h2, h3, h4⟩ := h.at_ x hx
    have := ord_idx hn h1 h2 hj hk (h4.symm.trans (ex.trans hp))
    omega
  · intro x hx
    rcases List.mem_cons.mp (pm.mem_iff.mp hx) with rfl | hx
    · exact ⟨j, k, hj, hk, by omega, hp⟩
    · obtain ⟨j', k', h1, h2, h3, h4⟩ := h.at_ x hx
      exact ⟨j', k', h1, h2, by omega, h4⟩
theorem sub_len2 {xs ys : List (Str × Str)} (h : xs.Nodup) (hs : ∀ x ∈ xs, x ∈ ys) : xs.length ≤ ys.length := sub_len h hs
theorem PsOk.len {ks : List Str} {k j : Nat} {ps : List (Str × Str)} (h : PsOk ks k j ps) (h4 : ks.length ≤ 4) : ps.length ≤ 16 := by
  have := sub_len2 (ys := ks.flatMap fun a => ks.map fun b => ord2 a b) h.nd fun x hx => by
    obtain ⟨p, hp, rfl⟩ := List.mem_map.mp hx
    obtain ⟨j', k', h1, h2, h3, e⟩ := h.at_ p hp
    rw [e]
    exact List.mem_flatMap.mpr ⟨_, kdOf_mem (ps := ks) (i := j') (fun _ h => h) (by omega), List.mem_map.mpr ⟨_, kdOf_mem (ps := ks) (i := k') (fun _ h => h) (by omega), rfl⟩⟩
  rw [List.length_map] at this
  have hl : (ks.flatMap fun a => ks.map fun b => ord2 a b).length = ks.length * ks.length := by
    rw [List.length_flatMap]
    have hc : ∀ (l : List Str) (c : Nat), (l.map fun _ => c).sum = l.length * c := fun l c => by
      induction l with
      | nil => simp
      | cons a r ih => rw [List.map_cons, List.sum_cons, ih, List.length_cons, Nat.succ_mul, Nat.add_comm]
    simp [hc]
  rw [hl] at this
  have : ks.length * ks.length ≤ 4 * 4 := Nat.mul_le_mul h4 h4
  omega
theorem PsOk.pin {ks : List Str} {k j : Nat} {ps : List (Str × Str)} (h : PsOk ks k j ps) : ∀ p ∈ ps, p.1 ∈ ks ∧ p.2 ∈ ks := fun p hp => by
  obtain ⟨j', k', h1, h2, h3, e⟩ := h.at_ p hp
  have m1 := kdOf_mem (ps := ks) (i := j') (fun _ h => h) (by omega)
  have m2 := kdOf_mem (ps := ks) (i := k') (fun _ h => h) (by omega)
  rcases ord2_eq.mp e with e | e
  · rw [Prod.mk.injEq] at e
    exact ⟨by rw [← e.1]; exact m1, by rw [← e.2]; exact m2⟩
  · rw [Prod.mk.injEq] at e
    exact ⟨by rw [← e.2]; exact m2, by rw [← e.1]; exact m1⟩
theorem paired_ins {α β : Type} {F : α → β → Prop} {as : List α} {bs : List β} {a : α} {b : β} {i : Nat} (h : Paired F as bs) (hab : F a b) : Paired F (as.take i ++ [a] ++ as.drop i) (bs.take i ++ [b] ++ bs.drop i) := by
  induction h generalizing i with
  | nil => simp; exact .cons hab .nil
  | @cons x y xs ys r t ih =>
    cases i with
    | zero => simp; exact .cons hab (.cons r t)
    | succ i => exact .cons r (ih (i := i))
section
variable {P : Program} {w : World} {K : PySem.W.Frag} {mg : Str → Option Value} {base : Heap}
theorem er_lstT2 {σ : L2.St} {H : Hp} {ta tb : TE} {xs ys : List V} (ha : EvU ta σ H xs) (hb : EvU tb σ H ys) : EvR (tLst (tCons ta (tCons tb tNil))) σ H (fun v H1 H4 => ∃ p a b, v = .ref p ∧ H1 p = none ∧ H1 a = none ∧ H1 b = none ∧ H4 p = some (.lst [.ref a, .ref b]) ∧ H4 a = some (.tup xs) ∧ H4 b = some (.tup ys)) := fun H1 e Q q =>
  ha H1 e _ fun a H2 n2 e2 h2 => hb H2 (e.trans e2) _ fun b H3 n3 e3 h3 => ⟨by simp [sizeLine_eq], fun t ht => q (.ref t) _ ((e2.trans e3).trans (Ex.new ht)) ⟨t, a, b, rfl, fresh_back (e2.trans e3) ht, n2, fresh_back e2 n3, upd_same, (e3.trans (Ex.new ht)) _ _ h2, (Ex.new ht) _ _ h3⟩⟩
theorem sb_insert {σ : L2.St} {B cl : Addr} {H : Hp} {D : Ends} {ta ti ty : TE} {l : Addr} {xs : List V} {y : V} {n : Nat} (ha : ∀ Hx, Ev ta σ Hx (.ref l)) (hi : EvRB ti σ B cl (hideA B H) (RNat n)) (hy : ∀ Hx, Ev ty σ Hx y) (hl : hideA B H l = some (.lst xs)) (b : BagAt H B cl) (hz : xs.length < 100000) (hn : n ≤ 100000)
    (k : ∀ i H1, i < n → Ex (hideA B H) (hideA B H1) → BagAt H1 B cl → D.nx σ (upd H1 l (.lst (xs.take i ++ [y] ++ xs.drop i)))) :
    tDrop (tBM K "list" (fun x vs H Q => ∃ (l : Addr) (xs : List V) (i : Int) (y : V), x = .ref l ∧ vs = [.int i, y] ∧ H l = some (.lst xs) ∧ xs.length < sizeLine ∧ 0 ≤ i ∧ i < 2 ^ 63 ∧ Q .non (upd H l (.lst (xs.take i.toNat ++ [y] ++ xs.drop i.toNat)))) ta (tCons ti (tCons ty tNil))) D σ H :=
  ha H H (Ex.refl H) _ fun H1 e1 => ⟨Or.inl ⟨rfl, xs, sq_of (e1 _ _ (hideA_ex _ _ _ _ hl))⟩, hi H1 (hideA_mono e1) (b.ex e1) _ fun v H2 e2 b2 ⟨i, hi, ev⟩ => hy H2 H2 (Ex.refl H2) _ fun H3 e3 => by
    subst ev
    exact ⟨l, xs, (i : Int), y, rfl, rfl, e3 _ _ (hideA_ex _ _ _ _ (e2 _ _ (hideA_mono e1 _ _ hl))), sz_lt hz, by omega, by omega, by
      rw [Int.toNat_natCast]
      exact k i H3 hi (((hideA_mono e1).trans e2).trans (hideA_mono e3)) (b2.ex e3)⟩⟩
theorem sc_L_plan : FnScope ["_law_bag_here", "_law_most", "_law_many", "_law_kinds", "_law_pairs", "_law_style", "_law_loops", "_law_k", "_law_j", "_law_near", "_law_odds", "_law_pair"] ["_law_bag_here", "_law_most"] (defScope s_L_plan) := C8.fnScope_by (by decide +kernel)
theorem ok_L_plan (T : Tp K mg) (F : FD K d_L_plan) (c_L_take : C8.Cal P w K mg base 1 "_law_take" spTake []) (c_L_names : C8.Cal P w K mg base 2 "_law_names" spLNames []) : C8.Cal P w K mg base 3 "_law_plan" spLPlan [] := by
  refine cal_k F T.g_law_plan sc_L_plan (fun _ _ _ _ _ _ us hl => match us, hl with | [_, _], _ => rfl) (fun vs H Q E h => ?_) (fun cdv A outer s H vs Q E hr h => ?_)
  · obtain ⟨B, cl, ws, R, rfl, _, ⟨rfl, _⟩, _⟩ := h
    rfl
  · obtain ⟨B, cl, ws, R, rfl, hb, ⟨rfl, rfl⟩, q⟩ := h
    refine ⟨_, (pss_cons (ps_set (i := 2) (sc_L_plan).nd rfl (.inl rfl) (pe_op op_add pe_int (C8.pe_c c_L_take hr (by decide) (by rfl) (pa_cons (pv 0) (pa_cons (pe_ix (k_ixL (K := K) rfl) (pe_lst (pa_cons (pe_callB (call_min2 rfl) (by rfl) T.f_min boot_min (pa_cons pe_int (pa_cons (pv 1) pa_nil))) (pa_cons (pv 1) pa_nil))) (C8.pe_c c_L_take hr (by decide) (by rfl) (pa_cons (pv 0) (pa_cons pe_int pa_nil))) (fun _ _ => rfl)) pa_nil)))))
  (pss_cons (ps_par (i := 3) (j := 4) (by rfl) (sc_L_plan).nd rfl rfl (by decide) rfl rfl (pa_cons (C8.pe_c c_L_names hr (by decide) (by rfl) (pa_cons (pv 0) (pa_cons (pv 2) pa_nil))) (pa_cons (pe_lst pa_nil) pa_nil)) (by rfl))
  (pss_cons (ps_par (i := 5) (j := 6) (by rfl) (sc_L_plan).nd rfl rfl (by decide) rfl rfl (pa_cons (C8.pe_c c_L_take hr (by decide) (by rfl) (pa_cons (pv 0) (pa_cons pe_int pa_nil))) (pa_cons (C8.pe_c c_L_take hr (by decide) (by rfl) (pa_cons (pv 0) (pa_cons pe_int pa_nil))) pa_nil)) (by rfl))
  (pss_cons (ps_for PassesOwn.never rfl (pi_range1 (by rfl) T.f_range (pa_cons (pv 2) pa_nil)) (pg_name (i := 7) (sc_L_plan).nd rfl (.inl rfl))
  (pss_one (ps_for PassesOwn.never rfl (pi_range1 (by rfl) T.f_range (pa_cons (pe_op op_add (pv 7) pe_int) pa_nil)) (pg_name (i := 8) (sc_L_plan).nd rfl (.inl rfl))
  (pss_cons (ps_set (i := 9) (sc_L_plan).nd rfl (.inl rfl) (pe_or (pe_cmpR op_eq (pe_op op_sub (pv 7) (pv 8)) pe_int (nomark _)) (pe_one (pe_and (pe_cmpR op_eq (pv 5) pe_int (nomark _)) (pe_and (pe_cmpR op_eq (pv 8) pe_int (nomark _)) (pe_one (pe_cmpR op_eq (pv 7) (pe_op op_sub (pv 2) pe_int) (nomark _))))))))
  (pss_cons (ps_set (i := 10) (sc_L_plan).nd rfl (.inl rfl) (pe_ix (k_ixL (K := K) rfl) (pe_lst (pa_cons (pe_op op_mul pe_int (pe_callTy call_int1 (by rfl) T.f_int PyProof.Rows.boot_int (pa_cons (pv 9) pa_nil))) (pa_cons (pe_op op_mul pe_int (pe_callTy call_int1 (by rfl) T.f_int PyProof.Rows.boot_int (pa_cons (pv 9) pa_nil))) (pa_cons pe_int (pa_cons pe_int (pa_cons pe_int (pa_cons pe_int pa_nil))))))) (pv 5) (fun _ _ => rfl)))
  (pss_cons (ps_if (pt_cmpR op_eq (pv 8) (pv 7) (nomark _))
  (pss_one (ps_set (i := 10) (sc_L_plan).nd rfl (.inl rfl) (pe_ix (k_ixL (K := K) rfl) (pe_lst (pa_cons pe_int (pa_cons pe_int (pa_cons pe_int pa_nil)))) (pv 6) (fun _ _ => rfl))))
  pss_nil)
  (pss_one (ps_if (pt_cmpR op_lt (C8.pe_c c_L_take hr (by decide) (by rfl) (pa_cons (pv 0) (pa_cons pe_int pa_nil))) (pv 10) (nomark _))
  (pss_cons (ps_set (i := 11) (sc_L_plan).nd rfl (.inl rfl) (pe_ix (k_ixL (K := K) rfl) (pe_lst (pa_cons (pe_tup (pa_cons (pe_ix (k_ixL (K := K) rfl) (pv 3) (pv 8) (fun _ _ => rfl)) (pa_cons (pe_ix (k_ixL (K := K) rfl) (pv 3) (pv 7) (fun _ _ => rfl)) pa_nil))) (pa_cons (pe_tup (pa_cons (pe_ix (k_ixL (K := K) rfl) (pv 3) (pv 7) (fun _ _ => rfl)) (pa_cons (pe_ix (k_ixL (K := K) rfl) (pv 3) (pv 8) (fun _ _ => rfl)) pa_nil))) pa_nil))) (C8.pe_c c_L_take hr (by decide) (by rfl) (pa_cons (pv 0) (pa_cons pe_int pa_nil))) (fun _ _ => rfl)))
  (pss_one (ps_expr (k_bm (K := K) rfl PySem.F.plainAttrs_list PySem.F.slot_list_insert PySem.F.type_list_insert mt_insert (pv 4) (pa_cons (C8.pe_c c_L_take hr (by decide) (by rfl) (pa_cons (pv 0) (pa_cons (pe_op op_add (pe_callB (k_len (K := K) rfl) (by rfl) T.f_len PySem.boot_len (pa_cons (pv 4) pa_nil)) pe_int) pa_nil))) (pa_cons (pv 11) pa_nil))))))
  pss_nil))))))))
  (pss_one (ps_ret (pe_disp (pps_cons pe_str (pv 3) (pps_cons pe_str (pv 4) pps_nil)) (by rfl) (by rfl) (fun z => by cases z) (by decide)))))))), ?_⟩
    refine qb_asg (R := fun v _ _ => ∃ m : Nat, v = .int (m : Int) ∧ 1 ≤ m ∧ m ≤ 4) (erb_op (lb_v ev_c) (erb_take (n := 4) (fun _ => ev_var rfl) (erb_op (R := fun v _ _ => v = .int 4) (lb_l (el_lst (ea_cons (ev_cb (ea_cons ev_c (ea_cons (ev_var rfl) ea_nil)) fun H2 e2 Q' q' => ⟨4, 4, rfl, q' H2 (Ex.refl H2)⟩) (ea_cons (ev_var rfl) ea_nil)) (by simp))) (erb_take (n := 2) (fun _ => ev_var rfl) (lb_v ev_c) fun v Ha Hb r => ⟨2, r, by omega, by omega, Nat.le_refl _⟩) fun x y H1 H2 H3 e1 e2 e3 ⟨p, ex, p1, p2⟩ ⟨k, hk, ey⟩ => ?_) fun v Ha Hb r => ⟨4, r, by omega, by omega, Nat.le_refl _⟩) fun x y H1 H2 H3 e1 e2 e3 ex ⟨k, hk, ey⟩ => ?_) hb fun v H1 e1 b1 ⟨many, ev, hm1, hm4⟩ => ?_
    · subst ex
      subst ey
      refine ⟨.int 4, fun Hf ef Q' q' => ⟨p, _, (k : Int), .int 4, rfl, rfl, SqL.of (ef _ _ (e3 _ _ p2)), ?_, q'⟩, rfl⟩
      have : k = 0 ∨ k = 1 := by omega
      rcases this with rfl | rfl
      · rfl
      · rfl
    · have ex : x = .int 1 := ex
      subst ex
      subst ey
      exact ⟨.int (1 + (k : Int)), fun Hf ef Q' q' => ⟨1, (k : Int), rfl, rfl, q'⟩, 1 + k, by simp, by omega, by omega⟩
    subst ev
    refine qb_par (T := fun x y Ha Hb => ∃ kl pl ks, x = .ref kl ∧ y = .ref pl ∧ Ha pl = none ∧ Hb pl = some (.lst []) ∧ Hb kl = some (.lst (svs ks)) ∧ kl ≠ pl ∧ Ha kl = none ∧ ks.length = many ∧ ks.Nodup ∧ ∀ x ∈ ks, GoodK x) (earb_cons (R := RNames many) (erb_callB (earb_cons (lb_v (ev_var rfl)) (earb_cons (lb_v (ev_var rfl)) earb_nil)) ?_) (earb_cons (lb_l (el_lst ea_nil (by simp))) earb_nil)) b1 ?_ ?_
    · rintro vs Ha Hb ea eb ⟨v, r, Hc, rfl, ec, ed, rfl, v2, r2, Hd, rfl, ee, ef, rfl, rfl⟩
      exact ⟨_, _, rfl, ⟨many, rfl, hm1, by omega, rfl⟩, fun v H3 e ⟨p, ks, z1, z2, z3⟩ => ⟨p, ks, z1, fresh_back eb z2, z3⟩⟩
    · rintro vs Hx ex ⟨v, r, Hy, rfl, ey, ez, ⟨kl, ks, rfl, k1, k2, k3⟩, v2, r2, Hz, rfl, eu, ew, ⟨pl, rfl, p1, p2⟩, rfl⟩
      exact ⟨_, _, rfl, kl, pl, ks, rfl, rfl, fresh_back ey p1, ew _ _ p2, ez _ _ k2, ne_of_none k2 p1, k1, k3⟩
    rintro x y H2 e2 b2 ⟨kl, pl, ks, rfl, rfl, npl, hpl, hkl, hne, nkl, hkm, hnd, hgood⟩
    refine qb_par (T := fun x y _ _ => ∃ a b : Nat, x = .int (a : Int) ∧ y = .int (b : Int) ∧ a < 6 ∧ b < 3) (earb_cons (erb_take (n := 6) (fun _ => ev_var rfl) (lb_v ev_c) fun v Ha Hb r => ⟨6, r, by omega, by omega, Nat.le_refl _⟩) (earb_cons (erb_take (n := 3) (fun _ => ev_var rfl) (lb_v ev_c) fun v Ha Hb r => ⟨3, r, by omega, by omega, Nat.le_refl _⟩) earb_nil)) b2 ?_ ?_
    · rintro vs Hx ex ⟨v1, r1, Hy, rfl, ey, ez, ⟨k1, hk1, rfl⟩, v2, r2, Hz, rfl, eu, ew, ⟨k2, hk2, rfl⟩, rfl⟩
      exact ⟨_, _, rfl, k1, k2, rfl, rfl, hk1, hk2⟩
    rintro x y H3 e3 b3 ⟨sty, lps, rfl, rfl, hsty, hlps⟩
    have n0pl : hideA B H pl = none := fresh_back e1 npl
    let PI : Nat → Nat → L2.St → Hp → Prop := fun k j σ' H' => ∃ (y7 y8 y9 y10 y11 : Option V) (pa : List Addr) (ps : List (Str × Str)), σ' = [some (.ref B), some (.int 4), some (.int (many : Int)), some (.ref kl), some (.ref pl), some (.int (sty : Int)), some (.int (lps : Int)), y7, y8, y9, y10, y11] ∧
      Ex (hideA B H) (hideA B H') ∧ BagAt H' B cl ∧ hideA B H' kl = some (.lst (svs ks)) ∧ hideA B H' pl = some (.lst (rvs pa)) ∧ Paired (PairAt (hideA B H')) pa ps ∧ PsOk ks k j ps
    refine q_forR1 (n := (many : Int)) (ea_cons (ev_var rfl) ea_nil) (by omega) (fun k σ' H' => PI k 0 σ' H') (fun H4 e4 => ⟨_, _, _, _, _, [], [], rfl, ((e1.trans e2).trans e3).trans (hideA_mono e4), b3.ex e4, hideA_mono e4 _ _ (e3 _ _ hkl), hideA_mono e4 _ _ (e3 _ _ hpl), .nil, ⟨by simp, fun p hp => nomatch hp⟩⟩) ?_ ?_
    · rintro k σ' H4 hk ⟨y7, y8, y9, y10, y11, pa, ps, rfl, ex, bb, hk4, hp4, hpp, hps⟩
      have hkm4 : k < many := by omega
      refine s_forR1 (n := ((k : Int) + 1)) (ea_cons (ev_op (ev_var rfl) ev_c rv_I0) ea_nil) (by omega) (fun j σ' H' => PI k j σ' H' ∧ σ'[7]? = some (some (.int (k : Int)))) (fun H5 e5 => ⟨⟨_, _, _, _, _, pa, ps, rfl, ex.trans (hideA_mono e5), bb.ex e5, hideA_mono e5 _ _ hk4, hideA_mono e5 _ _ hp4, Paired.mapP hpp fun a b z => hideA_mono e5 _ _ z, hps⟩, rfl⟩) ?_ ?_
      · rintro j σ' H5 hj ⟨⟨y7, y8, y9, y10, y11, pa, ps, rfl, ex, bb, hk5, hp5, hpp, hps⟩, hy7⟩
        have hy7 : y7 = some (.int (k : Int)) := Option.some.inj hy7
        subst hy7
        have hjk : j ≤ k := by omega
        have hlen := hps.len (by omega)
        have hpl' := Paired.length hpp
        refine q_asg (ev_orV (ev_op (ev_op (ev_var rfl) (ev_var rfl) rv_I0) ev_c (rv_eq rfl)) fun _ => ev_andV (ev_op (ev_var rfl) ev_c (rv_eq rfl)) fun _ => ev_andV (ev_op (ev_var rfl) ev_c (rv_eq rfl)) fun _ => ev_op (ev_var rfl) (ev_op (ev_var rfl) ev_c rv_I0) (rv_eq rfl)) fun H6 e6 => ?_
        generalize (decide (V.int ((k : Int) - (j : Int)) = V.int 1) || _) = near
        have hnear : ∀ {Hx : Hp} {te : TE}, Ev te [some (.ref B), some (.int 4), some (.int (many : Int)), some (.ref kl), some (.ref pl), some (.int (sty : Int)), some (.int (lps : Int)), some (.int (k : Int)), some (.int (j : Int)), some (.bl near), y10, y11] Hx (.bl near) → Ev (tOp (rI CMul fun i j => .int (i * j)) (tC (.int 4)) (tCB (fun xs H Q => (∃ i, xs = [.int i] ∧ Q (.int i) H) ∨ ∃ k, xs = [.bl k] ∧ Q (.int (if k then 1 else 0)) H) (tCons te tNil))) [some (.ref B), some (.int 4), some (.int (many : Int)), some (.ref kl), some (.ref pl), some (.int (sty : Int)), some (.int (lps : Int)), some (.int (k : Int)), some (.int (j : Int)), some (.bl near), y10, y11] Hx (.int (4 * if near then 1 else 0)) := fun {Hx te} h => ev_op ev_c (ev_intB h) (rv_I (.inl ⟨by decide, by decide⟩))
        have hodd : ∃ o : Int, atI [V.int (4 * if near then 1 else 0), V.int (4 * if near then 1 else 0), V.int 4, V.int 1, V.int 2, V.int 3] (sty : Int) = some (.int o) := by
          have hs : ∀ n, n < 6 → ∃ o : Int, [V.int (4 * if near then 1 else 0), V.int (4 * if near then 1 else 0), V.int 4, V.int 1, V.int 2, V.int 3][n]? = some (.int o) := fun n hn => by
            match n, hn with
            | 0, _ => exact ⟨_, rfl⟩
            | 1, _ => exact ⟨_, rfl⟩
            | 2, _ => exact ⟨_, rfl⟩
            | 3, _ => exact ⟨_, rfl⟩
            | 4, _ => exact ⟨_, rfl⟩
            | 5, _ => exact ⟨_, rfl⟩
          obtain ⟨o, ho⟩ := hs sty hsty
          exact ⟨o, atI_nat ho⟩
        obtain ⟨odds, hodds⟩ := hodd
        refine q_asg (v := .int odds) (ev_opL1 (el_lst (ea_cons (hnear (ev_var rfl)) (ea_cons (hnear (ev_var rfl)) (ea_cons ev_c (ea_cons ev_c (ea_cons ev_c (ea_cons ev_c ea_nil)))))) (by simp)) (fun H7 e7 => ev_var rfl) fun p H7 hp e7 => rv_ixL (SqL.of hp) hodds) fun H7 e7 => ?_
        refine q_ifInt (x0 := odds) rfl (et_B (ev_op (ev_var rfl) (ev_var rfl) (rv_eq rfl))) (fun _ => ?_) fun od H8 e8 => ?_
        · have hs : ∀ n, n < 3 → ∃ o : Int, [V.int 0, V.int 1, V.int 3][n]? = some (.int o) := fun n hn => by
            match n, hn with
            | 0, _ => exact ⟨_, rfl⟩
            | 1, _ => exact ⟨_, rfl⟩
            | 2, _ => exact ⟨_, rfl⟩
          obtain ⟨o, ho⟩ := hs lps hlps
          exact ⟨o, ev_opL1 (el_lst (ea_cons ev_c (ea_cons ev_c (ea_cons ev_c ea_nil))) (by simp)) (fun H7 e7 => ev_var rfl) fun p H7 hp e7 => rv_ixL (SqL.of hp) (atI_nat ho)⟩
        have e58 := (e6.trans e7).trans e8
        have ex8 := ex.trans (hideA_mono e58)
        have hk8 := hideA_mono (D := B) e58 _ _ hk5
        have hp8 := hideA_mono (D := B) e58 _ _ hp5
        have hpp8 : Paired (PairAt (hideA B H8)) pa ps := Paired.mapP hpp fun a b z => hideA_mono (D := B) e58 _ _ z
        refine erb_op (r := rI0 fun i j => .bl (decide (i < j))) (σ := [some (.ref B), some (.int 4), some (.int (many : Int)), some (.ref kl), some (.ref pl), some (.int (sty : Int)), some (.int (lps : Int)), some (.int (k : Int)), some (.int (j : Int)), some (.bl near), some (.int od), y11]) (Hc := hideA B H8) (cl := cl) (R := fun v _ _ => ∃ b : Bool, v = .bl b) (erb_take (n := 4) (fun _ => ev_var rfl) (lb_v ev_c) fun v Ha Hb r => ⟨4, r, by omega, by omega, Nat.le_refl _⟩) (lb_v (v := .int od) (ev_var rfl)) (fun x y Ha Hb Hd ea eb ed ⟨k, hk, ex⟩ ey => by
          have ey : y = .int od := ey
          subst ex
          subst ey
          exact ⟨.bl _, fun Hf _ Q' q' => ⟨_, _, rfl, rfl, q'⟩, _, rfl⟩) H8 (Ex.refl _) (bb.ex e58) _ fun v H9 e9 b9 ⟨tb, ev⟩ => ?_
        subst ev
        refine ⟨tb, rfl, ?_⟩
        have ex9 := ex8.trans e9
        cases tb with
        | false => exact ⟨⟨_, _, _, _, _, pa, ps, rfl, ex9, b9, e9 _ _ hk8, e9 _ _ hp8, Paired.mapP hpp8 fun a b z => e9 _ _ z, hps.mono (.inr ⟨rfl, Nat.le_succ _⟩)⟩, rfl⟩
        | true =>
          have hk9 := e9 _ _ hk8
          have hp9 := e9 _ _ hp8
          have hpp9 : Paired (PairAt (hideA B H9)) pa ps := Paired.mapP hpp8 fun a b z => e9 _ _ z
          have gj : ∀ n, n < ks.length → (svs ks)[n]? = some (.str (kdOf ks n)) := fun n hn => svs_get (by rw [kdOf_at (List.getElem?_eq_getElem hn), List.getElem?_eq_getElem hn])
          refine qb_asg (R := fun v H1 H2 => ∃ a p, v = .ref a ∧ H1 a = none ∧ PairAt H2 a p ∧ ordP p = ord2 (kdOf ks j) (kdOf ks k)) (erb_op (lb (er_lstT2 (eu_tup (ea_cons (ev_ixL (i := j) (ev_var rfl) (ev_var rfl) (SqL.of hk9) (gj j (by omega))) (ea_cons (ev_ixL (i := k) (ev_var rfl) (ev_var rfl) (SqL.of hk9) (gj k (by omega))) ea_nil)) (by simp)) (eu_tup (ea_cons (ev_ixL (i := k) (ev_var rfl) (ev_var rfl) (SqL.of hk9) (gj k (by omega))) (ea_cons (ev_ixL (i := j) (ev_var rfl) (ev_var rfl) (SqL.of hk9) (gj j (by omega))) ea_nil)) (by simp))) (R' := fun v H1 H2 => ∃ p a b, v = .ref p ∧ H1 a = none ∧ H1 b = none ∧ H2 p = some (.lst [.ref a, .ref b]) ∧ H2 a = some (.tup [.str (kdOf ks j), .str (kdOf ks k)]) ∧ H2 b = some (.tup [.str (kdOf ks k), .str (kdOf ks j)])) fun v H1 H2 hb e ⟨p, a, b, z1, z2, z3, z4, z5, z6, z7⟩ => ⟨p, a, b, z1, hidf z3, hidf z4, hids hb z2 z5, hids hb z3 z6, hids hb z4 z7⟩) (erb_take (n := 2) (fun _ => ev_var rfl) (lb_v ev_c) fun v Ha Hb r => ⟨2, r, by omega, by omega, Nat.le_refl _⟩) fun x y Ha Hb Hd ea eb ed ⟨p, a, b, ex, z1, z2, z3, z4, z5⟩ ⟨kk, hkk, ey⟩ => ?_) b9 fun v H10 e10 b10 ⟨t, p, ev, nt, ht, hpo⟩ => ?_
          · subst ex
            subst ey
            have : kk = 0 ∨ kk = 1 := by omega
            rcases this with rfl | rfl
            · exact ⟨.ref a, fun Hf ef Q' q' => ⟨p, _, ((0 : Nat) : Int), _, rfl, rfl, SqL.of (ef _ _ (ed _ _ z3)), rfl, q'⟩, a, (kdOf ks j, kdOf ks k), rfl, z1, ed _ _ z4, rfl⟩
            · exact ⟨.ref b, fun Hf ef Q' q' => ⟨p, _, ((1 : Nat) : Int), _, rfl, rfl, SqL.of (ef _ _ (ed _ _ z3)), rfl, q'⟩, b, (kdOf ks k, kdOf ks j), rfl, z2, ed _ _ z5, ord2_eq.mpr (.inr rfl)⟩
          subst ev
          have hk10 := e10 _ _ hk9
          have hp10 := e10 _ _ hp9
          have hplB : pl ≠ B := hideA_eq hp10
          have hp10' := hideA_ex _ _ _ _ hp10
          refine sb_insert (n := ps.length + 1) (l := pl) (y := .ref t) (fun _ => ev_var rfl) (erb_take (n := ps.length + 1) (fun _ => ev_var rfl) (lb_v (v := .int ((ps.length + 1 : Nat) : Int)) (ev_is (ev_op (ev_len (ev_var rfl) (SqL.of hp10)) ev_c rv_I0) (by rw [List.length_map, hpl']; rfl))) fun v Ha Hb r => ⟨ps.length + 1, r, by omega, by omega, Nat.le_refl _⟩) (fun _ => ev_var rfl) hp10 b10 (by rw [List.length_map]; omega) (by omega) fun ii H12 hii e12 b12 => ?_
          have e912 := e10.trans e12
          have hp12 := e12 _ _ hp10
          have hp12' := hideA_ex _ _ _ _ hp12
          have keep : ∀ {a : Addr} {o oo : HO}, hideA B H12 a = some o → a ≠ pl → hideA B (upd H12 pl oo) a = some o := fun {a o oo} h1 h2 => by
            have hB' := hideA_eq h1
            rw [hideA_ne hB'] at h1 ⊢
            rw [upd_ne h2]
            exact h1
          have tl : ∀ {a : Addr} {xs : List V}, hideA B H12 a = some (.tup xs) → a ≠ pl := fun {a xs} h e => by
            rw [e, hp12] at h
            cases h
          have hcl12 : cl ≠ pl := fun e => by
            obtain ⟨a, b, c, cs, w1, w2⟩ := hb
            rw [e, n0pl] at w2
            cases w2
          refine ⟨⟨_, _, _, _, _, pa.take ii ++ [t] ++ pa.drop ii, ps.take ii ++ [p] ++ ps.drop ii, rfl, fun b o hbo => keep ((ex9.trans e912) _ _ hbo) fun e => ?_, ?_, keep (e912 _ _ hk9) hne, ?_, paired_ins (Paired.mapP hpp9 fun a b z => keep (e912 _ _ z) (tl (e912 _ _ z))) (keep (e12 _ _ ht) (tl (e12 _ _ ht))), hps.put hnd hjk (by omega) hpo⟩, rfl⟩
          · rw [e, n0pl] at hbo
            cases hbo
          · obtain ⟨a, b, c, cs, w1, w2⟩ := b12
            exact ⟨a, b, c, cs, by rw [upd_ne hplB.symm]; exact w1, keep w2 hcl12⟩
          · rw [hideA_ne hplB, upd_same]
            congr 2
            simp
      · rintro σ' H5 ⟨⟨y7, y8, y9, y10, y11, pa, ps, rfl, ex, bb, hk5, hp5, hpp, hps⟩, _⟩
        exact ⟨y7, y8, y9, y10, y11, pa, ps, rfl, ex, bb, hk5, hp5, hpp, hps.mono (.inl (Nat.lt_succ_self _))⟩
    · rintro σ' H4 ⟨y7, y8, y9, y10, y11, pa, ps, rfl, ex, bb, hk4, hp4, hpp, hps⟩
      rw [Int.toNat_natCast] at hps
      intro D hD
      have hDB : D ≠ B := fun e => bb.some (by rw [← e]; exact hD)
      have eN := Ex.new (o := HO.dK []) hD
      refine ⟨_, rfl, _, rfl, upd_same, [(Sum.inr "kinds", .ref kl), (Sum.inr "pairs", .ref pl)], rfl, by simp, ?_⟩
      have hmk : mergeK [] [((Sum.inr "kinds" : Key), V.ref kl), (Sum.inr "pairs", .ref pl)] = [((Sum.inr "kinds" : Key), V.ref kl), (Sum.inr "pairs", .ref pl)] := by
        have hne' : ¬ ((Sum.inr ("kinds" : Str) : Key) = Sum.inr ("pairs" : Str)) := by decide
        unfold mergeK
        rw [List.foldl_cons, List.foldl_cons, List.foldl_nil]
        unfold putK
        simp only [List.any_nil, Bool.false_eq_true, if_false, List.nil_append, List.any_cons, decide_eq_false hne', Bool.or_false]
        rfl
      rw [hmk]
      have eF : Ex H4 (upd (upd H4 D (.dK [])) D (.dK [(Sum.inr "kinds", .ref kl), (Sum.inr "pairs", .ref pl)])) := Ex.mut eN hD
      have hfin := hideA_mono (D := B) eF
      refine q _ _ (ex.trans hfin) (bb.ex eF) ⟨D, ⟨ks, ps⟩, rfl, fresh_back ex (hidf hD), ⟨kl, pl, pa, (hideA_ne hDB).trans upd_same, hfin _ _ hk4, hfin _ _ hp4, Paired.mapP hpp fun a b z => hfin _ _ z⟩, ⟨hnd, hgood, by show 1 ≤ ks.length; omega, by show ks.length ≤ 8; omega, hps.pin, hps.nd, Nat.le_trans (hps.len (by omega)) (by omega)⟩, by show ks.length ≤ 4; omega, hps.len (by omega)⟩
end
end K64
set_option Elab.async false
set_option linter.all false
set_option maxRecDepth 100000
set_option maxHeartbeats 4000000
/-! The names' plain facts. -/
namespace K64
open PySem PySem.Spec PyProof.Rows L2 Evl
abbrev alph : Str := "abcdefghijklmnopqrstuvwxyz"
def letS (n : Nat) : Str := ⟨#[97 + n]⟩
theorem alph_at (n : Nat) (h : n < 26) : alph.cps.toList[n]? = some (97 + n) := by
  have : ∀ k : Fin 26, alph.cps.toList[k.val]? = some (97 + k.val) := by decide +kernel
  exact this ⟨n, h⟩
instance (z : Str) : Decidable (GoodK z) := by unfold GoodK; infer_instance
def words8 : List Str := ["come", "go", "late", "cut", "back", "line", "more", "alike"]
theorem words8_good : ∀ x ∈ words8, GoodK x := by decide +kernel
theorem words8_nd : words8.Nodup := by decide +kernel
def way0 (t many : Nat) : List Str := (words8.drop t ++ words8.take t).take many
theorem way0_ok {t many : Nat} (h : many ≤ 8) : (way0 t many).length = many ∧ (way0 t many).Nodup ∧ ∀ x ∈ way0 t many, GoodK x := by
  have pm : (words8.drop t ++ words8.take t).Perm words8 := List.perm_append_comm.trans (by rw [List.take_append_drop])
  refine ⟨?_, ((pm.nodup_iff).mpr words8_nd).sublist (List.take_sublist _ _), fun x hx => words8_good x (pm.mem_iff.mp (List.mem_of_mem_take hx))⟩
  unfold way0
  rw [List.length_take, pm.length_eq]
  exact Nat.min_eq_left h
theorem map_nd {f : Nat → Str} {n : Nat} (h : ∀ i, i < n → ∀ j, j < n → f i = f j → i = j) : ((List.range n).map f).Nodup :=
  List.pairwise_map.mpr (List.nodup_range.imp_of_mem fun {a b} ha hb hne e => hne (h a (List.mem_range.mp ha) b (List.mem_range.mp hb) e))
theorem letS_inj {a b : Nat} (h : letS a = letS b) : a = b := by
  unfold letS at h
  injection h with h
  have := congrArg Array.toList h
  simp at this
  omega
theorem letS_good {n : Nat} (h : n < 26) : GoodK (letS n) := by
  refine ⟨by simp [letS], by simp [letS], fun c hc => ?_⟩
  have : c = 97 + n := by simpa [letS] using hc
  omega
def way1 (t many : Nat) : List Str := (List.range many).map fun k => letS ((t + 3 * k) % 26)
theorem way1_ok {t many : Nat} (h : many ≤ 8) : (way1 t many).length = many ∧ (way1 t many).Nodup ∧ ∀ x ∈ way1 t many, GoodK x := by
  refine ⟨by simp [way1], map_nd fun i hi j hj e => ?_, fun x hx => ?_⟩
  · have := letS_inj e
    omega
  · obtain ⟨k, _, rfl⟩ := List.mem_map.mp hx
    exact letS_good (Nat.mod_lt _ (by decide))
def way2 (t many : Nat) : List Str := (List.range many).map fun k => ⟨(List.replicate (k + 1) (97 + t)).toArray⟩
theorem way2_ok {t many : Nat} (ht : t < 26) (h : many ≤ 8) : (way2 t many).length = many ∧ (way2 t many).Nodup ∧ ∀ x ∈ way2 t many, GoodK x := by
  refine ⟨by simp [way2], map_nd fun i hi j hj e => ?_, fun x hx => ?_⟩
  · injection e with e
    have := congrArg Array.size e
    simp at this
    exact this
  · obtain ⟨k, hk, rfl⟩ := List.mem_map.mp hx
    have := List.mem_range.mp hk
    refine ⟨by simp, by simp; omega, fun c hc => ?_⟩
    have hc : c ∈ List.replicate (k + 1) (97 + t) := by simpa using hc
    have := List.eq_of_mem_replicate hc
    omega
/-- a base with one sign changed -/
def chg (b : List Nat) (at_ c : Nat) : Str := ⟨(b.take at_ ++ [c] ++ b.drop (at_ + 1)).toArray⟩
def way3 (b : List Nat) (at_ t many : Nat) : List Str := (List.range many).map fun k => chg b at_ (97 + (t + 5 * k) % 26)
theorem way3_ok {b : List Nat} {at_ t many : Nat} (hb : ∀ c ∈ b, 97 ≤ c ∧ c ≤ 122) (h8 : b.length ≤ 8) (hat : at_ < b.length) (h : many ≤ 8) : (way3 b at_ t many).length = many ∧ (way3 b at_ t many).Nodup ∧ ∀ x ∈ way3 b at_ t many, GoodK x := by
  refine ⟨by simp [way3], map_nd fun i hi j hj e => ?_, fun x hx => ?_⟩
  · unfold chg at e
    injection e with e
    have e := congrArg Array.toList e
    simp only [List.append_assoc] at e
    have e := List.append_cancel_left e
    have e := (List.cons.inj e).1
    omega
  · obtain ⟨k, hk, rfl⟩ := List.mem_map.mp hx
    refine ⟨by simp [chg]; omega, ?_, fun c hc => ?_⟩
    · simp [chg]
      omega
    · have hc : c ∈ b.take at_ ++ [97 + (t + 5 * k) % 26] ++ b.drop (at_ + 1) := by simpa [chg] using hc
      rcases List.mem_append.mp hc with hc | hc
      · rcases List.mem_append.mp hc with hc | hc
        · exact hb c (List.mem_of_mem_take hc)
        · have hc : c = 97 + (t + 5 * k) % 26 := by simpa using hc
          have := Nat.mod_lt (t + 5 * k) (show 0 < 26 by decide)
          omega
      · exact hb c (List.mem_of_mem_drop hc)
end K64
set_option Elab.async false
set_option linter.all false
set_option maxRecDepth 100000
set_option maxHeartbeats 4000000
/-! _law_names. -/
namespace K64
open PySem PySem.Spec PyProof.Rows L2 Evl
theorem join_cps0 : ∀ xs : List Str, (Str.join (Str.empty) xs).cps.toList = xs.flatMap fun z => z.cps.toList
  | [] => rfl
  | [x] => by
    show x.cps.toList = _
    simp
  | x :: y :: r => by
    have ih := join_cps0 (y :: r)
    have : (Str.join Str.empty (x :: y :: r)).cps.toList = x.cps.toList ++ (Str.join Str.empty (y :: r)).cps.toList := by
      show ((x.cps ++ Str.empty.cps) ++ (Str.join Str.empty (y :: r)).cps).toList = _
      simp [Str.empty]
    rw [this, ih]
    simp
theorem join_cps (xs : List Str) : (Txt.join (Str.empty) xs).cps.toList = xs.flatMap fun z => z.cps.toList := by
  rw [← join_cps0]
  show (PySem.Builtin.Str.glued _ _).cps.toList = _
  rw [PySem.StrLaws.glued_eq_join]
section
variable {P : Program} {w : World} {K : PySem.W.Frag} {mg : Str → Option Value} {base : Heap}
theorem qb_asg2 {σ : L2.St} {B cl : Addr} {H : Hp} {D : Ends} {tz : TS} {i j : Nat} {ta : TA} {S : List V → Hp → Hp → Prop} {T : V → V → Hp → Hp → Prop} (h : EvARB ta σ B cl (hideA B H) S) (b : BagAt H B cl) (hS : ∀ vs H1, Ex (hideA B H) H1 → S vs (hideA B H) H1 → ∃ x y, vs = [x, y] ∧ T x y (hideA B H) H1) (k : ∀ x y H1 H2, Ex (hideA B H) (hideA B H1) → Ex H1 H2 → BagAt H2 B cl → T x y (hideA B H) (hideA B H1) → tz D ((σ.set i (some x)).set j (some y)) H2) :
    tSeq (tAsg (tTup ta) (gTup K 2 (gCons (gName i) (gCons (gName j) gNil)))) tz D σ H := h H (Ex.refl _) b _ fun vs H1 e b1 s => by
  obtain ⟨x, y, rfl, hT⟩ := hS vs _ e s
  exact ⟨by simp [sizeLine_eq], fun p hp => ⟨p, _, rfl, st_of upd_same, rfl, _, _, rfl, _, _, rfl, rfl, k x y H1 _ e (Ex.new hp) (b1.ex (Ex.new hp)) hT⟩⟩
theorem ev_letter {σ : L2.St} {H : Hp} {t1 t2 : TE} {n : Nat} (h1 : Ev t1 σ H (.str alph)) (h2 : Ev t2 σ H (.int (n : Int))) (hn : n < 26) : Ev (tOp rIxS t1 t2) σ H (.str (letS n)) := fun H1 e Q q =>
  h1 H1 e _ fun H2 e2 => h2 H2 (e.trans e2) _ fun H3 e3 => ⟨alph, (n : Int), 97 + n, rfl, rfl, by decide, atI_nat (alph_at n hn), q H3 (e2.trans e3)⟩
theorem fmod_n (a n : Nat) : (a : Int).fmod (n : Int) = ((a % n : Nat) : Int) := by
  rw [Int.fmod_eq_emod_of_nonneg _ (Int.natCast_nonneg n)]
  rfl
theorem lb_names {σ : L2.St} {B cl : Addr} {Hc : Hp} {te : TE} {ks : List Str} {many : Nat} (h : EvL te σ Hc (svs ks)) (hk : ks.length = many ∧ ks.Nodup ∧ ∀ x ∈ ks, GoodK x) : EvRB te σ B cl Hc (RNames many) := EvRB.imp (lb_l h) fun v H1 H2 _ _ ⟨p, h1, h2, h3⟩ => ⟨p, ks, h1, h2, h3, hk⟩
theorem el_slN {σ : L2.St} {H : Hp} {te : TE} {tl th : TO} {xs : List V} {lo hi : Option Int} (h : EvL te σ H xs) (h1 : EvO tl σ H lo) (h2 : EvO th σ H hi) : EvL (tSl (rSlL K) te tl th) σ H (cutV xs lo hi) := fun H1 e Q q =>
  h H1 e _ fun p H2 hp e2 hh => h1 H2 (e.trans e2) _ fun H3 e3 => h2 H3 ((e.trans e2).trans e3) _ fun H4 e4 => ⟨p, xs, rfl, ex_l (e3.trans e4) (sq_of hh), fun l hl => q l _ (fresh_back ((e2.trans e3).trans e4) hl) (((e2.trans e3).trans e4).trans (Ex.new hl)) upd_same⟩
theorem ev_slS {σ : L2.St} {H : Hp} {te : TE} {tl th : TO} {z : Str} {lo hi : Option Int} (h : Ev te σ H (.str z)) (h1 : EvO tl σ H lo) (h2 : EvO th σ H hi) (hz : z.cps.size ≤ 1000) : Ev (tSl rSlS te tl th) σ H (.str (cutS z lo hi)) := fun H1 e Q q =>
  h H1 e _ fun H2 e2 => h1 H2 (e.trans e2) _ fun H3 e3 => h2 H3 ((e.trans e2).trans e3) _ fun H4 e4 => ⟨z, rfl, sz_of (by show z.cps.size ≤ _; omega), q H4 ((e2.trans e3).trans e4)⟩
theorem rv_catS {H : Hp} {x y : Str} (h : x.length + y.length ≤ 1000) : Evl.RV (fun x y H Q => ∃ i j, x = .str i ∧ y = .str j ∧ i.length + j.length ≤ sizeLine ∧ Q (.str (i ++ j)) H) (.str x) (.str y) H (.str (x ++ y)) := fun H1 e Q q => ⟨x, y, rfl, rfl, sz_of (by omega), q H1 (Ex.refl H1)⟩
/-- "".join of new letters -/
theorem erb_join {σ : L2.St} {B cl : Addr} {Hc : Hp} {te : TE} (h : EvRB te σ B cl Hc (fun v H1 H2 => ∃ p xs, v = .ref p ∧ H1 p = none ∧ H2 p = some (.lst (svs xs)) ∧ (1 ≤ xs.length ∧ xs.length ≤ 8) ∧ ∀ x ∈ xs, ∃ n, n < 26 ∧ x = letS n)) : EvRB (tM1 (rJoin K) (tC (.str "")) te) σ B cl Hc (fun v _ _ => ∃ z : Str, v = .str z ∧ 1 ≤ z.cps.size ∧ z.cps.size ≤ 8 ∧ ∀ c ∈ z.cps.toList, 97 ≤ c ∧ c ≤ 122) := fun H1 a b Q q =>
  ⟨⟨_, rfl⟩, h H1 a b _ fun v H2 e b2 ⟨p, xs, ev, _, hp, ⟨h1, h8⟩, hx⟩ => by
    subst ev
    have hc := join_cps xs
    have hone : ∀ ys : List Str, (∀ x ∈ ys, ∃ n, n < 26 ∧ x = letS n) → (ys.flatMap fun z => z.cps.toList).length = ys.length ∧ (ys.map (·.length)).sum = ys.length := fun ys hy => by
      induction ys with
      | nil => exact ⟨rfl, rfl⟩
      | cons y r ih =>
        obtain ⟨i1, i2⟩ := ih fun x hx => hy x (List.mem_cons_of_mem _ hx)
        obtain ⟨n, _, rfl⟩ := hy y List.mem_cons_self
        constructor
        · rw [List.flatMap_cons, List.length_append, i1, List.length_cons]
          show 1 + r.length = _
          omega
        · rw [List.map_cons, List.sum_cons, i2, List.length_cons]
          show 1 + r.length = _
          omega
    obtain ⟨l1, l2⟩ := hone xs hx
    refine ⟨Str.empty, p, xs, rfl, rfl, .inl (SqL.of (hideA_ex _ _ _ _ hp)), ?_, q _ H2 e b2 ⟨Txt.join Str.empty xs, rfl, ?_, ?_, fun c hcm => ?_⟩⟩
    · rw [l2]
      show xs.length + xs.length * 0 ≤ _
      omega
    · rw [← Array.length_toList, hc, l1]
      exact h1
    · rw [← Array.length_toList, hc, l1]
      exact h8
    · rw [hc] at hcm
      obtain ⟨y, hy, hcy⟩ := List.mem_flatMap.mp hcm
      obtain ⟨n, hn, rfl⟩ := hx y hy
      have : c = 97 + n := by simpa [letS] using hcy
      omega⟩
theorem sc_L_names : FnScope ["_law_bag_here", "_law_many", "_law_letters", "_law_way", "_law_turn", "_law_words", "_law_k", "_law_base", "_law_at"] ["_law_bag_here", "_law_many"] (defScope s_L_names) := C8.fnScope_by (by decide +kernel)
theorem ok_L_names (T : Tp K mg) (F : FD K d_L_names) (c_L_take : C8.Cal P w K mg base 1 "_law_take" spTake []) : C8.Cal P w K mg base 2 "_law_names" spLNames [] := by
  refine cal_k F T.g_law_names sc_L_names (fun _ _ _ _ _ _ us hl => match us, hl with | [_, _], _ => rfl) (fun vs H Q E h => ?_) (fun cdv A outer s H vs Q E hr h => ?_)
  · obtain ⟨B, cl, ws, R, rfl, _, ⟨many, rfl, _⟩, _⟩ := h
    rfl
  · obtain ⟨B, cl, ws, R, rfl, hb, ⟨many, rfl, hm1, hm8, rfl⟩, q⟩ := h
    refine ⟨_, (pss_cons (ps_set (i := 2) (sc_L_names).nd rfl (.inr rfl) pe_str)
  (pss_cons (ps_asg (pe_tup (pa_cons (C8.pe_c c_L_take hr (by decide) (by rfl) (pa_cons (pv 0) (pa_cons pe_int pa_nil))) (pa_cons (C8.pe_c c_L_take hr (by decide) (by rfl) (pa_cons (pv 0) (pa_cons pe_int pa_nil))) pa_nil))) (k_pgTup (K := K) rfl rfl (pgs_cons (pg_name (i := 3) (sc_L_names).nd rfl (.inl rfl)) (pgs_cons (pg_name (i := 4) (sc_L_names).nd rfl (.inr rfl)) pgs_nil))))
  (pss_cons (ps_if (pt_cmpR op_eq (pv 3) pe_int (nomark _))
  (pss_cons (ps_set (i := 5) (sc_L_names).nd rfl (.inl rfl) (pe_lst (pa_cons pe_str (pa_cons pe_str (pa_cons pe_str (pa_cons pe_str (pa_cons pe_str (pa_cons pe_str (pa_cons pe_str (pa_cons pe_str pa_nil))))))))))
  (pss_one (ps_ret (pe_slice (k_slL (K := K) rfl) (pe_op op_cat (pe_slice (k_slL (K := K) rfl) (pv 5) (po_some (pe_op op_modN (pv 4) pe_int)) po_none) (pe_slice (k_slL (K := K) rfl) (pv 5) po_none (po_some (pe_op op_modN (pv 4) pe_int)))) po_none (po_some (pv 1))))))
  pss_nil)
  (pss_cons (ps_if (pt_cmpR op_eq (pv 3) pe_int (nomark _))
  (pss_one (ps_ret (pe_lc (own := [("_law_k", 6)]) (g := (gName 6)) (by rfl) (sc_L_names).nd (pi_range1 (by rfl) T.f_range (pa_cons (pv 1) pa_nil)) (blkOk_by (own := [("_law_k", 6)]) (N := ["_law_bag_here", "_law_many", "_law_letters", "_law_way", "_law_turn", "_law_words", "_law_k", "_law_base", "_law_at"]) (sc := defScope s_L_names) (by decide +kernel)) (fun _ _ _ _ _ => (pg_name (i := 6) (sc_L_names).nd rfl (by first | exact .inl rfl | exact .inr rfl))) (fun _ _ _ _ _ => pts_nil) (fun _ _ _ _ _ => (pe_ix ix_str (pv 2) (pe_op op_modN (pe_op op_add (pv 4) (pe_op op_mul pe_int (pv 6))) pe_int) (fun _ _ => rfl))))))
  pss_nil)
  (pss_cons (ps_if (pt_cmpR op_eq (pv 3) pe_int (nomark _))
  (pss_one (ps_ret (pe_lc (own := [("_law_k", 6)]) (g := (gName 6)) (by rfl) (sc_L_names).nd (pi_range1 (by rfl) T.f_range (pa_cons (pv 1) pa_nil)) (blkOk_by (own := [("_law_k", 6)]) (N := ["_law_bag_here", "_law_many", "_law_letters", "_law_way", "_law_turn", "_law_words", "_law_k", "_law_base", "_law_at"]) (sc := defScope s_L_names) (by decide +kernel)) (fun _ _ _ _ _ => (pg_name (i := 6) (sc_L_names).nd rfl (by first | exact .inl rfl | exact .inr rfl))) (fun _ _ _ _ _ => pts_nil) (fun _ _ _ _ _ => (pe_op op_mul_str (pe_ix ix_str (pv 2) (pv 4) (fun _ _ => rfl)) (pe_op op_add (pv 6) pe_int))))))
  pss_nil)
  (pss_cons (ps_set (i := 7) (sc_L_names).nd rfl (.inr rfl) (k_join (K := K) rfl pe_str (pe_lc (own := [("_law_k", 6)]) (g := (gName 6)) (by rfl) (sc_L_names).nd (pi_range1 (by rfl) T.f_range (pa_cons (pe_op op_add pe_int (C8.pe_c c_L_take hr (by decide) (by rfl) (pa_cons (pv 0) (pa_cons pe_int pa_nil)))) pa_nil)) (blkOk_by (own := [("_law_k", 6)]) (N := ["_law_bag_here", "_law_many", "_law_letters", "_law_way", "_law_turn", "_law_words", "_law_k", "_law_base", "_law_at"]) (sc := defScope s_L_names) (by decide +kernel)) (fun _ _ _ _ _ => (pg_name (i := 6) (sc_L_names).nd rfl (by first | exact .inl rfl | exact .inr rfl))) (fun _ _ _ _ _ => pts_nil) (fun _ _ _ _ _ => (pe_ix ix_str (pv 2) (C8.pe_c c_L_take hr (by decide) (by rfl) (pa_cons (pv 0) (pa_cons pe_int pa_nil))) (fun _ _ => rfl))))))
  (pss_cons (ps_set (i := 8) (sc_L_names).nd rfl (.inr rfl) (C8.pe_c c_L_take hr (by decide) (by rfl) (pa_cons (pv 0) (pa_cons (pe_callB call_len_str (by rfl) T.f_len PySem.boot_len (pa_cons (pv 7) pa_nil)) pa_nil))))
  (pss_one (ps_ret (pe_lc (own := [("_law_k", 6)]) (g := (gName 6)) (by rfl) (sc_L_names).nd (pi_range1 (by rfl) T.f_range (pa_cons (pv 1) pa_nil)) (blkOk_by (own := [("_law_k", 6)]) (N := ["_law_bag_here", "_law_many", "_law_letters", "_law_way", "_law_turn", "_law_words", "_law_k", "_law_base", "_law_at"]) (sc := defScope s_L_names) (by decide +kernel)) (fun _ _ _ _ _ => (pg_name (i := 6) (sc_L_names).nd rfl (by first | exact .inl rfl | exact .inr rfl))) (fun _ _ _ _ _ => pts_nil) (fun _ _ _ _ _ => (pe_op op_add_str (pe_op op_add_str (pe_slice sl_str (pv 7) po_none (po_some (pv 8))) (pe_ix ix_str (pv 2) (pe_op op_modN (pe_op op_add (pv 4) (pe_op op_mul pe_int (pv 6))) pe_int) (fun _ _ => rfl))) (pe_slice sl_str (pv 7) (po_some (pe_op op_add (pv 8) pe_int)) po_none))))))))))))), ?_⟩
    refine q_asg ev_c fun H1 e1 => ?_
    have b1 := hb.ex e1
    refine qb_asg2 (T := fun x y _ _ => ∃ a b : Nat, x = .int (a : Int) ∧ y = .int (b : Int) ∧ a < 5 ∧ b < 26) (earb_cons (erb_take (n := 5) (fun _ => ev_var rfl) (lb_v ev_c) fun v Ha Hb r => ⟨5, r, by omega, by omega, Nat.le_refl _⟩) (earb_cons (erb_take (n := 26) (fun _ => ev_var rfl) (lb_v ev_c) fun v Ha Hb r => ⟨26, r, by omega, by omega, Nat.le_refl _⟩) earb_nil)) b1 ?_ ?_
    · rintro vs Hx ex ⟨v1, r1, Hy, rfl, ey, ez, ⟨k1, hk1, rfl⟩, v2, r2, Hz, rfl, eu, ew, ⟨k2, hk2, rfl⟩, rfl⟩
      exact ⟨_, _, rfl, k1, k2, rfl, rfl, hk1, hk2⟩
    rintro x y H2 H3 e2 e3 b3 ⟨way, t, rfl, rfl, hway, ht⟩
    have ex3 := ((hideA_mono (D := B) e1).trans e2).trans (hideA_mono e3)
    have fin : ∀ {σ : L2.St} {te : TE} {H4 : Hp}, Ex H3 H4 → EvRB te σ B cl (hideA B H4) (RNames many) → tRet te { nx := fun _ H' => Q .non H', rt := Q } σ H4 := fun {σ te H4} e4 h => sb_ret h (b3.ex e4) fun v H5 e5 b5 ⟨p, ks, z1, z2, z3⟩ => q v H5 ((ex3.trans (hideA_mono e4)).trans e5) b5 ⟨p, ks, z1, fresh_back (ex3.trans (hideA_mono e4)) z2, z3⟩
    have hfm : ∀ {Hx : Hp} {i : Nat} {σ : L2.St} {te tk : TE} (m : Nat), Ev te σ Hx (.int (t : Int)) → Ev tk σ Hx (.int (i : Int)) → m ≤ 100 → Ev (tOp (rI (fun _ j => j ≠ 0) fun i j => .int (i.fmod j)) (tOp (rI0 fun i j => .int (i + j)) te (tOp (rI CMul fun i j => .int (i * j)) (tC (.int (m : Int))) tk)) (tC (.int 26))) σ Hx (.int (((t + m * i) % 26 : Nat) : Int)) := fun {Hx i σ te tk} m h1 h2 hm => ev_is (ev_op (ev_op h1 (ev_op ev_c h2 (rv_I (.inl ⟨by omega, by omega⟩))) rv_I0) ev_c (rv_I (by decide))) (congrArg V.int (by
      have := fmod_n (t + m * i) 26
      rw [Int.natCast_add, Int.natCast_mul] at this
      exact this))
    refine q_when (et_B (ev_op (ev_var rfl) ev_c (rv_eq rfl))) (fun hb0 H4 e4 => ?_) fun hb0 H4 e4 => ?_
    · refine q_asgL (xs := svs words8) (el_lst (ea_cons ev_c (ea_cons ev_c (ea_cons ev_c (ea_cons ev_c (ea_cons ev_c (ea_cons ev_c (ea_cons ev_c (ea_cons ev_c ea_nil)))))))) (by decide)) fun wl H5 hwl e5 hwl' => ?_
      have e45 := e4.trans e5
      have hwB : wl ≠ B := fun e => (b3.ex e4).some (by rw [← e]; exact hwl)
      have hw : hideA B H5 wl = some (.lst (svs words8)) := (hideA_ne hwB).trans hwl'
      have hm8' : ∀ {Hx : Hp} {σ : L2.St} {te : TE}, Ev te σ Hx (.int (t : Int)) → Ev (tOp (rI (fun _ j => j ≠ 0) fun i j => .int (i.fmod j)) te (tC (.int 8))) σ Hx (.int ((t % 8 : Nat) : Int)) := fun {Hx σ te} h => ev_is (ev_op h ev_c (rv_I (by decide))) (congrArg V.int (fmod_n t 8))
      refine fin e45 (lb_names (ks := way0 (t % 8) many) (el_is (el_slN (el_is (el_cat (el_sl (ev_var rfl) (eo_some (hm8' (ev_var rfl))) eo_none (SqL.of hw)) (el_sl (ev_var rfl) eo_none (eo_some (hm8' (ev_var rfl))) (SqL.of hw)) ?_) ?_) eo_none (eo_some (ev_var rfl)) (xs := svs (words8.drop (t % 8) ++ words8.take (t % 8)))) (by rw [cut_to]; exact List.map_take.symm)) (way0_ok hm8))
      · rw [cut_from, cut_to, List.length_take, List.length_drop]
        simp [words8]
        omega
      · rw [cut_from, cut_to, ← List.map_drop, ← List.map_take, ← List.map_append]
    refine q_when (et_B (ev_op (ev_var rfl) ev_c (rv_eq rfl))) (fun hb1 H5 e5 => ?_) fun hb1 H5 e5 => ?_
    · refine fin (e4.trans e5) (lb_names (ks := way1 t many) (el_is (el_compR (n := many) (ei_rngN (ev_var rfl) rfl (by omega)) (by omega) (fun _ => true) (fun k => .str (letS ((t + 3 * k) % 26))) (fun _ => rfl) (fun _ _ _ _ => et_yes) fun k hk _ H6 e6 => ev_letter (ev_var rfl) (hfm 3 (ev_var rfl) (ev_var rfl) (by omega)) (Nat.mod_lt _ (by decide))) ?_) (way1_ok hm8))
      rw [filt_tt]
      show _ = List.map V.str (List.map _ _)
      rw [List.map_map]
      rfl
    refine q_when (et_B (ev_op (ev_var rfl) ev_c (rv_eq rfl))) (fun hb2 H6 e6 => ?_) fun hb2 H6 e6 => ?_
    · refine fin ((e4.trans e5).trans e6) (lb_names (ks := way2 t many) (el_is (el_compR (n := many) (ei_rngN (ev_var rfl) rfl (by omega)) (by omega) (fun _ => true) (fun k => .str ⟨(List.replicate (k + 1) (97 + t)).toArray⟩) (fun _ => rfl) (fun _ _ _ _ => et_yes) fun k hk _ H7 e7 => ev_op (ev_letter (ev_var rfl) (ev_var rfl) ht) (ev_op (ev_var rfl) ev_c rv_I0) fun H8 e8 Q' q' => ⟨97 + t, k + 1, rfl, rfl, by omega, by omega, q' H8 (Ex.refl H8)⟩) ?_) (way2_ok ht hm8))
      rw [filt_tt]
      show _ = List.map V.str (List.map _ _)
      rw [List.map_map]
      rfl
    have e46 := (e4.trans e5).trans e6
    have b6 := b3.ex e46
    refine qb_asg (R := fun v _ _ => ∃ z : Str, v = .str z ∧ 1 ≤ z.cps.size ∧ z.cps.size ≤ 8 ∧ ∀ c ∈ z.cps.toList, 97 ≤ c ∧ c ≤ 122) (erb_join (erb_compS (fun m => 1 ≤ m ∧ m ≤ 8) (fun z => ∃ n, n < 26 ∧ z = letS n) (erb_op (lb_v ev_c) (erb_take (n := 8) (fun _ => ev_var rfl) (lb_v ev_c) fun v Ha Hb r => ⟨8, r, by omega, by omega, Nat.le_refl _⟩) fun x y Ha Hb Hd ea eb ed ex ⟨k, hk, ey⟩ => ?_) (fun _ => rfl) fun i Hd ed => ?_)) b6 fun v H7 e7 b7 ⟨z, ev, hz1, hz8, hzc⟩ => ?_
    · have ex : x = .int 1 := ex
      subst ex
      subst ey
      exact ⟨.int (1 + (k : Int)), fun Hf ef Q' q' => ⟨1, (k : Int), rfl, rfl, q'⟩, 1 + k, by simp, by omega, by omega, by omega⟩
    · refine erb_op (lb_v (v := .str alph) (ev_var rfl)) (erb_take (n := 26) (fun _ => ev_var rfl) (lb_v ev_c) fun v Ha Hb r => ⟨26, r, by omega, by omega, Nat.le_refl _⟩) fun x y Ha Hb Hd ea eb ed ex ⟨k, hk, ey⟩ => ?_
      have ex : x = .str alph := ex
      subst ex
      subst ey
      exact ⟨.str (letS k), fun Hf ef Q' q' => ⟨alph, (k : Int), 97 + k, rfl, rfl, by decide, atI_nat (alph_at k hk), q'⟩, letS k, rfl, k, hk, rfl⟩
    subst ev
    refine qb_asg (erb_take (n := z.cps.size) (fun _ => ev_var rfl) (lb_v (v := .int (z.cps.size : Int)) (ev_lenS (ev_var rfl) (by omega))) fun v Ha Hb r => ⟨z.cps.size, r, by omega, by omega, Nat.le_refl _⟩) b7 fun v H8 e8 b8 ⟨at_, hat, ev⟩ => ?_
    subst ev
    have ex8 := ((ex3.trans (hideA_mono e46)).trans e7).trans e8
    have hzl : z.cps.toList.length = z.cps.size := Array.length_toList
    refine sb_ret (lb_names (ks := way3 z.cps.toList at_ t many) (el_is (el_compR (n := many) (ei_rngN (ev_var rfl) rfl (by omega)) (by omega) (fun _ => true) (fun k => .str (chg z.cps.toList at_ (97 + (t + 5 * k) % 26))) (fun _ => rfl) (fun _ _ _ _ => et_yes) fun k hk _ H9 e9 => ?_) ?_) (way3_ok hzc (by omega) (by omega) hm8)) b8 fun v H9 e9 b9 ⟨p, ks, w1, w2, w3⟩ => q v H9 (ex8.trans e9) b9 ⟨p, ks, w1, fresh_back ex8 w2, w3⟩
    · have hn := Nat.mod_lt (t + 5 * k) (show 0 < 26 by decide)
      refine ev_is (ev_op (ev_op (ev_slS (z := z) (lo := none) (hi := some (at_ : Int)) (ev_var rfl) eo_none (eo_some (ev_var rfl)) (by omega)) (ev_letter (ev_var rfl) (hfm 5 (ev_var rfl) (ev_var rfl) (by omega)) hn) (rv_catS ?_)) (ev_slS (z := z) (lo := some ((at_ + 1 : Nat) : Int)) (hi := none) (ev_var rfl) (eo_some (ev_op (ev_var rfl) ev_c rv_I0)) eo_none (by omega)) (rv_catS ?_)) ?_
      · have := cutS_length z none (some (at_ : Int))
        have h2 : z.length = z.cps.size := rfl
        have h3 : (letS ((t + 5 * k) % 26)).length = 1 := rfl
        omega
      · have h1 := cutS_length z none (some (at_ : Int))
        have h4 := cutS_length z (some ((at_ + 1 : Nat) : Int)) none
        have h2 : z.length = z.cps.size := rfl
        have h3 : (cutS z none (some (at_ : Int)) ++ letS ((t + 5 * k) % 26)).length = (cutS z none (some (at_ : Int))).length + 1 := by
          show ((cutS z none (some (at_ : Int))).cps ++ #[97 + (t + 5 * k) % 26]).size = _
          simp
          rfl
        omega
      · refine congrArg V.str (str_ext ?_)
        show (((cutS z none (some (at_ : Int))).cps ++ #[97 + (t + 5 * k) % 26]) ++ (cutS z (some ((at_ + 1 : Nat) : Int)) none).cps).toList = _
        have h2 : z.length = z.cps.size := rfl
        unfold cutS chg
        rw [HT.sIx_none, HT.sIx_nat, HT.sIx_none, HT.sIx_nat, Nat.min_eq_left (by omega), Nat.min_eq_left (by omega)]
        have ht : (z.cps.toList.drop (at_ + 1)).take (z.length - (at_ + 1)) = z.cps.toList.drop (at_ + 1) := List.take_of_length_le (by rw [List.length_drop]; omega)
        rw [ht]
        simp
    · rw [filt_tt]
      show _ = List.map V.str (List.map _ _)
      rw [List.map_map]
      rfl
end
end K64
set_option Elab.async false
set_option linter.all false
set_option maxRecDepth 100000
set_option maxHeartbeats 4000000
/-! Promises that hold where no repr is under way. -/
namespace K64
open PySem PySem.Spec PyProof.Rows L2 Evl
structure FnOkG (P : Program) (w : World) (K : PySem.W.Frag) (mg : Str → Option Value) (base : Heap) (CX : CXT) (k : Nat) (f : Addr) (fd : FuncData) (ps : List Str) (sp : Sp) : Prop where
  len : ∀ vs H Q E, sp vs H Q E → vs.length = ps.length
  run : ∀ (A : Around) (outer : List Env) (s : Shared) (H : Hp) (args : Args) (us : List Value) (vs : List V) (Q : VK) (E : XK), Room k A → A.guards = some [] → Env0 P w K mg base A outer s H → BindsTo s fd args (ps.zip us) → Vals vs us → sp vs H Q E →
    codeAny (model P w) A (.call (.ref f) args) (CR CX outer P w H s Q E) s
theorem fn_ofG {CX : CXT} {P : Program} {w : World} {K : PySem.W.Frag} {mg : Str → Option Value} {base : Heap} {k : Nat} {f : Addr} {name qual : Str} {params : Arguments} {body : List Stmt} {scope : Scope} {dV kV doc pm cdv ct oc : Value} {an od : Option Addr}
    {osl : Array (Option Value)} {N ps : List Str} {sp : Sp} (lk : K.lookup f = some ⟨oc, od, .func (PySem.W.fnOf name qual params body scope dV kV doc pm an cdv ct), osl⟩) (hcd : PySem.W.codeIn K cdv qual = true) (S : FnScope N ps scope)
    (len : ∀ vs H Q E, sp vs H Q E → vs.length = ps.length)
    (hbody : ∀ (A : Around) (outer : List Env) (s : Shared) (H : Hp) (vs : List V) (Q : VK) (E : XK), Room k (A.deeper (envOfC qual scope s.heap.objs.size f cdv)) → A.guards = some [] → sp vs H Q E →
      ∃ t, PSs (cxOf CX P w K mg base N qual scope f cdv A outer s H E) body t ∧ t { nx := fun _ H' => Q .non H', rt := Q } (start N vs) H) :
    FnOkG P w K mg base CX (k + 1) f (PySem.W.fnOf name qual params body scope dV kV doc pm an cdv ct) ps sp := by
  refine ⟨len, fun A outer s H args us vs Q E hr hg e0 hb r hsp => ?_⟩
  have hl := len _ _ _ _ hsp
  have KX : K.In s.heap := e0.mod.kin.keeps fun b o e => (e0.bs b o e).1
  have lim : s.heap.NoLimit := e0.mod.nolimit.keeps fun b o e => (e0.bs b o e).1
  have hkind : ∀ y ∈ ps.zip us, scope.names.lookup y.1 = some .local ∨ (scope.names.lookup y.1 = some .cell ∧ ((cellsFrom (s.heap.objs.size + 1) scope.names []).lookup y.1).isSome = true) := fun ⟨n, v⟩ hy => by
    rcases S.par n (List.of_mem_zip hy).1 with q | q
    · exact .inl q
    · exact .inr ⟨q, PySem.W.cellsFrom_some _ _ _ (.inl q)⟩
  refine codeAny_call_function hr.depth (KX _ _ lk) rfl S.co S.gen rfl (PySem.W.codeRec_of KX hcd) (hb _ _ _ _ ?_)
  refine wpAny_newFunctionEnv_cells S.kind hkind fun env he s1 x => ?_
  subst he
  refine ⟨lim.keeps x.toInCall.keep, codeAny_func ?_⟩
  obtain ⟨t, ht, hq⟩ := hbody A outer s H vs Q E (hr.deeper _) hg hsp
  have I : L2.Inv (cxOf CX P w K mg base N qual scope f cdv A outer s H E) [] (start N vs) H s1 := inv_start S hr.hd e0 hl r x
  refine wpAny_mono (ht.run [] s1 (start N vs) H _ I hq) (fun fl s' hs => ?_) fun e s' hs => hs
  cases fl with
  | ret u =>
    obtain ⟨v, σ', H', J, rv, q⟩ := hs
    exact ⟨v, H', J.os, J.bare, J.base, J.hok, rv, q⟩
  | next =>
    obtain ⟨σ', H', J, q⟩ := hs
    exact ⟨V.non, H', J.os, J.bare, J.base, J.hok, rfl, q⟩
  | brk =>
    obtain ⟨_, _, _, q⟩ := hs
    exact False.elim q
  | cont =>
    obtain ⟨_, _, _, q⟩ := hs
    exact False.elim q
section
variable {X : Cx} {CX : CXT} {k : Nat} {f C : Addr} {fd : FuncData} {ps : List Str} {sp : Sp} {dvs : List V} {ds : List Value} {E : XK} {x m : Str} {p pos apos : Pos} {e o : Expr} {es : List Expr} {ta : TE} {t : TA}
theorem run_fnG {pins : List (Addr × Obj)} {σ : L2.St} {H : Hp} {s : Shared} {Q : VK} {us : List Value} {vs : List V} (F : FnOkG X.prog X.w X.K X.mg X.base CX k f fd ps sp) (hr : Room k X.A) (hg : X.A.guards = some []) (hb : Binds X.K fd ps ds) (hd : Vals dvs ds) (hx : Passes CX X E)
    (I : L2.Inv X pins σ H s) (r : Vals vs us) (h : sp (vs ++ dvs) H Q E) : wpAny (model X.prog X.w) X.A (call (.ref f) us) (EP X pins σ Q) X.xe s := by
  have r2 : Vals (vs ++ dvs) (us ++ ds) := r.append hd
  have hl : (us ++ ds).length = ps.length := by rw [← r2.length]; exact F.len _ _ _ _ h
  refine wpAny_call (codeAny_mono (F.run X.A X.stack s H ⟨us, []⟩ (us ++ ds) (vs ++ dvs) Q E hr hg I.env0 (hb s us I.kIn hl) r2 h) fun r s' hq => ?_)
  cases r with
  | error e => exact hx pins σ H s e s' I hq
  | ok fl =>
    cases fl with
    | ret u => exact I.after hq
    | next => exact False.elim hq
    | brk => exact False.elim hq
    | cont => exact False.elim hq
theorem pe_callG (F : FnOkG X.prog X.w X.K X.mg X.base CX k f fd ps sp) (hr : Room k X.A) (hgd : X.A.guards = some []) (hg : Gl X x) (hm : X.mg x = some (.ref f)) (hk : PySem.W.keepIn X.K (.ref f) = true) (hb : Binds X.K fd ps ds) (hd : Vals dvs ds) (hx : Passes CX X E)
    (ha : PA X (e :: es) t) (hdb : (x == ("__debug__" : Str)) = false := by decide) (he : starEach (e :: es) X.env = (false, eval e X.env) :: starEach es X.env := by rfl) (hpl : (backTo pos (starEach es X.env)).any (·.1) = false := by rfl) :
    PE X (.Call (.Name x p) (e :: es) [] pos) (tCall sp dvs E t) := by
  refine ⟨fun pins s σ H Q I h => ?_⟩
  refine wpAny_Call_Name_kw (ld_glob I hg hm ?_ hdb)
  refine PySem.W.callWith_K (h₀ := X.base) I.ok.mod.kin hk (thn (ha.run pos pins s σ H _ I h) fun us s1 ⟨vs, H1, I1, r, q⟩ => ⟨I1.kIn, ?_⟩) he hpl
  exact run_fnG F hr hgd hb hd hx I1 r q
end
end K64
set_option Elab.async false
set_option linter.all false
set_option maxRecDepth 100000
set_option maxHeartbeats 4000000
/-! repr(x), x data. -/
namespace K64
open PySem PySem.Spec PyProof.Rows L2 Evl
def rReprD (K : PySem.W.Frag) : List V → Hp → VK → Prop := fun vs H Q => ∃ (a : Addr) (d : PyData), vs = [.ref a] ∧ Dp K H (.ref a) d ∧ d.showable = true ∧ d.hasDict = false ∧ d.depth ≤ 60 ∧ d.shown.length ≤ 16000000 ∧ Q (.str d.shown) H
section
variable {X : Cx} {k : Nat}
theorem cr_reprD (hg : X.A.guards = some []) (hr : Room k X.A) : CallR X (.builtin "repr") (rReprD X.K) := by
  intro pins s σ H vs us Q I r h
  obtain ⟨a, d, rfl, hd, hs, hdd, hdp, hz, q⟩ := h
  rw [Vals.ref1 r]
  obtain ⟨as, rd⟩ := Dp.reads I d (.ref a) (.ref a) hd rfl
  have hu := hr.un
  exact repr_of_reads' rd hs (fun e => by rw [hdd] at e; cases e) hg (by omega) (fun _ _ e => e) (fun h' u tk hk => ⟨.str d.shown, H, I.kept (t' := tk) hk, ⟨u, rfl⟩, q⟩) (by rw [sizeLine_eq]; omega)
/-- {x!r}, x data -/
def tFmtD (K : PySem.W.Frag) (te : TE) : TE := fun σ H Q => te σ H fun x H1 => rReprD K [x] H1 Q
theorem pe_fmtD {e : Expr} {te : TE} {pos : Pos} (hg : X.A.guards = some []) (hr : Room k X.A) (he : PE X e te) : PE X (.FormattedValue e 114 none pos) (tFmtD X.K te) := by
  refine ⟨fun pins s σ H Q I h => ?_⟩
  refine wpAny_FormattedValue_repr (thn (he.run pins s σ H _ I h) fun v s1 hv => ?_)
  obtain ⟨x, H1, I1, r1, a, d, ex, hd, hs, hdd, hdp, hz, q⟩ := hv
  have ex : x = .ref a := (List.cons.inj ex).1
  subst ex
  obtain rfl : v = Value.ref a := r1
  obtain ⟨as, rd⟩ := Dp.reads I1 d (.ref a) (.ref a) hd rfl
  have hu := hr.un
  have hz' : d.shown.length ≤ sizeLine := by rw [sizeLine_eq]; omega
  refine pyReprObj_of_reads rd hs (fun e => by rw [hdd] at e; cases e) hg (by omega) (fun _ _ e => e) (fun h' u tk hk => ?_) hz'
  have I2 : L2.Inv X pins σ H1 { s1 with heap := h', toks := tk } := I1.kept (t' := tk) hk
  exact wpAny_formatField_str ⟨.str d.shown, H1, I2, ⟨u, rfl⟩, q⟩ ⟨.str d.shown, H1, I2.tok _, ⟨_, rfl⟩, q⟩ hz'
end
/-! ### repr of an instance with an own __repr__ -/
section
variable {prog : Program} {w : World} {K : PySem.W.Frag} {A : Around} {E : Value → Shared → Prop} {s : Shared} {x C f : Addr} {ox : Obj} {od : Option Obj}
theorem repr_K {Q : Value → Shared → Prop} (hu : A.in1.units < cLine) (X : K.In s.heap) (I : PySem.W.InstAt s.heap x ox C od) (hr : PySem.W.findIn K (.ref C) "__repr__" = some (some (.ref f))) (hf : PySem.W.isFn K (.ref f) = true)
    (h : wpAny (model prog w) A.in1 (call (.ref f) [.ref x]) (fun r s' => ∃ m tk, r = .str m tk ∧ Q (.str m tk) s') E s) : wpAny (model prog w) A (call (.builtin "repr") [.ref x]) Q E s := by
  refine Calls.call_function_entry PySem.F.kind_repr PySem.F.plain_repr PySem.F.entry_repr (PySem.F.args_repr1 _) ?_
  unfold Builtin.«repr»
  refine wpAny_bind (m := oneArg "repr" _) (wpAny_pure ?_)
  refine wpAny_bind (wpAny_cRoomFor hu ?_)
  refine wpAny_bind (m := specialOf (.ref x) _) (wpAny_bind (I.type.here ((PySem.W.looks_findIn X hr).here ?_)))
  show wpAny _ _ (if (some (Value.ref f)).isNone = true then _ else _) _ _ _
  rw [if_neg (by simp)]
  refine wpAny_bind (m := callSpecialIfBound? (.ref x) (Str.ofString "__repr__") _) (PySem.W.ifBound_K X I hr hf (wpAny_mono h (fun r s' hr => ?_) fun _ _ y => y))
  obtain ⟨m, tk, rfl, hq⟩ := hr
  refine wpAny_bind (wpAny_isInstance (typeIs_str _ _ _) isSubtype_str_str ?_)
  first
    | exact wpAny_pure ⟨_, rfl, hq⟩
    | (rw [if_pos rfl]; exact wpAny_pure ⟨_, rfl, hq⟩)
    | (simp only [if_true]; exact wpAny_pure ⟨_, rfl, hq⟩)
end
section
variable {X : Cx} {CX : CXT} {k : Nat} {f C : Addr} {fd : FuncData} {sp : Sp} {E : XK}
theorem cr_reprI (hg : X.A.guards = some []) (hr : Room (k + 1) X.A) (me : Meth X.K C "__repr__" f) (F : FnOkG X.prog X.w X.K X.mg X.base CX k f fd ["self"] sp) (hb : Binds X.K fd ["self"] []) (hx : Passes CX X E) :
    CallR X (.builtin "repr") (fun vs H Q => ∃ a dx fs, vs = [.ref a] ∧ H a = some (.ins C dx fs) ∧ sp [.ref a] H (fun v H' => ∃ z, v = .str z ∧ Q v H') E) := by
  intro pins s σ H vs us Q I r h
  obtain ⟨a, dx, fs, rfl, ha, h⟩ := h
  rw [Vals.ref1 r]
  obtain ⟨mA, O, _⟩ := ins_get I.hok ha
  obtain ⟨od, J, _⟩ := O.look
  have e := I.env0
  have e1 : Env0 X.prog X.w X.K X.mg X.base X.A.in1 X.stack s H := ⟨e.frames, e.mod, e.bs, e.bsz, e.funs, e.frf, e.hok, e.bare⟩
  have hu := hr.un
  have hu1 : X.A.in1.units < cLine := by show X.A.units + 1 < cLine; omega
  refine repr_K hu1 I.kIn J me.at_ me.fn (wpAny_call (codeAny_mono (F.run X.A.in1 X.stack s H ⟨[.ref a], []⟩ [.ref a] [.ref a] _ E hr.in1 hg e1 (hb s [.ref a] I.kIn rfl) (.cons rfl .nil) h) fun r s' hq => ?_))
  cases r with
  | error e => exact hx pins σ H s e s' I hq
  | ok fl =>
    cases fl with
    | ret u =>
      obtain ⟨v, H', I', rv, z, rfl, q⟩ := I.after hq
      obtain ⟨t, rfl⟩ := rv
      exact ⟨z, t, rfl, .str z, H', I', ⟨t, rfl⟩, q⟩
    | next => exact False.elim hq
    | brk => exact False.elim hq
    | cont => exact False.elim hq
end
/-! ### promises of defs that show -/
section
variable {P : Program} {w : World} {K : PySem.W.Frag} {mg : Str → Option Value} {base : Heap}
theorem fn_kG {x qual : Str} {params : Arguments} {body : List Stmt} {scope : Scope} {dvs : List V} {kws : List (Str × V)} {f : Addr} {fd : FuncData} {N ps : List Str} {k : Nat} {sp : Sp} (F : FunD K x qual params body scope dvs kws f fd) (S : FnScope N ps scope) (len : ∀ vs H Q E, sp vs H Q E → vs.length = ps.length)
    (hbody : ∀ (cdv : Value) (A : Around) (outer : List Env) (s : Shared) (H : Hp) (vs : List V) (Q : VK) (E : XK), Room k (A.deeper (envOfC qual scope s.heap.objs.size f cdv)) → A.guards = some [] → sp vs H Q E →
      ∃ t, PSs (cxOf C8.CX0 P w K mg base N qual scope f cdv A outer s H E).nox body t ∧ t { nx := fun _ H' => Q .non H', rt := Q } (start N vs) H) : FnOkG P w K mg base C8.CX0 (k + 1) f fd ps sp := by
  obtain ⟨oc, od, dV, kV, doc, pm, an, cdv, ct, osl, rfl, lk, hcd, _, _⟩ := F.ex
  exact fn_ofG lk hcd S len fun A outer s H vs Q E hr hg hs => by
    obtain ⟨t, h, q⟩ := hbody cdv A outer s H vs Q E hr hg hs
    exact ⟨t, h.nox, q⟩
structure CalG (P : Program) (w : World) (K : PySem.W.Frag) (mg : Str → Option Value) (base : Heap) (k : Nat) (x : Str) (sp : Sp) : Prop where
  ex : ∃ (f : Addr) (fd : FuncData) (ps : List Str), FnOkG P w K mg base C8.CX0 k f fd ps sp ∧ mg x = some (.ref f) ∧ PySem.W.keepIn K (.ref f) = true ∧ Binds K fd ps []
theorem cal_kG {x : Str} {params : Arguments} {body : List Stmt} {scope : Scope} {f : Addr} {N ps : List Str} {k : Nat} {sp : Sp} (F : ∃ fd, FunD K x x params body scope [] [] f fd) (g : mg x = some (.ref f)) (S : FnScope N ps scope)
    (hb : ∀ (kV doc pm : Value) (an : Option Addr) (cdv ct : Value) (us : List Value), us.length = ps.length → bindArgs (PySem.W.fnOf x x params body scope .none kV doc pm an cdv ct) ⟨us, []⟩ = pure (ps.zip us))
    (len : ∀ vs H Q E, sp vs H Q E → vs.length = ps.length)
    (hbody : ∀ (cdv : Value) (A : Around) (outer : List Env) (s : Shared) (H : Hp) (vs : List V) (Q : VK) (E : XK), Room k (A.deeper (envOfC x scope s.heap.objs.size f cdv)) → A.guards = some [] → sp vs H Q E →
      ∃ t, PSs (cxOf C8.CX0 P w K mg base N x scope f cdv A outer s H E).nox body t ∧ t { nx := fun _ H' => Q .non H', rt := Q } (start N vs) H) : CalG P w K mg base (k + 1) x sp := by
  obtain ⟨fd, F⟩ := F
  exact ⟨f, fd, ps, fn_kG F S len hbody, g, F.kp, F.bindsN hb⟩
end
section
variable {X : Cx} {k j : Nat} {x : Str} {sp : Sp} {p pos : Pos} {e : Expr} {es : List Expr} {t : TA}
theorem pe_cG (c : CalG X.prog X.w X.K X.mg X.base k x sp) (hgd : X.A.guards = some []) (hr : Room j X.A) (hk : k ≤ j) (hg : Gl X x) (ha : PA X (e :: es) t)
    (hdb : (x == ("__debug__" : Str)) = false := by decide) (he : starEach (e :: es) X.env = (false, eval e X.env) :: starEach es X.env := by rfl) (hpl : (backTo pos (starEach es X.env)).any (·.1) = false := by rfl) :
    PE X (.Call (.Name x p) (e :: es) [] pos) (tCall sp [] C8.E0 t) := by
  obtain ⟨f, fd, ps, F, hm, kp, b⟩ := c.ex
  exact pe_callG ⟨F.len, fun A outer s H args us vs Q E hr => F.run A outer s H args us vs Q E (hr.mono hk)⟩ hr hgd hg hm kp b .nil C8.pass0 ha hdb he hpl
end
end K64
set_option Elab.async false
set_option linter.all false
set_option maxRecDepth 100000
set_option maxHeartbeats 4000000
/-! How long what is shown may be. -/
namespace K64
open PySem PySem.Spec PyProof.Rows L2 Evl PySem.Builtin PySem.Builtin.Str
theorem letter_shown (q c : Nat) (hq : q = 34 ∨ q = 39) (h1 : 97 ≤ c) (h2 : c ≤ 122) : (reprChar q c).length ≤ 2 := by
  have : ∀ k : Fin 26, (reprChar 34 (97 + k.val)).length ≤ 2 ∧ (reprChar 39 (97 + k.val)).length ≤ 2 := by decide +kernel
  have h := this ⟨c - 97, by omega⟩
  have e : 97 + (c - 97) = c := by omega
  simp only [e] at h
  rcases hq with rfl | rfl
  · exact h.1
  · exact h.2
theorem fold_len (q : Nat) : ∀ (l : List Nat) (acc : Array Nat), (∀ c ∈ l, (reprChar q c).length ≤ 2) → (l.foldl (fun out c => out ++ (reprChar q c).toArray) acc).size ≤ acc.size + 2 * l.length
  | [], acc, _ => by simp
  | c :: r, acc, h => by
    have ih := fold_len q r (acc ++ (reprChar q c).toArray) fun x hx => h x (List.mem_cons_of_mem _ hx)
    have hc := h c List.mem_cons_self
    rw [List.foldl_cons]
    simp only [Array.size_append, List.size_toArray] at ih
    rw [List.length_cons]
    omega
theorem piled_len : ∀ (ts : List Str) (k : Nat) (acc : Str), (textFrom k acc ts).length ≤ acc.length + (ts.map fun t => t.length + 2).sum
  | [], k, acc => by simp [textFrom]
  | t :: r, k, acc => by
    have ih := piled_len r (k + 1) (acc ++ (if k > 0 then ", " else "" : String) ++ t)
    have e : (acc ++ (if k > 0 then ", " else "" : String) ++ t).length = acc.length + (if k > 0 then 2 else 0) + t.length := by
      rw [strLen_append, strLen_append]
      split <;> rfl
    have hs : textFrom k acc (t :: r) = textFrom (k + 1) (acc ++ (if k > 0 then ", " else "" : String) ++ t) r := rfl
    have e2 : (if k > 0 then 2 else 0 : Nat) ≤ 2 := by split <;> omega
    rw [hs, List.map_cons, List.sum_cons]
    rw [e] at ih
    omega
theorem quote_or (x : Str) : reprQuote x = 34 ∨ reprQuote x = 39 := by
  unfold reprQuote
  split
  · exact .inl rfl
  · exact .inr rfl
theorem shown_good {z : Str} (h : GoodK z) : (reprText z).length ≤ 18 := by
  have hf := fold_len (reprQuote z) z.cps.toList #[reprQuote z] fun c hc => letter_shown _ _ (quote_or z) (h.2.2 c hc).1 (h.2.2 c hc).2
  have : (reprText z).length = (z.cps.toList.foldl (fun out c => out ++ (reprChar (reprQuote z) c).toArray) #[reprQuote z]).size + 1 := by
    unfold reprText Str.length
    rw [Array.size_push, ← Array.foldl_toList]
  have h8 := h.2.1
  rw [Array.length_toList] at hf
  have h1 : (#[reprQuote z] : Array Nat).size = 1 := rfl
  rw [h1] at hf
  omega
theorem sum_le {b : Nat} : ∀ ts : List Str, (∀ t ∈ ts, t.length ≤ b) → (ts.map fun t => t.length + 2).sum ≤ (b + 2) * ts.length
  | [], _ => by simp
  | t :: r, h => by
    have ih := sum_le r fun x hx => h x (List.mem_cons_of_mem _ hx)
    have h1 := h t List.mem_cons_self
    rw [List.map_cons, List.sum_cons, List.length_cons, Nat.mul_succ]
    omega
theorem listText_le {b : Nat} {ts : List Str} (h : ∀ t ∈ ts, t.length ≤ b) : (listText ts).length ≤ 2 + (b + 2) * ts.length := by
  have h1 := piled_len ts 0 "["
  have h2 := sum_le ts h
  have e : (listText ts).length = (textFrom 0 "[" ts).length + 1 := by
    unfold listText
    rw [strLen_append]
    rfl
  have e1 : (("[" : String) : Str).length = 1 := rfl
  rw [e1] at h1
  omega
theorem shownAll_map : ∀ ds : List PyData, PyData.shownAll ds = ds.map PyData.shown
  | [] => rfl
  | d :: r => by rw [PyData.shownAll, shownAll_map r]; rfl
theorem shown_list {xs : List Str} (h : ∀ x ∈ xs, GoodK x) : (PyData.shown (PySem.W.Datum.toD xs)).length ≤ 2 + 20 * xs.length := by
  show (PyData.shown (.list (xs.map PySem.W.Datum.toD))).length ≤ _
  rw [PyData.shown, shownAll_map, List.map_map]
  have := listText_le (b := 18) (ts := xs.map (PyData.shown ∘ PySem.W.Datum.toD)) fun t ht => by
    obtain ⟨x, hx, rfl⟩ := List.mem_map.mp ht
    exact shown_good (h x hx)
  rw [List.length_map] at this
  exact this
theorem join_le {b : Nat} : ∀ ts : List Str, (∀ t ∈ ts, t.length ≤ b) → (Str.join ", " ts).length ≤ (b + 2) * ts.length
  | [], _ => by simp [Str.join, Str.empty, Str.length]
  | [t], h => by
    have := h t List.mem_cons_self
    show t.length ≤ _
    simp
    omega
  | t :: y :: r, h => by
    have ih := join_le (y :: r) fun x hx => h x (List.mem_cons_of_mem _ hx)
    have h1 := h t List.mem_cons_self
    have e : (Str.join ", " (t :: y :: r)).length = t.length + 2 + (Str.join ", " (y :: r)).length := by
      show (t ++ ", " ++ Str.join ", " (y :: r)).length = _
      rw [strLen_append, strLen_append]
      rfl
    rw [e, List.length_cons, Nat.mul_succ]
    omega
theorem tupleText_le {b : Nat} {ts : List Str} (h : ∀ t ∈ ts, t.length ≤ b) : (tupleText ts).length ≤ 3 + (b + 2) * ts.length := by
  have h1 := join_le ts h
  have e : (tupleText ts).length = 1 + (Str.join ", " ts).length + (if ts.length == 1 then 2 else 1) := by
    unfold tupleText
    rw [strLen_append, strLen_append]
    split <;> rfl
  have h2 : (if (ts.length == 1) = true then 2 else 1 : Nat) ≤ 2 := by split <;> omega
  omega
theorem shown_pairs {ps : List (Str × Str)} (h : ∀ p ∈ ps, GoodK p.1 ∧ GoodK p.2) : (PyData.shown (PySem.W.Datum.toD ps)).length ≤ 2 + 45 * ps.length := by
  show (PyData.shown (.list (ps.map PySem.W.Datum.toD))).length ≤ _
  rw [PyData.shown, shownAll_map, List.map_map]
  have := listText_le (b := 43) (ts := ps.map (PyData.shown ∘ PySem.W.Datum.toD)) fun t ht => by
    obtain ⟨p, hp, rfl⟩ := List.mem_map.mp ht
    have h2 := h p hp
    show (PyData.shown (.tuple [.str p.1, .str p.2])).length ≤ 43
    rw [PyData.shown, shownAll_map]
    exact tupleText_le (b := 18) (ts := [reprText p.1, reprText p.2]) fun t ht => by
      have : t = reprText p.1 ∨ t = reprText p.2 := by simpa using ht
      rcases this with rfl | rfl
      · exact shown_good h2.1
      · exact shown_good h2.2
  rw [List.length_map] at this
  exact this
theorem shown_nds {ns : List Nd} (h : ∀ n ∈ ns, (∀ x ∈ n.1, GoodK x) ∧ (∀ x ∈ n.2.1, GoodK x) ∧ (∀ x ∈ n.2.2, GoodK x) ∧ n.1.length ≤ 100 ∧ n.2.1.length ≤ 100 ∧ n.2.2.length ≤ 100) : (PyData.shown (PySem.W.Datum.toD (ns.map t3))).length ≤ 2 + 6100 * ns.length := by
  show (PyData.shown (.list ((ns.map t3).map PySem.W.Datum.toD))).length ≤ _
  rw [PyData.shown, shownAll_map, List.map_map, List.map_map]
  have := listText_le (b := 6098) (ts := ns.map ((PyData.shown ∘ PySem.W.Datum.toD) ∘ t3)) fun t ht => by
    obtain ⟨n, hn, rfl⟩ := List.mem_map.mp ht
    obtain ⟨h1, h2, h3, l1, l2, l3⟩ := h n hn
    have s1 := shown_list h1
    have s2 := shown_list h2
    have s3 := shown_list h3
    show (PyData.shown (.tuple [PySem.W.Datum.toD n.1, PySem.W.Datum.toD n.2.1, PySem.W.Datum.toD n.2.2])).length ≤ 6098
    rw [PyData.shown, shownAll_map]
    have := tupleText_le (b := 2002) (ts := [PyData.shown (PySem.W.Datum.toD n.1), PyData.shown (PySem.W.Datum.toD n.2.1), PyData.shown (PySem.W.Datum.toD n.2.2)]) fun t ht => by
      have : t = PyData.shown (PySem.W.Datum.toD n.1) ∨ t = PyData.shown (PySem.W.Datum.toD n.2.1) ∨ t = PyData.shown (PySem.W.Datum.toD n.2.2) := by simpa using ht
      rcases this with rfl | rfl | rfl <;> omega
    exact Nat.le_trans this (by show 3 + 2004 * 3 ≤ 6098; omega)
  rw [List.length_map] at this
  exact this
end K64
set_option Elab.async false
set_option linter.all false
set_option maxRecDepth 100000
set_option maxHeartbeats 4000000
/-! Suits.__repr__. -/
namespace K64
open PySem PySem.Spec PyProof.Rows L2 Evl
def reprSu (d : Kd) : Str := ((((Str.empty ++ ("Suits(" : Str)) ++ PyData.shown (PySem.W.Datum.toD d.sk)) ++ (", " : Str)) ++ PyData.shown (PySem.W.Datum.toD d.sp)) ++ (")" : Str)
def KdSh (d : Kd) : Prop := KdOk d ∧ (∀ p ∈ d.sp, GoodK p.1 ∧ GoodK p.2) ∧ d.sp.length ≤ 36
section
variable {P : Program} {w : World} {K : PySem.W.Frag} {mg : Str → Option Value} {base : Heap}
def spRepr (K : PySem.W.Frag) : Sp := pur fun vs H R => ∃ S d, vs = [.ref S] ∧ Su K H S d ∧ KdSh d ∧ R = RV (.str (reprSu d))
theorem sc_S_repr : FnScope ["self"] ["self"] (defScope s_S_repr) := C8.fnScope_by (by decide +kernel)
theorem showable_strs : ∀ xs : List Str, PyData.showableAll (xs.map PySem.W.Datum.toD) = true
  | [] => rfl
  | x :: r => by
    rw [List.map_cons, PyData.showableAll, showable_strs r]
    rfl
theorem noDict_strs : ∀ xs : List Str, PyData.hasDictAll (xs.map PySem.W.Datum.toD) = false
  | [] => rfl
  | x :: r => by
    rw [List.map_cons, PyData.hasDictAll, noDict_strs r]
    rfl
theorem showable_pairs : ∀ xs : List (Str × Str), PyData.showableAll (xs.map PySem.W.Datum.toD) = true
  | [] => rfl
  | x :: r => by
    rw [List.map_cons, PyData.showableAll, showable_pairs r]
    rfl
theorem noDict_pairs : ∀ xs : List (Str × Str), PyData.hasDictAll (xs.map PySem.W.Datum.toD) = false
  | [] => rfl
  | x :: r => by
    rw [List.map_cons, PyData.hasDictAll, noDict_pairs r]
    rfl
theorem ev_fmtD {σ : L2.St} {H : Hp} {te : TE} {a : Addr} {d : PyData} (h : Ev te σ H (.ref a)) (hd : ∀ H1, Ex H H1 → Dp K H1 (.ref a) d) (h1 : d.showable = true) (h2 : d.hasDict = false) (h3 : d.depth ≤ 60) (h4 : d.shown.length ≤ 16000000) : Ev (tFmtD K te) σ H (.str d.shown) := fun H1 e Q q =>
  h H1 e _ fun H2 e2 => ⟨a, d, rfl, hd H2 (e.trans e2), h1, h2, h3, h4, q H2 e2⟩
theorem ok_S_repr (T : Tp K mg) (F : FD K d_S_repr) : ∃ fd, FnOkG P w K mg base C8.CX0 1 (He.fAd K d_S_repr.at_) fd ["self"] (spRepr K) ∧ Binds K fd ["self"] [] := by
  obtain ⟨fd, F⟩ := F
  refine ⟨fd, fn_kG F sc_S_repr (fun vs H Q E h => ?_) (fun cdv A outer s H vs Q E hr hg h => ?_), F.bindsN fun _ _ _ _ _ _ us hl => match us, hl with | [_], _ => rfl⟩
  · obtain ⟨R, ⟨S, d, rfl, _⟩, _⟩ := h
    rfl
  · obtain ⟨R, ⟨S, d, rfl, ⟨k, p, m, dx, ma, pa, hS⟩, ⟨hd, hgp, hl⟩, rfl⟩, q⟩ := h
    refine ⟨_, (pss_one (ps_ret (pe_joined (.cons pe_str (.cons (pe_fmtD hg hr (k_fld (K := K) rfl (pv 0) rfl)) (.cons pe_str (.cons (pe_fmtD hg hr (k_fld (K := K) rfl (pv 0) rfl)) (.cons pe_str .nil)))))))), ?_⟩
    have l1 := shown_list hd.good
    have l2 := shown_pairs hgp
    have h8 := hd.len
    have hz : sizeLine = 16777216 := sizeLine_eq
    have e1 : (("Suits(" : String) : Str).length = 6 := rfl
    have e2 : ((", " : String) : Str).length = 2 := rfl
    have e3 : ((")" : String) : Str).length = 1 := rfl
    have e0 : Str.empty.length = 0 := rfl
    refine ⟨_, rfl, by rw [strLen_append]; omega, ?_⟩
    refine ev_fmtD (d := PySem.W.Datum.toD d.sk) (ev_fld (ev_var rfl) hS.ins T.cl T.n_its_kinds rfl) (fun H1 e => dp_list (SqL.of (e _ _ hS.kinds))) (showable_strs _) (noDict_strs _) (Nat.le_trans (PySem.W.Datum.depth_le d.sk) (by decide)) (by omega) H (Ex.refl H) _ fun H1 x1 => ⟨_, rfl, by rw [strLen_append, strLen_append]; omega, ?_⟩
    refine ⟨_, rfl, by rw [strLen_append, strLen_append, strLen_append]; omega, ?_⟩
    have hS1 := hS.ex x1
    refine ev_fmtD (d := PySem.W.Datum.toD d.sp) (ev_fld (ev_var rfl) hS1.ins T.cl T.n_its_pairs rfl) (fun H2 e => Dp.lst (SqL.of (e _ _ hS1.pairs)) (dp_pairs (Paired.mapP hS1.pair fun a b z => e _ _ z))) (showable_pairs _) (noDict_pairs _) (Nat.le_trans (PySem.W.Datum.depth_le d.sp) (by decide)) (by omega) H1 (Ex.refl H1) _ fun H2 x2 => ⟨_, rfl, by rw [strLen_append, strLen_append, strLen_append, strLen_append]; omega, ?_⟩
    exact ⟨_, rfl, by rw [strLen_append, strLen_append, strLen_append, strLen_append, strLen_append]; omega, q _ H2 (x1.trans x2) rfl⟩
end
end K64
set_option Elab.async false
set_option linter.all false
set_option maxRecDepth 100000
set_option maxHeartbeats 4000000
/-! _law_alike. -/
namespace K64
open PySem PySem.Spec PyProof.Rows L2 Evl
theorem call_repr {X : Cx} {k : Nat} (hg : X.A.guards = some []) (hr : Room k X.A) : CallR X (.builtin "repr") (rReprD X.K) := cr_reprD hg hr
section
variable {P : Program} {w : World} {K : PySem.W.Frag} {mg : Str → Option Value} {base : Heap}
structure ShowD (d : PyData) : Prop where
  sh : d.showable = true
  nd : d.hasDict = false
  dp : d.depth ≤ 60
  len : d.shown.length ≤ 16000000
  shp : SeqAt.shaped d = true
  eqv : PyData.eqv d d = true
def spAlike (K : PySem.W.Frag) : Sp := pur fun vs H R => ∃ a b d, vs = [.ref a, .ref b] ∧ Dp K H (.ref a) d ∧ Dp K H (.ref b) d ∧ ShowD d ∧ R = RV (.bl true)
theorem sc_L_alike : FnScope ["_law_found", "_law_due"] ["_law_found", "_law_due"] (defScope s_L_alike) := C8.fnScope_by (by decide +kernel)
theorem ev_reprD {σ : L2.St} {H : Hp} {te : TE} {a : Addr} {d : PyData} (h : Ev te σ H (.ref a)) (hd : ∀ H1, Ex H H1 → Dp K H1 (.ref a) d) (s : ShowD d) : Ev (tCB (rReprD K) (tCons te tNil)) σ H (.str d.shown) := fun H1 e Q q =>
  h H1 e _ fun H2 e2 => ⟨a, d, rfl, hd H2 (e.trans e2), s.sh, s.nd, s.dp, s.len, q H2 e2⟩
theorem ok_L_alike (T : Tp K mg) (F : FD K d_L_alike) : CalG P w K mg base 1 "_law_alike" (spAlike K) := by
  refine cal_kG F T.g_law_alike sc_L_alike (fun _ _ _ _ _ _ us hl => match us, hl with | [_, _], _ => rfl) (fun vs H Q E h => ?_) (fun cdv A outer s H vs Q E hr hg h => ?_)
  · obtain ⟨R, ⟨a, b, d, rfl, _⟩, _⟩ := h
    rfl
  · obtain ⟨R, ⟨a, b, d, rfl, ha, hb, sd, rfl⟩, q⟩ := h
    refine ⟨_, (pss_one (ps_ret (pe_and (pe_cmpR (k_eqD (K := K) rfl hr) (pv 0) (pv 1) (nomark _)) (pe_one (pe_cmpR op_eq (pe_callB (call_repr hg hr) (by rfl) T.f_repr boot_repr (pa_cons (pv 0) pa_nil)) (pe_callB (call_repr hg hr) (by rfl) T.f_repr boot_repr (pa_cons (pv 1) pa_nil)) (nomark _)))))), ?_⟩
    refine s_ret (v := .bl true) (ev_is (ev_andV (a := true) (b := true) (ev_op (ev_var rfl) (ev_var rfl) fun H1 e Q' q' => ⟨d, d, dp_ex e _ _ ha, dp_ex e _ _ hb, sd.shp, sd.shp, by rw [sd.eqv]; exact q' H1 (Ex.refl H1)⟩) fun _ => ev_is (ev_op (ev_reprD (ev_var rfl) (fun H1 e => dp_ex e _ _ ha) sd) (ev_reprD (ev_var rfl) (fun H1 e => dp_ex e _ _ hb) sd) (rv_eq rfl)) (by simp)) rfl) fun H1 e1 => q _ H1 e1 rfl
end
end K64
set_option Elab.async false
set_option linter.all false
set_option maxRecDepth 100000
set_option maxHeartbeats 4000000
/-! _law_spoil. -/
namespace K64
open PySem PySem.Spec PyProof.Rows L2 Evl
/-- the cells, in a row, with what they hold -/
def lensOf (ns : List Nd) : List (List Str) := ns.flatMap fun n => [n.1, n.2.1, n.2.2]
theorem flat3 {α β : Type} (f : α → List β) (hf : ∀ a, (f a).length = 3) : ∀ (l : List α) (i p : Nat) (a : α), l[i]? = some a → p < 3 → (l.flatMap f)[3 * i + p]? = (f a)[p]?
  | [], _, _, _, h, _ => by simp at h
  | x :: r, 0, p, a, h, hp => by
    rw [List.getElem?_cons_zero] at h
    cases h
    rw [List.flatMap_cons, Nat.mul_zero, Nat.zero_add, List.getElem?_append_left (by rw [hf]; exact hp)]
  | x :: r, i + 1, p, a, h, hp => by
    rw [List.getElem?_cons_succ] at h
    rw [List.flatMap_cons, List.getElem?_append_right (by rw [hf]; omega), hf, show 3 * (i + 1) + p - 3 = 3 * i + p by omega]
    exact flat3 f hf r i p a h hp
theorem cells_at {qs : List Qd} {i p : Nat} {q : Qd} (h : qs[i]? = some q) (hp : p < 3) : (cellsOf qs)[3 * i + p]? = [q.2.1, q.2.2.1, q.2.2.2][p]? := flat3 _ (fun _ => rfl) qs i p q h hp
theorem lens_at {ns : List Nd} {i p : Nat} {n : Nd} (h : ns[i]? = some n) (hp : p < 3) : (lensOf ns)[3 * i + p]? = [n.1, n.2.1, n.2.2][p]? := flat3 _ (fun _ => rfl) ns i p n h hp
theorem paired_idx {α β : Type} {F : α → β → Prop} : ∀ {as : List α} {bs : List β}, as.length = bs.length → (∀ (i : Nat) (a : α) (b : β), as[i]? = some a → bs[i]? = some b → F a b) → Paired F as bs
  | [], [], _, _ => .nil
  | [], _ :: _, h, _ => by simp at h
  | _ :: _, [], h, _ => by simp at h
  | a :: as, b :: bs, h, k => .cons (k 0 a b rfl rfl) (paired_idx (by simpa using h) fun i x y hx hy => k (i + 1) x y (by rw [List.getElem?_cons_succ]; exact hx) (by rw [List.getElem?_cons_succ]; exact hy))
theorem nd_get {α : Type} {l : List α} (h : l.Nodup) {i j : Nat} {a : α} (hi : l[i]? = some a) (hj : l[j]? = some a) : i = j := by
  obtain ⟨h1, e1⟩ := List.getElem?_eq_some_iff.mp hi
  obtain ⟨h2, e2⟩ := List.getElem?_eq_some_iff.mp hj
  exact nd_inj h h1 h2 (e1.trans e2.symm)
theorem cells_len : ∀ qs : List Qd, (cellsOf qs).length = 3 * qs.length
  | [] => rfl
  | q :: r => by
    have := cells_len r
    unfold cellsOf at *
    rw [List.flatMap_cons, List.length_append, this, List.length_cons]
    simp
    omega
/-- what spoil changes -/
abbrev Pcs (nl : Addr) (cs : List Addr) : Addr → Prop := fun b => b = nl ∨ b ∈ cs
abbrev NdQ (H : Hp) (q : Qd) (n : Nd) : Prop := NdA H q.1 q.2.1 q.2.2.1 q.2.2.2 n
theorem cell_in {H : Hp} {qs : List Qd} {ns : List Nd} (h : Paired (NdQ H) qs ns) {x : Addr} (hx : x ∈ cellsOf qs) : ∃ l : List Str, H x = some (.lst (svs l)) := by
  obtain ⟨q, hq, hx⟩ := List.mem_flatMap.mp hx
  obtain ⟨n, _, hn⟩ := paired_mem h hq
  have hx : x ∈ [q.2.1, q.2.2.1, q.2.2.2] := hx
  simp only [List.mem_cons, List.not_mem_nil, or_false] at hx
  rcases hx with rfl | rfl | rfl
  · exact ⟨_, hn.one⟩
  · exact ⟨_, hn.two⟩
  · exact ⟨_, hn.set⟩
def lx (m j : Nat) (l : List Str) : List Str := if j < m then l ++ [("x" : Str)] else l
structure SpJ (nl : Addr) (cs : List Addr) (ls : List (List Str)) (xs : List V) (H0 : Hp) (m : Nat) (H : Hp) : Prop where
  base : Ex (hideP (Pcs nl cs) H0) (hideP (Pcs nl cs) H)
  nl : H nl = some (.lst xs)
  cell : ∀ j c l, cs[j]? = some c → ls[j]? = some l → H c = some (.lst (svs (lx m j l)))
theorem SpJ.ex {nl : Addr} {cs : List Addr} {ls : List (List Str)} {xs : List V} {H0 : Hp} {m : Nat} {H H' : Hp} (h : SpJ nl cs ls xs H0 m H) (e : Ex H H') : SpJ nl cs ls xs H0 m H' := ⟨h.base.trans (hideP_mono e), e _ _ h.nl, fun j c l h1 h2 => e _ _ (h.cell j c l h1 h2)⟩
theorem SpJ.step {nl : Addr} {cs : List Addr} {ls : List (List Str)} {xs : List V} {H0 : Hp} {m : Nat} {H : Hp} {c : Addr} {l : List Str} (h : SpJ nl cs ls xs H0 m H) (hn : cs.Nodup) (hno : nl ∉ cs) (hc : cs[m]? = some c) (hl : ls[m]? = some l) : SpJ nl cs ls xs H0 (m + 1) (upd H c (.lst (svs (lx m m l) ++ [.str "x"]))) := by
  have hcm := List.mem_of_getElem? hc
  refine ⟨?_, ?_, fun j c' l' h1 h2 => ?_⟩
  · rw [hideP_upd (.inr hcm)]
    exact h.base
  · rw [upd_ne (fun e => hno (by rw [e]; exact hcm))]
    exact h.nl
  · by_cases ej : j = m
    · subst ej
      rw [hc] at h1
      rw [hl] at h2
      cases h1
      cases h2
      rw [upd_same]
      unfold lx
      rw [if_neg (by omega), if_pos (by omega)]
      show _ = some (HO.lst (List.map V.str (_ ++ _)))
      rw [List.map_append]
      rfl
    · have ne : c' ≠ c := fun e => by
        subst e
        exact ej (nd_get hn h1 hc)
      rw [upd_ne ne, h.cell j c' l' h1 h2]
      unfold lx
      by_cases hj : j < m
      · rw [if_pos hj, if_pos (by omega)]
      · rw [if_neg hj, if_neg (by omega)]
def lensG (g : Nat → Int) (n : Nd) : List Int := [g n.1.length, g n.2.1.length, g n.2.2.length]
abbrev FLi (a : Addr) (xs : List Int) (H : Hp) : Prop := H a = some (.lst (ivs xs))
def addX (n : Nd) : Nd := (n.1 ++ [("x" : Str)], n.2.1 ++ [("x" : Str)], n.2.2 ++ [("x" : Str)])
theorem lens_addX (n : Nd) : lensG (fun k => (k : Int) - 1) (addX n) = lensG (fun k => (k : Int)) n := by
  unfold lensG addX
  simp
section
variable {P : Program} {w : World} {K : PySem.W.Frag} {mg : Str → Option Value} {base : Heap}
theorem el_parts {σ : L2.St} {H : Hp} {ti te : TE} {t a b c : Addr} {n : Nd} {j : Nat} {vs : List Nat} (g : Nat → Int) (ht : Ev ti σ H (.ref t)) (hn : NdA H t a b c n) (hw : ∀ x, wipe ((wipe σ vs).set j (some x)) vs = wipe σ vs)
    (he : ∀ (p : Addr) (xs : List Str) H1, H1 p = some (.lst (svs xs)) → Ev te ((wipe σ vs).set j (some (.ref p))) H1 (.int (g xs.length))) : EvL (tLc (iTup K ti) (gName j) tYes te vs) σ H (ivs (lensG g n)) := by
  refine el_is (el_compN (α := Addr × List Str) (fun p => V.ref p.1) (ys := [(a, n.1), (b, n.2.1), (c, n.2.2)]) (ei_tup ht (st_of hn.tup)) rfl (by simp) (fun _ => true) (fun p => .int (g p.2.length)) hw (fun _ _ _ _ => et_yes) fun y hy _ H1 e1 => he _ _ _ ?_) rfl
  have hy : y = (a, n.1) ∨ y = (b, n.2.1) ∨ y = (c, n.2.2) := by simpa using hy
  rcases hy with rfl | rfl | rfl
  · exact e1 _ _ hn.one
  · exact e1 _ _ hn.two
  · exact e1 _ _ hn.set
theorem er_sizes {σ : L2.St} {H : Hp} {ti te : TE} {p : Addr} {ts : List Addr} {ns : List Nd} {i j : Nat} (g : Nat → Int) (hl : Ev ti σ H (.ref p)) (hp : H p = some (.lst (rvs ts))) (hn : Paired (NdAt H) ts ns) (hz : ns.length ≤ 1000)
    (hwi : ∀ x, wipe ((wipe σ [i]).set i (some x)) [i] = wipe σ [i]) (hwj : ∀ t x, wipe ((wipe ((wipe σ [i]).set i (some (.ref t))) [j]).set j (some x)) [j] = wipe ((wipe σ [i]).set i (some (.ref t))) [j]) (hi : ∀ t, ((wipe σ [i]).set i (some (.ref t)))[i]? = some (some (.ref t)))
    (he : ∀ t (p : Addr) (xs : List Str) H1, H1 p = some (.lst (svs xs)) → Ev te ((wipe ((wipe σ [i]).set i (some (.ref t))) [j]).set j (some (.ref p))) H1 (.int (g xs.length))) : EvR (tLc (iList K ti) (gName i) tYes (tLc (iTup K (tVar i)) (gName j) tYes te [j]) [i]) σ H (RObjs FLi (ns.map (lensG g))) := by
  have hlen := Paired.length hn
  have h := er_compPd (β := Nd) (G := fun a n H => NdAt H a n) (tt := tYes) (te := tLc (iTup K (tVar i)) (gName j) tYes te [j]) (vs := [i]) (j := i) (ei_list (K := K) hl (SqL.of hp)) hn (fun a b A B e h => h.ex e) (by omega) (fun _ => true) (fun n => RL (ivs (lensG g n))) (fun n v H => ∃ a, v = .ref a ∧ FLi a (lensG g n) H) (fun y v A B e ⟨a, h1, h2⟩ => ⟨a, h1, e _ _ h2⟩)
    (fun y v A B D hD eA hA eB ⟨a, h1, h2, h3⟩ => ⟨a, h1, (hideA_ne fun e => hA (by rw [← e]; exact h2)).trans h3⟩) hwi (fun a b H1 e h hb => et_yes) (fun a b H1 e ⟨x, y, z, hx⟩ hb _ => er_l (el_parts g (ev_var (hi a)) hx (hwj a) (he a)))
  rw [filt_tt] at h
  exact er_ofComp (lensG g) h
theorem dp_ivs : ∀ {H : Hp} (xs : List Int), DpAll K H (ivs xs) (xs.map PySem.W.Datum.toD)
  | _, [] => .nil
  | _, x :: xs => .cons (.int x) (dp_ivs xs)
theorem dp_ivss {H : Hp} : ∀ {ts : List Addr} {xs : List (List Int)}, Paired (fun a b => FLi a b H) ts xs → DpAll K H (rvs ts) (xs.map PySem.W.Datum.toD)
  | _, _, .nil => .nil
  | _, _, .cons r t => .cons (Dp.lst (SqL.of r) (dp_ivs _)) (dp_ivss t)
theorem canLay_intss : ∀ fs : List (List Int), PyData.canLayAll0 (fs.map PySem.W.Datum.toD) = true
  | [] => rfl
  | x :: r => by
    rw [List.map_cons, PyData.canLayAll0, canLay_intss r, Bool.and_true]
    show PyData.canLay0 (.list (x.map PySem.W.Datum.toD)) = true
    rw [PyData.canLay0]
    exact canLay_ints x
theorem shaped_intss (fs : List (List Int)) : SeqAt.shaped (PySem.W.Datum.toD fs) = true := by
  unfold SeqAt.shaped
  rw [Bool.and_eq_true]
  refine ⟨?_, decide_eq_true (Nat.le_trans (PySem.W.Datum.depth_le fs) (by decide))⟩
  show PyData.canLay0 (.list _) = true
  rw [PyData.canLay0]
  exact canLay_intss fs
def spSpoil : Sp := fun vs H Q _ => ∃ (nl : Addr) (xs : List V) (qs : List Qd) (ns : List Nd), vs = [.ref nl] ∧ H nl = some (.lst xs) ∧ xs.length ≤ 1000 ∧ ((∃ l : List Str, xs = svs l ∧ qs = []) ∨ xs = rvs (qs.map (·.1))) ∧ Paired (NdQ H) qs ns ∧ (cellsOf qs).Nodup ∧ nl ∉ cellsOf qs ∧ (∀ n ∈ ns, n.1.length ≤ 1000 ∧ n.2.1.length ≤ 1000 ∧ n.2.2.length ≤ 1000) ∧
  ∀ H', Ex (hideP (Pcs nl (cellsOf qs)) H) (hideP (Pcs nl (cellsOf qs)) H') → Q (.bl true) H'
theorem sc_L_spoil : FnScope ["_law_found", "_law_nodes", "_law_one", "_law_sizes", "_law_part", "_law_node"] ["_law_found"] (defScope s_L_spoil) := C8.fnScope_by (by decide +kernel)
theorem ok_L_spoil (T : Tp K mg) (F : FD K d_L_spoil) : C8.Cal P w K mg base 1 "_law_spoil" spSpoil [] := by
  refine cal_k F T.g_law_spoil sc_L_spoil (fun _ _ _ _ _ _ us hl => match us, hl with | [_], _ => rfl) (fun vs H Q E h => ?_) (fun cdv A outer s H vs Q E hr h => ?_)
  · obtain ⟨nl, xs, qs, ns, rfl, _⟩ := h
    rfl
  · obtain ⟨nl, xs, qs, ns, rfl, hl, hz, hx, hp, hnd, hno, hlen, q⟩ := h
    refine ⟨_, (pss_cons (ps_setLc (i := 1) (own := [("_law_one", 2)]) (g := (gName 2)) (by rfl) (sc_L_spoil).nd rfl rfl (sw_true rfl rfl rfl (by decide +kernel)) (k_piList (K := K) rfl (pv 0)) (blkOk_by (own := [("_law_one", 2)]) (N := ["_law_found", "_law_nodes", "_law_one", "_law_sizes", "_law_part", "_law_node"]) (sc := defScope s_L_spoil) (by decide +kernel)) (fun _ _ _ _ _ => (pg_name (i := 2) (sc_L_spoil).nd rfl (by first | exact .inl rfl | exact .inr rfl))) (fun _ _ _ _ _ => (pts_one (pt_val (pe_callB (k_isi (K := K) rfl) (by rfl) T.f_isinstance boot_isinstance (pa_cons (pv 2) (pa_cons (pe_bltn (by rfl) T.f_tuple (by decide +kernel) (v := .ty "tuple") rfl) pa_nil)))))) (fun _ _ _ _ _ => (pv 2)))
  (pss_cons (ps_setLc (i := 3) (own := [("_law_node", 5)]) (g := (gName 5)) (by rfl) (sc_L_spoil).nd rfl rfl (sw_true rfl rfl rfl (by decide +kernel)) (k_piList (K := K) rfl (pv 1)) (blkOk_by (own := [("_law_node", 5)]) (N := ["_law_found", "_law_nodes", "_law_one", "_law_sizes", "_law_part", "_law_node"]) (sc := defScope s_L_spoil) (by decide +kernel)) (fun _ _ _ _ _ => (pg_name (i := 5) (sc_L_spoil).nd rfl (by first | exact .inl rfl | exact .inr rfl))) (fun _ _ _ _ _ => pts_nil) (fun _ _ _ _ _ => (pe_lc (own := [("_law_part", 4)]) (g := (gName 4)) (by rfl) (sc_L_spoil).nd (k_piTup (K := K) rfl (pv 5)) (blkOk_by (own := [("_law_part", 4)]) (by kernel_rfl)) (fun _ _ _ _ _ => (pg_name (i := 4) (sc_L_spoil).nd rfl (by first | exact .inl rfl | exact .inr rfl))) (fun _ _ _ _ _ => pts_nil) (fun _ _ _ _ _ => (pe_callB (k_len (K := K) rfl) (by rfl) T.f_len PySem.boot_len (pa_cons (pv 4) pa_nil))))))
  (pss_cons (ps_for PassesOwn.never rfl (k_piList (K := K) rfl (pv 1)) (pg_name (i := 5) (sc_L_spoil).nd rfl (.inl rfl))
  (pss_one (ps_for PassesOwn.never rfl (k_piTup (K := K) rfl (pv 5)) (pg_name (i := 4) (sc_L_spoil).nd rfl (.inl rfl))
  (pss_one (ps_expr (k_bm (K := K) rfl PySem.F.plainAttrs_list PySem.F.slot_list_append PySem.F.type_list_append mt_append (pv 4) (pa_cons pe_str pa_nil)))))))
  (pss_cons (ps_expr (k_bm (K := K) rfl PySem.F.plainAttrs_list PySem.F.slot_list_append PySem.F.type_list_append mt_append (pv 0) (pa_cons pe_str pa_nil)))
  (pss_one (ps_ret (pe_cmpR (k_eqD (K := K) rfl hr) (pe_lc (own := [("_law_node", 5)]) (g := (gName 5)) (by rfl) (sc_L_spoil).nd (k_piList (K := K) rfl (pv 1)) (blkOk_by (own := [("_law_node", 5)]) (N := ["_law_found", "_law_nodes", "_law_one", "_law_sizes", "_law_part", "_law_node"]) (sc := defScope s_L_spoil) (by decide +kernel)) (fun _ _ _ _ _ => (pg_name (i := 5) (sc_L_spoil).nd rfl (by first | exact .inl rfl | exact .inr rfl))) (fun _ _ _ _ _ => pts_nil) (fun _ _ _ _ _ => (pe_lc (own := [("_law_part", 4)]) (g := (gName 4)) (by rfl) (sc_L_spoil).nd (k_piTup (K := K) rfl (pv 5)) (blkOk_by (own := [("_law_part", 4)]) (by kernel_rfl)) (fun _ _ _ _ _ => (pg_name (i := 4) (sc_L_spoil).nd rfl (by first | exact .inl rfl | exact .inr rfl))) (fun _ _ _ _ _ => pts_nil) (fun _ _ _ _ _ => (pe_op op_sub (pe_callB (k_len (K := K) rfl) (by rfl) T.f_len PySem.boot_len (pa_cons (pv 4) pa_nil)) pe_int))))) (pv 3) (nomark _)))))))), ?_⟩
    have hall : Paired (NdAt H) (qs.map (·.1)) ns := paired_mapL (Paired.mapP hp fun q n h => ⟨_, _, _, h⟩)
    have hln := Paired.length hp
    have hqz : qs.length ≤ 1000 := by
      rcases hx with ⟨l, rfl, rfl⟩ | rfl
      · simp
      · simpa using hz
    refine q_asgL (xs := rvs (qs.map (·.1))) ?_ fun p1 H1 n1 e1 h1 => ?_
    · rcases hx with ⟨l, rfl, rfl⟩ | rfl
      · exact el_is (el_compN (α := Str) V.str (ei_list (ev_var rfl) (SqL.of hl)) rfl (by rw [svs_len] at hz; omega) (fun _ => false) V.str (fun _ => rfl) (fun y hy H2 e2 => et_test (ev_isi (b := false) (ev_var rfl) (fun _ _ => .base (.str _)) (by decide +kernel))) (fun y hy h => nomatch h)) (by simp)
      · refine el_is (el_compN (α := Qd) (fun q => V.ref q.1) (ys := qs) (ei_list (ev_var rfl) (SqL.of hl)) (by simp) (by omega) (fun _ => true) (fun q => V.ref q.1) (fun _ => rfl) (fun y hy H2 e2 => ?_) (fun y hy _ H2 e2 => ev_var rfl)) (by rw [filt_tt]; simp)
        obtain ⟨n, _, hn⟩ := paired_mem hp hy
        exact et_test (ev_isi (b := true) (ev_var rfl) (fun H3 e3 => tyx_tup ((e2.trans e3) _ _ hn.tup)) (by decide +kernel))
    refine q_asgR (er_sizes (fun k => (k : Int)) (ev_var rfl) h1 (paired_nx hall e1) (by omega) (fun _ => rfl) (fun _ _ => rfl) (fun _ => rfl) fun t p xs H1 h => ev_len (ev_var rfl) (SqL.of h) |> fun z => ev_is z (by rw [svs_len])) fun v H2 e2 r => ?_
    obtain ⟨sz, zs, rfl, nsz, hsz, hzs⟩ := r
    have hPn : ∀ b, Pcs nl (cellsOf qs) b → ∃ ys, H b = some (.lst ys) ∧ (ys = xs ∨ ∃ l, ys = svs l) := by
      rintro b (rfl | hb)
      · exact ⟨_, hl, .inl rfl⟩
      · obtain ⟨l, h⟩ := cell_in hp hb
        exact ⟨_, h, .inr ⟨l, rfl⟩⟩
    have hth : ∀ b, Pcs nl (cellsOf qs) b → H b ≠ none := fun b hb => by
      obtain ⟨ys, h, _⟩ := hPn b hb
      rw [h]
      simp
    have e12 := e1.trans e2
    have hp1 : hideP (Pcs nl (cellsOf qs)) H2 p1 = some (.lst (rvs (qs.map (·.1)))) := hid_new hth n1 (e2 _ _ h1)
    have hsz2 : hideP (Pcs nl (cellsOf qs)) H2 sz = some (.lst (rvs zs)) := hid_new hth (fresh_back e1 nsz) hsz
    have hnoint : ∀ {b : Addr} {n : Nd}, FLi b (lensG (fun k => (k : Int)) n) H2 → ¬ Pcs nl (cellsOf qs) b := fun {b n} hb hP => by
      obtain ⟨ys, h, hy⟩ := hPn b hP
      have hb' := (e12 _ _ h).symm.trans hb
      have ey : ys = ivs (lensG (fun k => (k : Int)) n) := HO.lst.inj (Option.some.inj hb')
      have ns : ∀ l : List Str, svs l ≠ ivs (lensG (fun k => (k : Int)) n) := fun l e => by
        cases l with
        | nil => cases e
        | cons a r =>
          have := (List.cons.inj e).1
          cases this
      rcases hy with rfl | ⟨l, rfl⟩
      · rcases hx with ⟨l, rfl, _⟩ | rfl
        · exact ns l ey
        · cases qs with
          | nil => cases ey
          | cons a r =>
            have := (List.cons.inj ey).1
            cases this
      · exact ns l ey
    have hzs2 : Paired (fun a b => FLi a b (hideP (Pcs nl (cellsOf qs)) H2)) zs (ns.map (lensG fun k => (k : Int))) := by
      refine paired_idx (Paired.length hzs) fun i a b ha hb => ?_
      obtain ⟨b', h1, h2⟩ := paired_at hzs ha
      rw [hb] at h1
      cases h1
      obtain ⟨n, _, rfl⟩ := List.mem_map.mp (List.mem_of_getElem? hb)
      exact (hideP_ne (hnoint h2)).trans h2
    have htup : ∀ {q : Qd}, q ∈ qs → hideP (Pcs nl (cellsOf qs)) H2 q.1 = some (.tup [.ref q.2.1, .ref q.2.2.1, .ref q.2.2.2]) := fun {q} hq => by
      obtain ⟨n, _, hn⟩ := paired_mem hp hq
      refine (hideP_ne fun hP => ?_).trans (e12 _ _ hn.tup)
      obtain ⟨ys, h, _⟩ := hPn _ hP
      rw [hn.tup] at h
      cases h
    have J0 : SpJ nl (cellsOf qs) (lensOf ns) xs H2 0 H2 := by
      refine ⟨Ex.refl _, e12 _ _ hl, fun j c l h1 h2 => ?_⟩
      have hj := (List.getElem?_eq_some_iff.mp h1).1
      have hcl : (cellsOf qs).length = 3 * qs.length := by
        exact cells_len qs
      have hi : j / 3 < qs.length := by omega
      have hq := List.getElem?_eq_getElem hi
      obtain ⟨n, hn1, hn2⟩ := paired_at hp hq
      have hm : j % 3 < 3 := Nat.mod_lt _ (by decide)
      have ejm : j = 3 * (j / 3) + j % 3 := (Nat.div_add_mod j 3).symm
      rw [ejm, cells_at hq hm] at h1
      rw [ejm, lens_at hn1 hm] at h2
      have hm3 : j % 3 = 0 ∨ j % 3 = 1 ∨ j % 3 = 2 := by omega
      unfold lx
      rw [if_neg (Nat.not_lt_zero _)]
      rcases hm3 with e | e | e <;> rw [e] at h1 h2 <;> cases h1 <;> cases h2
      · exact e12 _ _ hn2.one
      · exact e12 _ _ hn2.two
      · exact e12 _ _ hn2.set
    refine q_forLn (xs := rvs (qs.map (·.1))) (ev_var rfl) (SqL.of (e2 _ _ h1)) (fun i σ' H' => ∃ y4 y5 : Option V, σ' = [some (.ref nl), some (.ref p1), none, some (.ref sz), y4, y5] ∧ SpJ nl (cellsOf qs) (lensOf ns) xs H2 (3 * i) H') (fun H3 e3 => ⟨_, _, rfl, J0.ex e3⟩) ?_ ?_ ?_
    · rintro i σ' H3 _ ⟨y4, y5, rfl, J⟩
      exact SqL.of (hideP_ex _ _ _ _ (J.base _ _ hp1))
    · rintro i x σ' H3 hxi ⟨y4, y5, rfl, J⟩
      have hi : i < qs.length := by
        have := (List.getElem?_eq_some_iff.mp hxi).1
        simpa using this
      have hq := List.getElem?_eq_getElem hi
      have hx' : x = .ref qs[i].1 := by
        rw [List.getElem?_map, List.getElem?_map, hq] at hxi
        exact (Option.some.inj hxi).symm
      subst hx'
      generalize qs[i] = qd at hq
      have hqm := List.mem_of_getElem? hq
      obtain ⟨n, hn1, hn2⟩ := paired_at hp hq
      have ht := htup hqm
      refine s_forT (xs := [.ref qd.2.1, .ref qd.2.2.1, .ref qd.2.2.2]) (ev_var rfl) (st_of (hideP_ex _ _ _ _ (J.base _ _ ht))) (fun p σ' H' => ∃ y4 : Option V, σ' = [some (.ref nl), some (.ref p1), none, some (.ref sz), y4, some (.ref qd.1)] ∧ SpJ nl (cellsOf qs) (lensOf ns) xs H2 (3 * i + p) H') (fun H4 e4 => ⟨_, rfl, J.ex e4⟩) ?_ ?_ ?_
      · rintro p σ' H4 _ ⟨y4, rfl, J⟩
        exact st_of (hideP_ex _ _ _ _ (J.base _ _ ht))
      · rintro p x σ' H4 hxp ⟨y4, rfl, J⟩
        have hp3 : p < 3 := (List.getElem?_eq_some_iff.mp hxp).1
        have hc := cells_at hq hp3
        have hll := lens_at hn1 hp3
        obtain ⟨c, l, hc', hl', ec, hlz⟩ : ∃ c l, [qd.2.1, qd.2.2.1, qd.2.2.2][p]? = some c ∧ [n.1, n.2.1, n.2.2][p]? = some l ∧ x = .ref c ∧ l.length ≤ 1000 := by
          have hz3 := hlen n (List.mem_of_getElem? hn1)
          have : p = 0 ∨ p = 1 ∨ p = 2 := by omega
          rcases this with rfl | rfl | rfl
          · exact ⟨_, _, rfl, rfl, (Option.some.inj hxp).symm, hz3.1⟩
          · exact ⟨_, _, rfl, rfl, (Option.some.inj hxp).symm, hz3.2.1⟩
          · exact ⟨_, _, rfl, rfl, (Option.some.inj hxp).symm, hz3.2.2⟩
        subst ec
        rw [hc'] at hc
        rw [hl'] at hll
        have hcell := J.cell _ _ _ hc hll
        have hzl : (svs (lx (3 * i + p) (3 * i + p) l)).length < 100000 := by
          rw [svs_len]
          unfold lx
          rw [if_neg (Nat.lt_irrefl _)]
          omega
        change tDrop _ _ _ _
        refine s_app hcell (ev_var rfl) ev_c hzl fun H5 e5 => ⟨_, rfl, ?_⟩
        exact (J.ex e5).step hnd hno hc hll
      · rintro σ' H4 ⟨y4, rfl, J⟩
        exact ⟨_, _, rfl, J⟩
    · rintro σ' H3 ⟨y4, y5, rfl, J⟩
      rw [show (rvs (qs.map (·.1))).length = qs.length by simp] at J
      refine q_app (xs := xs) J.nl (ev_var rfl) ev_c (by omega) fun H4 e4 => ?_
      have J4 := J.ex e4
      have hnodes : Paired (NdAt (upd H4 nl (.lst (xs ++ [.str "x"])))) (qs.map (·.1)) (ns.map addX) := by
        refine paired_idx (by simpa using hln) fun i t n' h1 h2 => ?_
        rw [List.getElem?_map] at h1 h2
        cases hq : qs[i]? with
        | none =>
          rw [hq] at h1
          cases h1
        | some qd =>
          rw [hq] at h1
          cases h1
          obtain ⟨n, hn1, hn2⟩ := paired_at hp hq
          rw [hn1] at h2
          cases h2
          have hi := (List.getElem?_eq_some_iff.mp hq).1
          have get : ∀ {p : Nat} {c : Addr} {l : List Str}, p < 3 → [qd.2.1, qd.2.2.1, qd.2.2.2][p]? = some c → [n.1, n.2.1, n.2.2][p]? = some l → upd H4 nl (.lst (xs ++ [.str "x"])) c = some (.lst (svs (l ++ [("x" : Str)]))) := fun {p c l} hp3 h1 h2 => by
            have hc := (cells_at hq hp3).trans h1
            have hll := (lens_at hn1 hp3).trans h2
            rw [upd_ne (fun e => hno (by rw [← e]; exact List.mem_of_getElem? hc)), J4.cell _ _ _ hc hll]
            unfold lx
            rw [if_pos (by omega)]
          refine ⟨qd.2.1, qd.2.2.1, qd.2.2.2, ?_, get (p := 0) (by decide) rfl rfl, get (p := 1) (by decide) rfl rfl, get (p := 2) (by decide) rfl rfl⟩
          have := J4.base _ _ (htup (List.mem_of_getElem? hq))
          rw [← hideP_upd (o := .lst (xs ++ [.str "x"])) (show Pcs nl (cellsOf qs) nl from .inl rfl)] at this
          exact hideP_ex _ _ _ _ this
      have b5 : Ex (hideP (Pcs nl (cellsOf qs)) H2) (hideP (Pcs nl (cellsOf qs)) (upd H4 nl (.lst (xs ++ [.str "x"])))) := by
        rw [hideP_upd (show Pcs nl (cellsOf qs) nl from .inl rfl)]
        exact J4.base
      generalize upd H4 nl (.lst (xs ++ [.str "x"])) = H5 at hnodes b5
      have hp5 := hideP_ex _ _ _ _ (b5 _ _ hp1)
      have hs5 := hideP_ex _ _ _ _ (b5 _ _ hsz2)
      have hz5 : Paired (fun a b => FLi a b H5) zs (ns.map (lensG fun k => (k : Int))) := Paired.mapP hzs2 fun a b h => hideP_ex _ _ _ _ (b5 _ _ h)
      refine s_retR (R := RV (.bl true)) (er_op (er_sizes (fun k => (k : Int) - 1) (ev_var rfl) hp5 hnodes (by rw [List.length_map]; omega) (fun _ => rfl) (fun _ _ => rfl) (fun _ => rfl) fun t p xs H1 h => ev_op (ev_is (ev_len (ev_var rfl) (SqL.of h)) (by rw [svs_len])) ev_c rv_I0) (er_v (ev_var rfl)) ?_) fun v H6 e6 r => ?_
      · rintro x y Ha Hb Hc ea eb ec ⟨l, ls, rfl, hl1, hl2, hl3⟩ ey Q' q'
        have ey : y = .ref sz := ey
        subst ey
        have e3 : (ns.map addX).map (lensG fun k => (k : Int) - 1) = ns.map (lensG fun k => (k : Int)) := by
          rw [List.map_map]
          exact List.map_congr_left fun n _ => lens_addX n
        rw [e3] at hl3
        have eac := (ea.trans eb).trans ec
        refine ⟨PySem.W.Datum.toD (ns.map (lensG fun k => (k : Int))), PySem.W.Datum.toD (ns.map (lensG fun k => (k : Int))), Dp.lst (SqL.of (ec _ _ hl2)) (dp_ivss (Paired.mapP hl3 fun a b h => ec _ _ h)), Dp.lst (SqL.of (eac _ _ hs5)) (dp_ivss (Paired.mapP hz5 fun a b h => eac _ _ h)), shaped_intss _, shaped_intss _, ?_⟩
        rw [PySem.W.Datum.eqv, decide_eq_true rfl]
        exact q' _ Hc (Ex.refl Hc) rfl
      · have r : v = .bl true := r
        subst r
        exact q H6 (((hideP_mono e12).trans b5).trans (hideP_mono e6))
end
end K64
set_option Elab.async false
set_option linter.all false
set_option maxRecDepth 100000
set_option maxHeartbeats 4000000
/-! _law_stays. -/
namespace K64
open PySem PySem.Spec PyProof.Rows L2 Evl PySem.Builtin PySem.Builtin.Str
/-! ### what is shown is a text -/
theorem okS_app {a b : Str} (ha : okS a) (hb : okS b) : okS (a ++ b) := fun c hc => by
  have e : (a ++ b).cps.toList = a.cps.toList ++ b.cps.toList := Array.toList_append
  rw [e] at hc
  exact (List.mem_append.mp hc).elim (ha c) (hb c)
theorem letter_small (q c : Nat) (hq : q = 34 ∨ q = 39) (h1 : 97 ≤ c) (h2 : c ≤ 122) : ∀ x ∈ reprChar q c, x < 0x110000 := by
  have : ∀ k : Fin 26, (∀ x ∈ reprChar 34 (97 + k.val), x < 0x110000) ∧ (∀ x ∈ reprChar 39 (97 + k.val), x < 0x110000) := by decide +kernel
  have h := this ⟨c - 97, by omega⟩
  have e : 97 + (c - 97) = c := by omega
  simp only [e] at h
  rcases hq with rfl | rfl
  · exact h.1
  · exact h.2
theorem fold_small (q : Nat) : ∀ (l : List Nat) (acc : Array Nat), (∀ c ∈ l, ∀ x ∈ reprChar q c, x < 0x110000) → (∀ x ∈ acc.toList, x < 0x110000) → ∀ x ∈ (l.foldl (fun out c => out ++ (reprChar q c).toArray) acc).toList, x < 0x110000
  | [], acc, _, h => h
  | c :: r, acc, h, ha => by
    rw [List.foldl_cons]
    refine fold_small q r _ (fun x hx => h x (List.mem_cons_of_mem _ hx)) fun x hx => ?_
    rw [Array.toList_append] at hx
    rcases List.mem_append.mp hx with hx | hx
    · exact ha x hx
    · exact h c List.mem_cons_self x hx
theorem okS_reprText {z : Str} (h : GoodK z) : okS (reprText z) := fun c hc => by
  have hq : reprQuote z < 0x110000 := by
    rcases quote_or z with e | e <;> rw [e] <;> decide
  have hf := fold_small (reprQuote z) z.cps.toList #[reprQuote z] (fun c hc => letter_small _ _ (quote_or z) (h.2.2 c hc).1 (h.2.2 c hc).2) fun x hx => by
    have : x = reprQuote z := by simpa using hx
    rw [this]
    exact hq
  unfold reprText at hc
  rw [← Array.foldl_toList] at hc
  have hc : c ∈ (z.cps.toList.foldl (fun out c => out ++ (reprChar (reprQuote z) c).toArray) #[reprQuote z]).toList ++ [reprQuote z] := by
    rw [← Array.toList_push]
    exact hc
  rcases List.mem_append.mp hc with hc | hc
  · exact hf c hc
  · have : c = reprQuote z := by simpa using hc
    rw [this]
    exact hq
theorem okS_of {z : Str} (h : (z.cps.toList.all fun c => decide (c < 0x110000)) = true) : okS z := fun c hc => of_decide_eq_true (List.all_eq_true.mp h c hc)
theorem okS_sep {k : Nat} : okS (if k > 0 then ", " else "" : String) := by
  split
  · exact okS_of (by decide +kernel)
  · exact okS_of (by decide +kernel)
theorem okS_textFrom : ∀ (ts : List Str) (k : Nat) (acc : Str), okS acc → (∀ t ∈ ts, okS t) → okS (textFrom k acc ts)
  | [], _, _, h, _ => h
  | t :: r, k, acc, h, ht => okS_textFrom r (k + 1) _ (okS_app (okS_app h okS_sep) (ht t List.mem_cons_self)) fun x hx => ht x (List.mem_cons_of_mem _ hx)
theorem okS_listText {ts : List Str} (h : ∀ t ∈ ts, okS t) : okS (listText ts) := okS_app (okS_textFrom ts 0 _ (okS_of (by decide +kernel)) h) (okS_of (by decide +kernel))
theorem okS_join : ∀ ts : List Str, (∀ t ∈ ts, okS t) → okS (Str.join ", " ts)
  | [], _ => okS_of (by decide +kernel)
  | [t], h => h t List.mem_cons_self
  | t :: y :: r, h => okS_app (okS_app (h t List.mem_cons_self) (okS_of (by decide +kernel))) (okS_join (y :: r) fun x hx => h x (List.mem_cons_of_mem _ hx))
theorem okS_tupleText {ts : List Str} (h : ∀ t ∈ ts, okS t) : okS (tupleText ts) := by
  refine okS_app (okS_app (okS_of (by decide +kernel)) (okS_join ts h)) ?_
  split
  · exact okS_of (by decide +kernel)
  · exact okS_of (by decide +kernel)
theorem okS_shown_list {xs : List Str} (h : ∀ x ∈ xs, GoodK x) : okS (PyData.shown (PySem.W.Datum.toD xs)) := by
  show okS (PyData.shown (.list (xs.map PySem.W.Datum.toD)))
  rw [PyData.shown, shownAll_map, List.map_map]
  refine okS_listText fun t ht => ?_
  obtain ⟨x, hx, rfl⟩ := List.mem_map.mp ht
  exact okS_reprText (h x hx)
theorem okS_shown_pairs {ps : List (Str × Str)} (h : ∀ p ∈ ps, GoodK p.1 ∧ GoodK p.2) : okS (PyData.shown (PySem.W.Datum.toD ps)) := by
  show okS (PyData.shown (.list (ps.map PySem.W.Datum.toD)))
  rw [PyData.shown, shownAll_map, List.map_map]
  refine okS_listText fun t ht => ?_
  obtain ⟨p, hp, rfl⟩ := List.mem_map.mp ht
  show okS (PyData.shown (.tuple [.str p.1, .str p.2]))
  rw [PyData.shown, shownAll_map]
  refine okS_tupleText (ts := [reprText p.1, reprText p.2]) fun t ht => ?_
  have ht : t = reprText p.1 ∨ t = reprText p.2 := by simpa using ht
  rcases ht with rfl | rfl
  · exact okS_reprText (h p hp).1
  · exact okS_reprText (h p hp).2
theorem okS_reprSu {d : Kd} (h : KdSh d) : okS (reprSu d) := by
  obtain ⟨hd, hp, _⟩ := h
  exact okS_app (okS_app (okS_app (okS_app (okS_app (okS_of (by decide +kernel)) (okS_of (by decide +kernel))) (okS_shown_list hd.good)) (okS_of (by decide +kernel))) (okS_shown_pairs hp)) (okS_of (by decide +kernel))
theorem strOk_of {x : Str} (h : okS x) : PyData.strOk x = true := by
  unfold PyData.strOk
  rw [← Array.all_toList, List.all_eq_true]
  intro c hc
  exact decide_eq_true (h c hc)
/-! ### what a relation tells of itself -/
def toldD (d : Kd) : PyData := .list [.str (reprSu d), PySem.W.Datum.toD (lonelyR d), PySem.W.Datum.toD (calmR d), PySem.W.Datum.toD d.sk, PySem.W.Datum.toD d.sp]
theorem canLay_strss : ∀ xs : List (List Str), (∀ x ∈ xs, ∀ y ∈ x, okS y) → PyData.canLayAll0 (xs.map PySem.W.Datum.toD) = true
  | [], _ => rfl
  | x :: r, h => by
    rw [List.map_cons, PyData.canLayAll0, canLay_strss r fun y hy => h y (List.mem_cons_of_mem _ hy), Bool.and_true]
    exact (Bool.and_eq_true_iff.mp (shaped_strs (h x List.mem_cons_self))).1
theorem calm_in {d : Kd} : ∀ s ∈ calmR d, ∀ x ∈ s, x ∈ d.sk := fun s hs => by
  have hs := (List.mem_filter.mp ((List.mergeSort_perm _ _).mem_iff.mp hs)).1
  exact (calmAll_in (sk := d.sk) d.sk [[]] 0 (fun _ h => h) (fun s h => by
    have e : s = [] := by simpa using h
    rw [e]
    exact ⟨Nat.le_refl _, fun x hx => nomatch hx⟩) s hs).2
theorem told_shaped {d : Kd} (h : KdSh d) : SeqAt.shaped (toldD d) = true := by
  have hr := okS_reprSu h
  obtain ⟨hd, hp, _⟩ := h
  have ok : ∀ x ∈ d.sk, okS x := fun x hx => (hd.good x hx).ok
  have l1 := (Bool.and_eq_true_iff.mp (shaped_strs (xs := lonelyR d) fun x hx => ok x (List.mem_filter.mp hx).1)).1
  have l2 : PyData.canLay0 (PySem.W.Datum.toD (calmR d)) = true := by
    show PyData.canLay0 (.list ((calmR d).map PySem.W.Datum.toD)) = true
    rw [PyData.canLay0]
    exact canLay_strss _ fun s hs x hx => ok x (calm_in s hs x hx)
  have l3 := (Bool.and_eq_true_iff.mp (shaped_strs ok)).1
  have l4 := (Bool.and_eq_true_iff.mp (shaped_pairs (ps := d.sp) fun p hx => ⟨(hp p hx).1.ok, (hp p hx).2.ok⟩)).1
  have d1 := PySem.W.Datum.depth_le (lonelyR d)
  have d2 := PySem.W.Datum.depth_le (calmR d)
  have d3 := PySem.W.Datum.depth_le d.sk
  have d4 := PySem.W.Datum.depth_le d.sp
  have e1 : PySem.W.Datum.depth (List Str) ≤ 10 := by decide
  have e2 : PySem.W.Datum.depth (List (List Str)) ≤ 10 := by decide
  have e4 : PySem.W.Datum.depth (List (Str × Str)) ≤ 10 := by decide
  unfold SeqAt.shaped toldD
  rw [Bool.and_eq_true]
  refine ⟨?_, decide_eq_true ?_⟩
  · rw [PyData.canLay0, PyData.canLayAll0, PyData.canLayAll0, PyData.canLayAll0, PyData.canLayAll0, PyData.canLayAll0, PyData.canLayAll0, PyData.canLay0, strOk_of hr, l1, l2, l3, l4]
    rfl
  · rw [PyData.depth, PyData.depthAll, PyData.depthAll, PyData.depthAll, PyData.depthAll, PyData.depthAll, PyData.depthAll, PyData.depth]
    omega
theorem told_eqv (d : Kd) : PyData.eqv (toldD d) (toldD d) = true := by
  unfold toldD
  rw [PyData.eqv, PySem.W.eqv_all_cons, PySem.W.eqv_all_cons, PySem.W.eqv_all_cons, PySem.W.eqv_all_cons, PySem.W.eqv_all_cons, show PyData.eqv (.str (reprSu d)) (.str (reprSu d)) = true from (PySem.W.Datum.eqv (reprSu d) (reprSu d)).trans (decide_eq_true rfl), PySem.W.Datum.eqv, PySem.W.Datum.eqv, PySem.W.Datum.eqv, PySem.W.Datum.eqv, decide_eq_true rfl, decide_eq_true rfl, decide_eq_true rfl, decide_eq_true rfl]
  simp [PyData.eqvAll]
theorem er_lstA {σ : L2.St} {H : Hp} {ta : TA} {S : List V → Hp → Hp → Prop} (h : EvAR ta σ H S) (hl : ∀ vs H1 H2, S vs H1 H2 → vs.length ≤ 100000) : EvR (tLst ta) σ H (fun v H1 H3 => ∃ p vs H2, v = .ref p ∧ Ex H1 H2 ∧ Ex H2 H3 ∧ S vs H1 H2 ∧ H2 p = none ∧ H3 p = some (.lst vs)) := fun H1 e Q k =>
  h H1 e _ fun vs H2 e2 s => ⟨sz_of (hl _ _ _ s), fun p hp => k (.ref p) _ (e2.trans (Ex.new hp)) ⟨p, vs, H2, rfl, e2, Ex.new hp, s, hp, upd_same⟩⟩
section
variable {P : Program} {w : World} {K : PySem.W.Frag} {mg : Str → Option Value} {base : Heap}
def rReprSu (K : PySem.W.Frag) (E : XK) : List V → Hp → VK → Prop := fun vs H Q => ∃ a dx fs, vs = [.ref a] ∧ H a = some (.ins (He.ga K "Suits") dx fs) ∧ spRepr K [.ref a] H (fun v H' => ∃ z, v = .str z ∧ Q v H') E
theorem ev_reprSu {σ : L2.St} {H : Hp} {te : TE} {E : XK} {S : Addr} {d : Kd} (h : Ev te σ H (.ref S)) (hS : Su K H S d) (hd : KdSh d) : Ev (tCB (rReprSu K E) (tCons te tNil)) σ H (.str (reprSu d)) := fun H1 e Q q => h H1 e _ fun H2 e2 => by
  have hS2 := hS.ex (e.trans e2)
  obtain ⟨k, p, m, dx, ma, pa, hA⟩ := id hS2
  exact ⟨S, dx, _, rfl, hA.ins, _, ⟨S, d, rfl, hS2, hd, rfl⟩, fun v H3 e3 r => ⟨_, r, by
    have r : v = .str (reprSu d) := r
    subst r
    exact q H3 (e2.trans e3)⟩⟩
theorem bk_calm {d : Kd} : Bk (RCalm d) := fun v H1 H2 H3 e ⟨p, ps, h1, h2, h3, h4⟩ => ⟨p, ps, h1, fresh_back e h2, h3, Paired.mapP h4 fun a b z => ⟨fresh_back e z.1, z.2⟩⟩
theorem dp_strss {H : Hp} : ∀ {ts : List Addr} {xs : List (List Str)}, Paired (fun a b => H a = some (.lst (svs b))) ts xs → DpAll K H (rvs ts) (xs.map PySem.W.Datum.toD)
  | _, _, .nil => .nil
  | _, _, .cons r t => .cons (dp_list (SqL.of r)) (dp_strss t)
def spStays (K : PySem.W.Frag) : Sp := pur fun vs H R => ∃ D S q, vs = [.ref D, .ref S] ∧ PlAt H D q ∧ PlOk q ∧ Su K H S q.kd ∧ R = RV (.bl true)
theorem PlOk.sh {q : Pl} (h : PlOk q) : KdSh q.kd := by
  refine ⟨h.kd, fun p hp => ?_, ?_⟩
  · have hp := (List.mergeSort_perm _ _).mem_iff.mp hp
    obtain ⟨x, hx, rfl⟩ := List.mem_map.mp hp
    have h1 := h.good _ (h.pin x hx).1
    have h2 := h.good _ (h.pin x hx).2
    unfold ord2
    split
    · exact ⟨h1, h2⟩
    · exact ⟨h2, h1⟩
  · show (List.mergeSort _ _).length ≤ 36
    rw [List.length_mergeSort, List.length_map]
    exact h.plen
theorem sc_L_stays : FnScope ["_law_plan_here", "_law_suits_here", "_law_other", "_law_told_here", "_law_one"] ["_law_plan_here", "_law_suits_here"] (defScope s_L_stays) := C8.fnScope_by (by decide +kernel)
theorem ok_L_stays {fR : FuncData} (T : Tp K mg) (F : FD K d_L_stays) (FR : FnOkG P w K mg base C8.CX0 1 (He.fAd K d_S_repr.at_) fR ["self"] (spRepr K)) (bR : Binds K fR ["self"] []) (c_L_suits : C8.Cal P w K mg base 5 "_law_suits" (spLSuits K) []) (c_S_lonely : C8.Met P w K mg base 1 (He.ga K "Suits") "lonely" (spLonely K) []) (c_S_calm_sets : C8.Met P w K mg base 3 (He.ga K "Suits") "calm_sets" (spCalmSets K) [])
    (c_S_kinds : C8.Met P w K mg base 1 (He.ga K "Suits") "kinds" (spKinds K) []) (c_S_pairs : C8.Met P w K mg base 1 (He.ga K "Suits") "pairs" (spPairs K) []) : CalG P w K mg base 6 "_law_stays" (spStays K) := by
  refine cal_kG F T.g_law_stays sc_L_stays (fun _ _ _ _ _ _ us hl => match us, hl with | [_, _], _ => rfl) (fun vs H Q E h => ?_) (fun cdv A outer s H vs Q E hr hg h => ?_)
  · obtain ⟨R, ⟨D, S, pl, rfl, _⟩, _⟩ := h
    rfl
  · obtain ⟨R, ⟨D, S, pl, rfl, hP, hO, hS, rfl⟩, q⟩ := h
    refine ⟨_, (pss_cons (ps_set (i := 2) (sc_L_stays).nd rfl (.inl rfl) (C8.pe_c c_L_suits hr (by decide) (by rfl) (pa_cons (pv 0) pa_nil)))
  (pss_cons (ps_setLc (i := 3) (own := [("_law_one", 4)]) (g := (gName 4)) (by rfl) (sc_L_stays).nd rfl rfl (sw_true rfl rfl rfl (by decide +kernel)) (k_piTup (K := K) rfl (pe_tup (pa_cons (pv 1) (pa_cons (pv 2) pa_nil)))) (blkOk_by (own := [("_law_one", 4)]) (N := ["_law_plan_here", "_law_suits_here", "_law_other", "_law_told_here", "_law_one"]) (sc := defScope s_L_stays) (by decide +kernel)) (fun _ _ _ _ _ => (pg_name (i := 4) (sc_L_stays).nd rfl (by first | exact .inl rfl | exact .inr rfl))) (fun _ _ _ _ _ => pts_nil) (fun _ _ _ _ _ => (pe_lst (pa_cons (pe_callB (cr_reprI (E := C8.E0) hg (hr.mono (by decide)) T.m_repr FR bR C8.pass0) (by rfl) T.f_repr boot_repr (pa_cons (pv 4) pa_nil)) (pa_cons (C8.pe_mt0 c_S_lonely hr (by decide) (pv 4)) (pa_cons (C8.pe_mt0 c_S_calm_sets hr (by decide) (pv 4)) (pa_cons (C8.pe_mt0 c_S_kinds hr (by decide) (pv 4)) (pa_cons (C8.pe_mt0 c_S_pairs hr (by decide) (pv 4)) pa_nil))))))))
  (pss_one (ps_ret (pe_cmpR (k_eqD (K := K) rfl hr) (pe_ix (k_ixL (K := K) rfl) (pv 3) pe_int (fun _ _ => rfl)) (pe_ix (k_ixL (K := K) rfl) (pv 3) pe_int (fun _ _ => rfl)) (nomark _)))))), ?_⟩
    have hd := hO.kd
    have hsh := hO.sh
    refine q_asgR (er_callA (R := RSu K pl) (ea_cons (ev_var rfl) ea_nil) (fun H1 e => ⟨D, pl, rfl, hP.ex e, hO, rfl⟩) bk_su) fun v H1 e1 ⟨S2, ev, nS2, hS2⟩ => ?_
    subst ev
    have hS1 := hS.ex e1
    refine q_asgR (er_compN (α := Addr) V.ref (ys := [S, S2]) (ei_tupN (eu_tup (ea_cons (ev_var rfl) (ea_cons (ev_var rfl) ea_nil)) (by simp))) rfl (by simp) (fun _ => true) (fun _ v A B => ∃ p r l c k pr, v = .ref p ∧ A p = none ∧ B p = some (.lst [.str r, .ref l, .ref c, .ref k, .ref pr]) ∧ r = reprSu pl.kd ∧ RL (svs (lonelyR pl.kd)) (.ref l) A B ∧ RCalm pl.kd (.ref c) A B ∧ RL (svs pl.kd.sk) (.ref k) A B ∧ ∃ pa, RL (rvs pa) (.ref pr) A B ∧ Paired (PairAt H1) pa pl.kd.sp) (fun _ v H => ∃ p, v = .ref p ∧ Dp K H (.ref p) (toldD pl.kd))
      (fun y v A B e ⟨p, h1, h2⟩ => ⟨p, h1, dp_ex e _ _ h2⟩) ?_ (fun _ => rfl) (fun _ _ _ _ => et_yes) fun y hy _ H2 e2 => ?_) fun v H2 e2 r => ?_
    · rintro y v A B Da hD eA hA eB ⟨p, r, l, c, k, pr, rfl, n1, h1, rfl, ⟨l', el, l1, l2⟩, ⟨c', cs, ec, c1, c2, c3⟩, ⟨k', ek, k1, k2⟩, pa, ⟨pr', ep, p1, p2⟩, hpa⟩
      cases el
      cases ec
      cases ek
      cases ep
      have nd : ∀ {a : Addr} {o : HO}, A a = none → B a = some o → hideA Da B a = some o := fun {a o} h1 h2 => (hideA_ne fun e => hA (by rw [← e]; exact h1)).trans h2
      refine ⟨p, rfl, Dp.lst (SqL.of (nd n1 h1)) (.cons (.str _) (.cons (dp_list (SqL.of (nd l1 l2))) (.cons (Dp.lst (SqL.of (nd c1 c2)) (dp_strss (Paired.mapP c3 fun a b z => nd z.1 z.2))) (.cons (dp_list (SqL.of (nd k1 k2))) (.cons (Dp.lst (SqL.of (nd p1 p2)) (dp_pairs (Paired.mapP hpa fun a b z => ?_))) .nil)))))⟩
      exact (hideA_ne (ne_of_none z hD)).trans (eB _ _ (eA _ _ z))
    · have hSy : Su K H1 y pl.kd := by
        have : y = S ∨ y = S2 := by simpa using hy
        rcases this with rfl | rfl
        · exact hS1
        · exact hS2
      have hy2 := hSy.ex e2
      obtain ⟨ka, pr, ma, dxx, maa, pa, hA⟩ := id hSy
      have hv : ∀ {σ' : L2.St} {Hx : Hp}, σ'[4]? = some (some (.ref y)) → Ev (tVar 4) σ' Hx (.ref y) := fun h => ev_var h
      refine EvR.imp (er_lstA (ear_cons (er_v (ev_reprSu (ev_var rfl) hy2 hsh)) (ear_cons (er_methA' (vs := []) (R := RL (svs (lonelyR pl.kd))) (ev_var rfl) hy2 (by decide) (by decide) (by decide) ea_nil (fun H3 e3 => ⟨y, pl.kd, rfl, hy2.ex e3, hd, rfl⟩) bk_l) (ear_cons (er_methA' (vs := []) (R := RCalm pl.kd) (ev_var rfl) hy2 (by decide) (by decide) (by decide) ea_nil (fun H3 e3 => ⟨y, pl.kd, rfl, hy2.ex e3, hd, rfl⟩) bk_calm) (ear_cons (er_methA' (vs := []) (R := RL (svs pl.kd.sk)) (ev_var rfl) hy2 (by decide) (by decide) (by decide) ea_nil (fun H3 e3 => ⟨y, pl.kd, rfl, hy2.ex e3, rfl⟩) bk_l) (ear_cons (er_methA' (vs := []) (R := RL (rvs pa)) (ev_var rfl) hy2 (by decide) (by decide) (by decide) ea_nil (fun H3 e3 => ⟨y, pl.kd, _, _, _, _, _, _, rfl, hA.ex (e2.trans e3), rfl⟩) bk_l) ear_nil))))) ?_) ?_
      · rintro vs Ha Hb ⟨v1, r1, H1', rfl, _, _, _, v2, r2, H2', rfl, _, _, _, v3, r3, H3', rfl, _, _, _, v4, r4, H4', rfl, _, _, _, v5, r5, H5', rfl, _, _, _, rfl⟩
        simp
      · rintro v Ha Hb _ _ ⟨p, vs, Hc, rfl, eac, ecb, ⟨v1, r1, H1', rfl, e1a, e1b, rfl, v2, r2, H2', rfl, e2a, e2b, ⟨l, rfl, l1, l2⟩, v3, r3, H3', rfl, e3a, e3b, ⟨c, cs, rfl, c1, c2, c3⟩, v4, r4, H4', rfl, e4a, e4b, ⟨k, rfl, k1, k2⟩, v5, r5, H5', rfl, e5a, e5b, ⟨pp, rfl, p1, p2⟩, rfl⟩, np, hp⟩
        have x2 := e1a
        have x3 := x2.trans e2a
        have x4 := x3.trans e3a
        have x5 := x4.trans e4a
        refine ⟨p, _, l, c, k, pp, rfl, fresh_back eac np, hp, rfl, ⟨l, rfl, fresh_back x2 l1, ecb _ _ (e2b _ _ l2)⟩, ⟨c, cs, rfl, fresh_back x3 c1, ecb _ _ (e3b _ _ c2), Paired.mapP c3 fun a b z => ⟨fresh_back x3 z.1, ecb _ _ (e3b _ _ z.2)⟩⟩, ⟨k, rfl, fresh_back x4 k1, ecb _ _ (e4b _ _ k2)⟩, pa, ⟨pp, rfl, fresh_back x5 p1, ecb _ _ (e5b _ _ p2)⟩, hA.pair⟩
    · obtain ⟨t, vs, rfl, nt, ht, hvs⟩ := r
      rw [filt_tt] at hvs
      cases hvs with
      | cons r1 t1 =>
        cases t1 with
        | cons r2 t2 =>
          cases t2
          obtain ⟨a1, rfl, d1⟩ := r1
          obtain ⟨a2, rfl, d2⟩ := r2
          refine s_ret (v := .bl true) (ev_op (ev_ixL (i := 0) (ev_var rfl) ev_c (SqL.of ht) rfl) (ev_ixL (i := 1) (ev_var rfl) ev_c (SqL.of ht) rfl) fun H3 e3 Q' q' => ⟨toldD pl.kd, toldD pl.kd, dp_ex e3 _ _ d1, dp_ex e3 _ _ d2, told_shaped hsh, told_shaped hsh, by rw [told_eqv]; exact q' H3 (Ex.refl H3)⟩) fun H3 e3 => q _ H3 ((e1.trans e2).trans e3) rfl
end
end K64
set_option Elab.async false
set_option linter.all false
set_option maxRecDepth 100000
set_option maxHeartbeats 4000000
/-! What the search gives: tables, lines; as data. -/
namespace K64
open PySem PySem.Spec PyProof.Rows L2 Evl PySem.Builtin PySem.Builtin.Str
section
variable {ν γ κ : Type} [DecidableEq ν] [DecidableEq γ] {gap : ν → Option γ} {leads : ν → γ → List (κ × ν × γ)} {limit : Nat}
def LsOk (P : κ → Prop) (ls : List (List κ)) : Prop := ∀ (i : Nat) (l : List κ), ls[i]? = some l → l.length ≤ i ∧ ∀ x ∈ l, P x
theorem LsOk.snoc {P : κ → Prop} {ls : List (List κ)} {l : List κ} (h : LsOk P ls) (h1 : l.length ≤ ls.length) (h2 : ∀ x ∈ l, P x) : LsOk P (ls ++ [l]) := fun i l' hi => by
  by_cases hlt : i < ls.length
  · rw [List.getElem?_append_left hlt] at hi
    exact h i l' hi
  · have hs := (List.getElem?_eq_some_iff.mp hi).1
    rw [List.length_append, List.length_singleton] at hs
    have ei : i = ls.length := by omega
    subst ei
    rw [List.getElem?_append_right (Nat.le_refl _), Nat.sub_self] at hi
    have hi : l = l' := by simpa using hi
    subst hi
    exact ⟨h1, h2⟩
theorem inner_go {P : κ → Prop} {line : List κ} (hP : ∀ x ∈ line, P x) : ∀ {rs : List (κ × ν × γ)} {ns : List ν} {ls : List (List κ)} {ns' : List ν} {ls' : List (List κ)}, (∀ r ∈ rs, P r.1) → line.length < ls.length → LsOk P ls → inner gap limit line rs ns ls = .go ns' ls' → LsOk P ls'
  | [], ns, ls, ns', ls', _, _, hl, h => by
    unfold inner at h
    cases h
    exact hl
  | (k, later, due) :: r, ns, ls, ns', ls', hr, hll, hl, h => by
    unfold inner at h
    have hr' : ∀ r' ∈ r, P r'.1 := fun r' hx => hr r' (List.mem_cons_of_mem _ hx)
    split at h
    · split at h
      · exact inner_go hP hr' hll hl h
      · split at h
        · cases h
        · refine inner_go hP hr' (by rw [List.length_append]; omega) (hl.snoc (by rw [List.length_append, List.length_singleton]; omega) fun x hx => ?_) h
          rcases List.mem_append.mp hx with hx | hx
          · exact hP x hx
          · have e : x = k := by simpa using hx
            rw [e]
            exact hr _ List.mem_cons_self
    · cases h
theorem inner_apart {P : κ → Prop} {line l : List κ} (hP : ∀ x ∈ line, P x) : ∀ {rs : List (κ × ν × γ)} {ns : List ν} {ls : List (List κ)}, (∀ r ∈ rs, P r.1) → inner gap limit line rs ns ls = .apart l → l.length ≤ line.length + 1 ∧ ∀ x ∈ l, P x
  | [], ns, ls, _, h => by
    unfold inner at h
    cases h
  | (k, later, due) :: r, ns, ls, hr, h => by
    unfold inner at h
    have hr' : ∀ r' ∈ r, P r'.1 := fun r' hx => hr r' (List.mem_cons_of_mem _ hx)
    split at h
    · split at h
      · exact inner_apart hP hr' h
      · split at h
        · cases h
        · exact inner_apart hP hr' h
    · cases h
      refine ⟨by rw [List.length_append, List.length_singleton]; exact Nat.le_refl _, fun x hx => ?_⟩
      rcases List.mem_append.mp hx with hx | hx
      · exact hP x hx
      · have e : x = k := by simpa using hx
        rw [e]
        exact hr _ List.mem_cons_self
theorem outer_ends {P : κ → Prop} (hk : ∀ n g, gap n = some g → ∀ r ∈ leads n g, P r.1) : ∀ (f : Nat) (ns : List ν) (ls : List (List κ)) (at_ : Nat), ns.length = ls.length → ns.length ≤ limit → LsOk P ls →
    (∀ ns', outer gap leads limit f ns ls at_ = .alike ns' → ns'.length ≤ limit) ∧ ∀ l, outer gap leads limit f ns ls at_ = .apart l → l.length ≤ limit ∧ ∀ x ∈ l, P x
  | 0, ns, ls, at_, hl, hm, ho => ⟨fun ns' h => by
      unfold outer at h
      cases h
      exact hm, fun l h => by
      unfold outer at h
      cases h⟩
  | f + 1, ns, ls, at_, hl, hm, ho => by
    by_cases hat : at_ < ns.length
    · have e1 : ns[at_]? = some ns[at_] := List.getElem?_eq_getElem hat
      have e2 : ls[at_]? = some (ls[at_]'(by omega)) := List.getElem?_eq_getElem (by omega)
      generalize ns[at_] = n at e1
      generalize (ls[at_]'(by omega)) = line at e2
      obtain ⟨l1, l2⟩ := ho _ _ e2
      have l3 : line.length < ls.length := by have := (List.getElem?_eq_some_iff.mp e2).1; omega
      cases hg : gap n with
      | none =>
        refine ⟨fun ns' h => ?_, fun l h => ?_⟩ <;>
        · unfold outer at h
          simp only [e1, e2, turnAt, hg] at h
          cases h
      | some g =>
        have hr := hk n g hg
        rw [outer_go e1 e2 hg]
        cases hi : inner gap limit line (leads n g) ns ls with
        | go ns2 ls2 =>
          obtain ⟨k1, k2⟩ := inner_len hi hm hl
          exact outer_ends hk f ns2 ls2 (at_ + 1) k2 k1 (inner_go l2 hr l3 ho hi)
        | apart l =>
          obtain ⟨k1, k2⟩ := inner_apart l2 hr hi
          exact ⟨(fun _ h => nomatch h), fun l' h => by
            cases h
            exact ⟨by omega, k2⟩⟩
        | many => exact ⟨(fun _ h => nomatch h), (fun _ h => nomatch h)⟩
    · have e1 : outer gap leads limit (f + 1) ns ls at_ = .alike ns := outer_end (by omega)
      rw [e1]
      exact ⟨fun ns' h => by
        cases h
        exact hm, fun l h => nomatch h⟩
end
structure NsOk (d : Kd) (a b : List Str) (lim : Nat) (ns : List Nd) : Prop where
  tab : TabOk d a b ns
  len : ns.length ≤ lim
structure LnOk (d : Kd) (lim : Nat) (l : List Str) : Prop where
  len : l.length ≤ lim
  sk : ∀ x ∈ l, x ∈ d.sk
theorem search_ends {d : Kd} {a b : List Str} {lim : Nat} (hA : RowOk d a) (hB : RowOk d b) (h1 : 1 ≤ lim) (h2 : lim ≤ 1000) :
    (∀ ns, searchR d a b lim = .alike ns → NsOk d a b lim ns) ∧ ∀ l, searchR d a b lim = .apart l → LnOk d lim l := by
  have hk : ∀ n g, gapR d n = some g → ∀ r ∈ leadsR d n g, r.1 ∈ d.sk := fun n g _ r hr => by
    obtain ⟨k, hk, rfl⟩ := List.mem_map.mp hr
    exact nextK_mem hk
  by_cases hg : gapR d (a, b, []) = some ([], [])
  · have hso : NodeOk d a b (a, b, []) := ⟨List.Sublist.refl _, List.Sublist.refl _, .nil, fun k hk => nomatch hk⟩
    have hstep : ∀ n g, NodeOk d a b n → gapR d n = some g → ∀ r ∈ leadsR d n g, NodeOk d a b r.2.1 := fun n g hn hg r hr => by
      obtain ⟨k, hk, rfl⟩ := List.mem_map.mp hr
      exact hn.step (nextK_mem hk)
    have hls : LsOk (fun x => x ∈ d.sk) [[]] := fun i l hi => by
      have hi' := List.getElem?_eq_some_iff.mp hi
      obtain ⟨hlt, hl⟩ := hi'
      have : i = 0 := by simpa using hlt
      subst this
      have : l = [] := hl.symm
      subst this
      exact ⟨Nat.le_refl _, fun x hx => nomatch hx⟩
    have ends := outer_ends (gap := gapR d) (leads := leadsR d) (limit := lim) (P := fun x => x ∈ d.sk) hk (lim + 1) [(a, b, [])] [[]] 0 rfl (by simpa using h1) hls
    unfold searchR
    rw [if_pos hg]
    refine ⟨fun ns h => ?_, fun l h => ?_⟩
    · have T := outer_table hstep (lim + 1) _ _ 0 ns (SInv.start hso hg) rfl (by simpa using h1) (by omega) h
      have hl := ends.1 ns h
      refine ⟨⟨T.nd, T.st, hg, T.good, fun n hn => ?_, by omega⟩, hl⟩
      obtain ⟨g, hgn⟩ := T.gp n hn
      exact ⟨g, hgn, fun k hk => T.cl n hn g hgn _ (List.mem_map.mpr ⟨k, hk, rfl⟩)⟩
    · obtain ⟨q1, q2⟩ := ends.2 l h
      exact ⟨q1, q2⟩
  · unfold searchR
    rw [if_neg hg]
    refine ⟨(fun _ h => nomatch h), fun l h => ?_⟩
    cases h
    exact ⟨Nat.zero_le _, fun x hx => nomatch hx⟩
theorem TabOk.perm {d : Kd} {a b : List Str} {ns ms : List Nd} (h : TabOk d a b ns) (p : ns.Perm ms) : TabOk d a b ms :=
  ⟨p.nodup_iff.mp h.nd, p.mem_iff.mp h.st, h.gap, fun n hn => h.good n (p.mem_iff.mpr hn), fun n hn => by
    obtain ⟨g, h1, h2⟩ := h.leads n (p.mem_iff.mpr hn)
    exact ⟨g, h1, fun k hk => ⟨(h2 k hk).1, p.mem_iff.mp (h2 k hk).2⟩⟩, by rw [← p.length_eq]; exact h.len⟩
theorem rot_perm {α : Type} (l : List α) (n : Nat) : l.Perm (l.drop n ++ l.take n) := by
  refine List.Perm.trans ?_ List.perm_append_comm
  rw [List.take_append_drop]
/-! ### as data -/
def resD (lim : Nat) : Rs Nd Str → PyData
  | .alike ns => .tuple [.str "alike", PySem.W.Datum.toD (ns.map t3)]
  | .apart l => .tuple [.str "apart", PySem.W.Datum.toD l]
  | .many => .tuple [.str "many", .int (lim : Int)]
def DueAt (lim : Nat) (res : Rs Nd Str) (v : V) (H : Hp) : Prop := match res with
  | .alike ns => ∃ t nl ts, v = .ref t ∧ H t = some (.tup [.str "alike", .ref nl]) ∧ H nl = some (.lst (rvs ts)) ∧ Paired (NdAt H) ts ns
  | .apart l => ∃ t p, v = .ref t ∧ H t = some (.tup [.str "apart", .ref p]) ∧ H p = some (.lst (svs l))
  | .many => ∃ t, v = .ref t ∧ H t = some (.tup [.str "many", .int (lim : Int)])
theorem DueAt.ex {lim : Nat} {v : V} {H H' : Hp} (e : Ex H H') : ∀ {res : Rs Nd Str}, DueAt lim res v H → DueAt lim res v H'
  | .alike ns, ⟨t, nl, ts, h1, h2, h3, h4⟩ => ⟨t, nl, ts, h1, e _ _ h2, e _ _ h3, paired_nx h4 e⟩
  | .apart l, ⟨t, p, h1, h2, h3⟩ => ⟨t, p, h1, e _ _ h2, e _ _ h3⟩
  | .many, ⟨t, h1, h2⟩ => ⟨t, h1, e _ _ h2⟩
theorem DueAt.ofS {lim : Nat} {v : V} {H H' : Hp} : ∀ {res : Rs Nd Str}, RSearch lim res v H H' → DueAt lim res v H'
  | .alike ns, ⟨t, nl, ts, h1, h2, h3, h4, h5⟩ => ⟨t, nl, ts, h1, h3, h4, h5⟩
  | .apart l, ⟨t, p, h1, h2, h3, h4, h5⟩ => ⟨t, p, h1, h4, h5⟩
  | .many, ⟨t, h1, h2, h3⟩ => ⟨t, h1, h3⟩
theorem DueAt.ofT {lim : Nat} {v : V} {H H' : Hp} : ∀ {res : Rs Nd Str}, RRes lim res v H H' → DueAt lim res v H'
  | .alike ns, ⟨t, nl, qs, h1, h2, h3, h4, h5, h6, h7⟩ => ⟨t, nl, qs.map (·.1), h1, h4, h5, paired_mapL (Paired.mapP h6.each fun q n h => ⟨_, _, _, h⟩)⟩
  | .apart l, ⟨t, p, h1, h2, h3, h4, h5⟩ => ⟨t, p, h1, h4, h5⟩
  | .many, ⟨t, h1, h2, h3⟩ => ⟨t, h1, h3⟩
theorem DueAt.dp {K : PySem.W.Frag} {lim : Nat} {v : V} {H : Hp} : ∀ {res : Rs Nd Str}, DueAt lim res v H → ∃ t, v = .ref t ∧ Dp K H (.ref t) (resD lim res)
  | .alike ns, ⟨t, nl, ts, h1, h2, h3, h4⟩ => ⟨t, h1, Dp.tup (st_of h2) (.cons (.str _) (.cons (Dp.lst (SqL.of h3) (dp_nds h4)) .nil))⟩
  | .apart l, ⟨t, p, h1, h2, h3⟩ => ⟨t, h1, Dp.tup (st_of h2) (.cons (.str _) (.cons (dp_list (SqL.of h3)) .nil))⟩
  | .many, ⟨t, h1, h2⟩ => ⟨t, h1, Dp.tup (st_of h2) (.cons (.str _) (.cons (.int _) .nil))⟩
theorem showable_nds : ∀ ns : List Nd, PyData.showableAll ((ns.map t3).map PySem.W.Datum.toD) = true
  | [] => rfl
  | n :: r => by
    rw [List.map_cons, List.map_cons, PyData.showableAll, showable_nds r, Bool.and_true]
    show PyData.showable (.tuple [PySem.W.Datum.toD n.1, PySem.W.Datum.toD n.2.1, PySem.W.Datum.toD n.2.2]) = true
    have s : ∀ xs : List Str, PyData.showable (PySem.W.Datum.toD xs) = true := fun xs => by
      show PyData.showable (.list _) = true
      rw [PyData.showable]
      exact showable_strs xs
    rw [PyData.showable, PyData.showableAll, PyData.showableAll, PyData.showableAll, PyData.showableAll, s, s, s]
    rfl
theorem noDict_nds : ∀ ns : List Nd, PyData.hasDictAll ((ns.map t3).map PySem.W.Datum.toD) = false
  | [] => rfl
  | n :: r => by
    rw [List.map_cons, List.map_cons, PyData.hasDictAll, noDict_nds r, Bool.or_false]
    show PyData.hasDict (.tuple [PySem.W.Datum.toD n.1, PySem.W.Datum.toD n.2.1, PySem.W.Datum.toD n.2.2]) = false
    have s : ∀ xs : List Str, PyData.hasDict (PySem.W.Datum.toD xs) = false := fun xs => by
      show PyData.hasDict (.list _) = false
      rw [PyData.hasDict]
      exact noDict_strs xs
    rw [PyData.hasDict, PyData.hasDictAll, PyData.hasDictAll, PyData.hasDictAll, PyData.hasDictAll, s, s, s]
    rfl
theorem canLay_nds : ∀ ns : List Nd, (∀ n ∈ ns, (∀ x ∈ n.1, okS x) ∧ (∀ x ∈ n.2.1, okS x) ∧ ∀ x ∈ n.2.2, okS x) → PyData.canLayAll0 ((ns.map t3).map PySem.W.Datum.toD) = true
  | [], _ => rfl
  | n :: r, h => by
    rw [List.map_cons, List.map_cons, PyData.canLayAll0, canLay_nds r (fun m hm => h m (List.mem_cons_of_mem _ hm)), Bool.and_true]
    show PyData.canLay0 (.tuple [PySem.W.Datum.toD n.1, PySem.W.Datum.toD n.2.1, PySem.W.Datum.toD n.2.2]) = true
    obtain ⟨h1, h2, h3⟩ := h n List.mem_cons_self
    have s : ∀ xs : List Str, (∀ x ∈ xs, okS x) → PyData.canLay0 (PySem.W.Datum.toD xs) = true := fun xs hx => (Bool.and_eq_true_iff.mp (shaped_strs hx)).1
    rw [PyData.canLay0, PyData.canLayAll0, PyData.canLayAll0, PyData.canLayAll0, PyData.canLayAll0, s _ h1, s _ h2, s _ h3]
    rfl
theorem int_shown (n : Nat) (h : n ≤ 1000) : (PyData.shown (.int (n : Int))).length ≤ 10 := by
  have : ∀ k : Fin 1001, (PyData.shown (.int ((k.val : Nat) : Int))).length ≤ 10 := by decide +kernel
  exact this ⟨n, by omega⟩
theorem int_showable (n : Nat) (h : n ≤ 1000) : PyData.showable (.int (n : Int)) = true := by
  have : ∀ k : Fin 1001, PyData.showable (.int ((k.val : Nat) : Int)) = true := by decide +kernel
  exact this ⟨n, by omega⟩
theorem word_good (z : Str) (h : (decide (1 ≤ z.cps.size) && decide (z.cps.size ≤ 8) && z.cps.toList.all fun c => decide (97 ≤ c) && decide (c ≤ 122)) = true) : GoodK z := by
  rw [Bool.and_eq_true, Bool.and_eq_true] at h
  obtain ⟨⟨h1, h2⟩, h3⟩ := h
  refine ⟨of_decide_eq_true h1, of_decide_eq_true h2, fun c hc => ?_⟩
  have := List.all_eq_true.mp h3 c hc
  rw [Bool.and_eq_true] at this
  exact ⟨of_decide_eq_true this.1, of_decide_eq_true this.2⟩
theorem good_alike : GoodK ("alike" : Str) := word_good _ (by decide +kernel)
theorem good_apart : GoodK ("apart" : Str) := word_good _ (by decide +kernel)
theorem good_many : GoodK ("many" : Str) := word_good _ (by decide +kernel)
theorem show_pair {z : Str} {d : PyData} (hz : GoodK z) (h1 : d.showable = true) (h2 : d.hasDict = false) (h3 : d.depth ≤ 50) (h4 : d.shown.length ≤ 7000000) (h5 : PyData.canLay0 d = true) (h6 : PyData.eqv d d = true) : ShowD (.tuple [.str z, d]) where
  sh := by
    rw [PyData.showable, PyData.showableAll, PyData.showableAll, PyData.showableAll, h1]
    rfl
  nd := by
    rw [PyData.hasDict, PyData.hasDictAll, PyData.hasDictAll, PyData.hasDictAll, h2]
    rfl
  dp := by
    rw [PyData.depth, PyData.depthAll, PyData.depthAll, PyData.depthAll, PyData.depth]
    omega
  len := by
    rw [PyData.shown, shownAll_map]
    refine Nat.le_trans (tupleText_le (b := 7000000) (ts := [reprText z, d.shown]) fun t ht => ?_) (by show 3 + 7000002 * 2 ≤ 16000000; omega)
    have ht : t = reprText z ∨ t = d.shown := by simpa using ht
    rcases ht with rfl | rfl
    · have := shown_good hz
      omega
    · exact h4
  shp := by
    unfold SeqAt.shaped
    rw [Bool.and_eq_true]
    refine ⟨?_, decide_eq_true ?_⟩
    · rw [PyData.canLay0, PyData.canLayAll0, PyData.canLayAll0, PyData.canLayAll0, PyData.canLay0, strOk_of hz.ok, h5]
      rfl
    · rw [PyData.depth, PyData.depthAll, PyData.depthAll, PyData.depthAll, PyData.depth]
      omega
  eqv := by
    rw [PyData.eqv, PySem.W.eqv_all_cons, PySem.W.eqv_all_cons, show PyData.eqv (.str z) (.str z) = true from (PySem.W.Datum.eqv z z).trans (decide_eq_true rfl), h6]
    simp [PyData.eqvAll]
theorem NodeOk.setLen {d : Kd} {a b : List Str} {n : Nd} (hd : KdOk d) (h : NodeOk d a b n) : n.2.2.length ≤ 8 := Nat.le_trans (sub_len (asc_nd h.set) h.kinds) hd.len
theorem res_show {d : Kd} {a b : List Str} {lim : Nat} (hd : KdOk d) (hA : RowOk d a) (hB : RowOk d b) (h1 : 1 ≤ lim) (h2 : lim ≤ 1000) : ShowD (resD lim (searchR d a b lim)) := by
  obtain ⟨s1, s2⟩ := search_ends hA hB h1 h2
  cases hs : searchR d a b lim with
  | alike ns =>
    have o := s1 ns hs
    have lz := o.len
    have gk : ∀ n ∈ ns, (∀ x ∈ n.1, GoodK x) ∧ (∀ x ∈ n.2.1, GoodK x) ∧ (∀ x ∈ n.2.2, GoodK x) ∧ n.1.length ≤ 100 ∧ n.2.1.length ≤ 100 ∧ n.2.2.length ≤ 100 := fun n hn => by
      have g := o.tab.good n hn
      exact ⟨fun x hx => hd.good x (hA.kinds x (g.one.mem hx)), fun x hx => hd.good x (hB.kinds x (g.two.mem hx)), fun x hx => hd.good x (g.kinds x hx), Nat.le_trans g.one.length_le hA.len, Nat.le_trans g.two.length_le hB.len, by have := g.setLen hd; omega⟩
    refine show_pair good_alike ?_ ?_ (Nat.le_trans (PySem.W.Datum.depth_le (ns.map t3)) (by decide)) (Nat.le_trans (shown_nds gk) ?_) ?_ ?_
    · show PyData.showable (.list _) = true
      rw [PyData.showable]
      exact showable_nds ns
    · show PyData.hasDict (.list _) = false
      rw [PyData.hasDict]
      exact noDict_nds ns
    · omega
    · show PyData.canLay0 (.list _) = true
      rw [PyData.canLay0]
      exact canLay_nds ns fun n hn => ⟨fun x hx => ((gk n hn).1 x hx).ok, fun x hx => ((gk n hn).2.1 x hx).ok, fun x hx => ((gk n hn).2.2.1 x hx).ok⟩
    · rw [PySem.W.Datum.eqv, decide_eq_true rfl]
  | apart l =>
    have o := s2 l hs
    have lz := o.len
    have gk : ∀ x ∈ l, GoodK x := fun x hx => hd.good x (o.sk x hx)
    refine show_pair good_apart ?_ ?_ (Nat.le_trans (PySem.W.Datum.depth_le l) (by decide)) (Nat.le_trans (shown_list gk) ?_) ?_ ?_
    · show PyData.showable (.list _) = true
      rw [PyData.showable]
      exact showable_strs l
    · show PyData.hasDict (.list _) = false
      rw [PyData.hasDict]
      exact noDict_strs l
    · omega
    · exact (Bool.and_eq_true_iff.mp (shaped_strs fun x hx => (gk x hx).ok)).1
    · rw [PySem.W.Datum.eqv, decide_eq_true rfl]
  | many =>
    refine show_pair good_many (int_showable lim h2) ?_ ?_ ?_ ?_ ?_
    · rw [PyData.hasDict]
    · rw [PyData.depth]
      omega
    · have := int_shown lim h2
      omega
    · rw [PyData.canLay0]
    · exact (PySem.W.Datum.eqv (lim : Int) (lim : Int)).trans (decide_eq_true rfl)
end K64
set_option Elab.async false
set_option linter.all false
set_option maxRecDepth 100000
set_option maxHeartbeats 4000000
/-! Words for the law. -/
namespace K64
open PySem PySem.Spec PyProof.Rows L2 Evl
/-! ### what is not the bag -/
def NotBag (o : HO) : Prop := ∀ (x y z : Int) (c : Addr), o ≠ .lst [.int x, .int y, .int z, .ref c]
theorem nb_svs (xs : List Str) : NotBag (.lst (svs xs)) := fun x y z c e => by
  have e := HO.lst.inj e
  cases xs with
  | nil => cases e
  | cons a r =>
    have := (List.cons.inj e).1
    cases this
theorem nb_rvs (xs : List Addr) : NotBag (.lst (rvs xs)) := fun x y z c e => by
  have e := HO.lst.inj e
  cases xs with
  | nil => cases e
  | cons a r =>
    have := (List.cons.inj e).1
    cases this
theorem nb_tup (xs : List V) : NotBag (.tup xs) := fun x y z c e => nomatch e
theorem nb_non (xs : List V) : NotBag (.lst (.non :: xs)) := fun x y z c e => by
  have e := (List.cons.inj (HO.lst.inj e)).1
  cases e
theorem hidB {H : Hp} {B cl a : Addr} {o : HO} (b : BagAt H B cl) (h : H a = some o) (ho : NotBag o) : hideA B H a = some o := (hideA_ne fun e => by
  obtain ⟨x, y, z, cs, h1, _⟩ := b
  rw [e, h1] at h
  exact ho _ _ _ _ (Option.some.inj h).symm).trans h
theorem NdA.hide {H : Hp} {B cl t x y z : Addr} {n : Nd} (b : BagAt H B cl) (h : NdA H t x y z n) : NdA (hideA B H) t x y z n := ⟨hidB b h.tup (nb_tup _), hidB b h.one (nb_svs _), hidB b h.two (nb_svs _), hidB b h.set (nb_svs _)⟩
theorem DueAt.hide {lim : Nat} {v : V} {H : Hp} {B cl : Addr} (b : BagAt H B cl) : ∀ {res : Rs Nd Str}, DueAt lim res v H → DueAt lim res v (hideA B H)
  | .alike ns, ⟨t, nl, ts, h1, h2, h3, h4⟩ => ⟨t, nl, ts, h1, hidB b h2 (nb_tup _), hidB b h3 (nb_rvs _), Paired.mapP h4 fun _ _ ⟨x, y, z, h⟩ => ⟨x, y, z, h.hide b⟩⟩
  | .apart l, ⟨t, p, h1, h2, h3⟩ => ⟨t, p, h1, hidB b h2 (nb_tup _), hidB b h3 (nb_svs _)⟩
  | .many, ⟨t, h1, h2⟩ => ⟨t, h1, hidB b h2 (nb_tup _)⟩
theorem Su.hide {K : PySem.W.Frag} {H : Hp} {B cl S : Addr} {d : Kd} (b : BagAt H B cl) (h : Su K H S d) : Su K (hideA B H) S d := by
  obtain ⟨k, p, m, dx, ma, pa, h⟩ := h
  exact ⟨k, p, m, dx, ma, pa, hidB b h.ins (fun x y z c e => nomatch e), hidB b h.kinds (nb_svs _), hidB b h.pairs (nb_rvs _), Paired.mapP h.pair fun _ _ z => hidB b z (nb_tup _), hidB b h.mates (fun x y z c e => nomatch e), fun x hx => hidB b (h.mate x hx) (nb_svs _)⟩
/-! ### what the law holds in a turn -/
structure LawC (K : PySem.W.Frag) (pl : Pl) (D S r1 r2 hd h1 h2 : Addr) (a b : List Str) (dv : V) (H : Hp) : Prop where
  plan : PlAt H D pl
  su : Su K H S pl.kd
  one : H r1 = some (.lst (svs a))
  two : H r2 = some (.lst (svs b))
  hnd : H hd = some (.lst [.ref h1, .ref h2])
  p1 : H h1 = some (.lst (svs a))
  p2 : H h2 = some (.lst (svs b))
  due : DueAt 400 (searchR pl.kd a b 400) dv H
theorem LawC.ex {K : PySem.W.Frag} {pl : Pl} {D S r1 r2 hd h1 h2 : Addr} {a b : List Str} {dv : V} {H H' : Hp} (c : LawC K pl D S r1 r2 hd h1 h2 a b dv H) (e : Ex H H') : LawC K pl D S r1 r2 hd h1 h2 a b dv H' :=
  ⟨c.plan.ex e, c.su.ex e, e _ _ c.one, e _ _ c.two, e _ _ c.hnd, e _ _ c.p1, e _ _ c.p2, c.due.ex e⟩
/-- a found table -/
structure FAl (H0 : Hp) (t nl : Addr) (qs : List Qd) (ns : List Nd) (H : Hp) : Prop where
  tup : H t = some (.tup [.str "alike", .ref nl])
  lst : H nl = some (.lst (rvs (qs.map (·.1))))
  each : Paired (NdQ H) qs ns
  new : ∀ x, Pcs nl (cellsOf qs) x → H0 x = none
  nd : (cellsOf qs).Nodup
  no : nl ∉ cellsOf qs
theorem FAl.ex {H0 H H' : Hp} {t nl : Addr} {qs : List Qd} {ns : List Nd} (f : FAl H0 t nl qs ns H) (e : Ex H H') : FAl H0 t nl qs ns H' := ⟨e _ _ f.tup, e _ _ f.lst, Paired.mapP f.each fun _ _ h => h.ex e, f.new, f.nd, f.no⟩
theorem FAl.hide {H0 H : Hp} {t nl B cl : Addr} {qs : List Qd} {ns : List Nd} (b : BagAt H B cl) (f : FAl H0 t nl qs ns H) : FAl H0 t nl qs ns (hideA B H) := ⟨hidB b f.tup (nb_tup _), hidB b f.lst (nb_rvs _), Paired.mapP f.each fun _ _ h => h.hide b, f.new, f.nd, f.no⟩
theorem FAl.of {H0 H : Hp} {v : V} {ns : List Nd} (h : RAlike ns v H0 H) : ∃ t nl qs, v = .ref t ∧ FAl H0 t nl qs ns H := by
  obtain ⟨t, nl, qs, h1, h2, h3, h4, h5, h6, h7⟩ := h
  refine ⟨t, nl, qs, h1, h4, h5, h6.each, ?_, h6.nd, h7⟩
  rintro x (rfl | hx)
  · exact h3
  · obtain ⟨q, hq, hx⟩ := List.mem_flatMap.mp hx
    have hx : x ∈ [q.2.1, q.2.2.1, q.2.2.2] := hx
    have hn := h6.new q hq
    simp only [List.mem_cons, List.not_mem_nil, or_false] at hx
    rcases hx with rfl | rfl | rfl
    · exact hn.2.1
    · exact hn.2.2.1
    · exact hn.2.2.2
theorem spoil_keep {H8 H1 H2 : Hp} {B : Addr} {Pc : Addr → Prop} (hP : ∀ x, Pc x → H8 x = none) (x1 : Ex (hideA B H8) (hideA B H1)) (p : Ex (hideP Pc H1) (hideP Pc H2)) : Ex (hideA B H8) (hideA B H2) := fun b o h => by
  have hb : b ≠ B := hideA_eq h
  have h8 : H8 b = some o := hideA_ex _ _ _ _ h
  have hn : ¬ Pc b := fun q => by
    rw [hP b q] at h8
    cases h8
  have h1 := hideA_ex _ _ _ _ (x1 _ _ h)
  have h2 := p b o ((hideP_ne hn).trans h1)
  exact (hideA_ne hb).trans (hideP_ex _ _ _ _ h2)
theorem spoil_bag {H8 H1 H2 : Hp} {B cl : Addr} {Pc : Addr → Prop} (hP : ∀ x, Pc x → H8 x = none) (b8 : BagAt H8 B cl) (x1 : Ex (hideA B H8) (hideA B H1)) (p : Ex (hideP Pc H1) (hideP Pc H2)) (b1 : BagAt H1 B cl) : BagAt H2 B cl := by
  obtain ⟨_, _, _, cs, q1, q2⟩ := b8
  obtain ⟨x, y, z, _, q3, _⟩ := b1
  have hn : ¬ Pc B := fun q => by
    rw [hP B q] at q1
    cases q1
  exact ⟨x, y, z, cs, hideP_ex _ _ _ _ (p _ _ ((hideP_ne hn).trans q3)), spoil_keep hP x1 p _ _ q2⟩
section
variable {K : PySem.W.Frag} {σ : L2.St} {B cl : Addr} {Hc H : Hp} {ta tb te t1 t2 t3 t4 : TE} {R R' R1 R2 : Rel} {E : XK} {sk : List Str}
theorem lbB (h : EvR te σ Hc R) (hR : ∀ v H1 H2, BagAt H1 B cl → Ex H1 H2 → R v H1 H2 → R' v (hideA B H1) (hideA B H2)) : EvRB te σ B cl Hc R' := fun H1 a b Q q => h H1 (a.trans (hideA_ex _ _)) Q fun v H2 e r => q v H2 (hideA_mono e) (b.ex e) (hR v H1 H2 b e r)
theorem erb_lst2 (h1 : EvRB ta σ B cl Hc R1) (h2 : EvRB tb σ B cl Hc R2) : EvRB (tLst (tCons ta (tCons tb tNil))) σ B cl Hc (fun v H1 H4 => ∃ p x y H2 H3, v = .ref p ∧ Ex H1 H2 ∧ Ex H2 H3 ∧ Ex H3 H4 ∧ R1 x H1 H2 ∧ R2 y H2 H3 ∧ H4 p = some (.lst [x, y])) := fun H1 a b Q q =>
  h1 H1 a b _ fun x H2 e2 b2 r1 => h2 H2 (a.trans e2) b2 _ fun y H3 e3 b3 r2 => ⟨by simp [sizeLine_eq], fun p hp => q (.ref p) _ ((e2.trans e3).trans (hideA_mono (Ex.new hp))) (b3.ex (Ex.new hp)) ⟨p, x, y, _, _, rfl, e2, e3, hideA_mono (Ex.new hp), r1, r2, hids b3.some hp upd_same⟩⟩
theorem erb_sl6 {n : Nat} (h : EvRB te σ B cl Hc (RRow n sk)) : EvRB (tSl (rSlL K) te tNoPart (tPart (tC (.int 6)))) σ B cl Hc (RRow 6 sk) := fun H1 a b Q q =>
  h H1 a b _ fun v H2 e2 b2 ⟨p, xs, ev, np, hp, hl, hk⟩ => by
    subst ev
    refine (eo_none : EvO tNoPart σ H2 none) H2 (Ex.refl _) _ fun H3 e3 => (eo_some ev_c : EvO (tPart (tC (.int 6))) σ H2 (some 6)) H3 e3 _ fun H4 e4 => ⟨p, svs xs, rfl, SqL.of ((e3.trans e4) _ _ (hideA_ex _ _ _ _ hp)), fun l hl2 => ?_⟩
    have e24 := (e3.trans e4).trans (Ex.new (o := .lst (cutV (svs xs) none (some 6))) hl2)
    refine q (.ref l) _ (e2.trans (hideA_mono e24)) (b2.ex e24) ⟨l, xs.take 6, rfl, fresh_back (e2.trans (hideA_mono (e3.trans e4))) (hidf hl2), ?_, by rw [List.length_take]; omega, fun x hx => hk x (List.mem_of_mem_take hx)⟩
    have hc : cutV (svs xs) none (some (6 : Int)) = svs (xs.take 6) := by
      rw [show (6 : Int) = ((6 : Nat) : Int) from rfl, cut_to]
      exact List.map_take.symm
    refine (hids (B := B) (b2.ex (e3.trans e4)).some hl2 upd_same).trans ?_
    rw [hc]
theorem erb_int (h : EvRB te σ B cl Hc (fun v _ _ => ∃ b : Bool, v = .bl b)) : EvRB (tCB (fun xs H Q => (∃ i, xs = [.int i] ∧ Q (.int i) H) ∨ ∃ k, xs = [.bl k] ∧ Q (.int (if k then 1 else 0)) H) (tCons te tNil)) σ B cl Hc (fun v _ _ => ∃ k : Nat, v = .int (k : Int) ∧ k < 2) := fun H1 a b Q q =>
  h H1 a b _ fun v H2 e2 b2 ⟨k, ev⟩ => by
    subst ev
    refine .inr ⟨k, rfl, q _ H2 e2 b2 ?_⟩
    cases k with
    | true => exact ⟨1, rfl, by omega⟩
    | false => exact ⟨0, rfl, by omega⟩
theorem er_search' {D p r : Addr} {q : Pl} {a b : List Str} {lim : Nat} (h1 : Ev t1 σ H (.ref D)) (h2 : Ev t2 σ H (.ref p)) (h3 : Ev t3 σ H (.ref r)) (h4 : Ev t4 σ H (.int (lim : Int))) (hP : PlAt H D q) (hO : PlOk q) (hA : RowOk q.kd a) (hB : RowOk q.kd b) (hp : H p = some (.lst (svs a))) (hr : H r = some (.lst (svs b))) (l1 : 1 ≤ lim) (l2 : lim ≤ 1000) :
    EvR (tCall (spLSearch K) [] E (tCons t1 (tCons t2 (tCons t3 (tCons t4 tNil))))) σ H (RSearch lim (searchR q.kd a b lim)) :=
  er_callA (ea_cons h1 (ea_cons h2 (ea_cons h3 (ea_cons h4 ea_nil)))) (fun H1 e => ⟨D, p, r, lim, q, a, b, rfl, hP.ex e, hO, hA, hB, e _ _ hp, e _ _ hr, l1, l2, rfl⟩) bk_search
theorem bk_res {lim : Nat} {res : Rs Nd Str} : Bk (RRes lim res) := fun v H1 H2 H3 e r => res_mono e (Ex.refl _) r
theorem er_told' {S p r : Addr} {d : Kd} {a b : List Str} {bd : Option Nat} (h1 : Ev t1 σ H (.ref S)) (h2 : Ev t2 σ H (.ref p)) (h3 : Ev t3 σ H (.ref r)) (h4 : Ev t4 σ H (bndV bd)) (hS : Su K H S d) (hd : KdOk d) (hA : RowOk d a) (hB : RowOk d b) (hp : H p = some (.lst (svs a))) (hr : H r = some (.lst (svs b))) (l1 : 1 ≤ bd.getD 400) (l2 : bd.getD 400 ≤ 1000) :
    EvR (tCall (spTold K) [] E (tCons t1 (tCons t2 (tCons t3 (tCons t4 tNil))))) σ H (RRes (bd.getD 400) (searchR d a b (bd.getD 400))) :=
  er_callA (ea_cons h1 (ea_cons h2 (ea_cons h3 (ea_cons h4 ea_nil)))) (fun H1 e => ⟨S, p, r, bd, d, a, b, rfl, hS.ex e, hd, hA, hB, e _ _ hp, e _ _ hr, l1, l2, rfl⟩) bk_res
theorem er_toldN {S : Addr} {d : Kd} {a b : List Str} (h1 : Ev t1 σ H (.ref S)) (h2 : EvL t2 σ H (svs a)) (h3 : EvL t3 σ H (svs b)) (h4 : Ev t4 σ H .non) (hS : Su K H S d) (hd : KdOk d) (hA : RowOk d a) (hB : RowOk d b) :
    EvR (tCall (spTold K) [] E (tCons t1 (tCons t2 (tCons t3 (tCons t4 tNil))))) σ H (RRes 400 (searchR d a b 400)) := by
  refine er_call (ear_cons (er_v h1) (ear_cons (er_l h2) (ear_cons (er_l h3) (ear_cons (er_v h4) ear_nil)))) ?_
  rintro vs H1 H2 e1 e2 ⟨v, r, H3, rfl, e3, e4, rfl, v2, r2, H4, rfl, e5, e6, ⟨p, rfl, p1, p2⟩, v3, r3, H5, rfl, e7, e8, ⟨u, rfl, u1, u2⟩, v4, r4, H6, rfl, e9, e10, rfl, rfl⟩
  exact ⟨_, ⟨S, p, u, none, d, a, b, rfl, hS.ex (e1.trans e2), hd, hA, hB, e6 _ _ p2, e8 _ _ u2, by decide, by decide, rfl⟩, fun v H7 e r => bk_res _ _ _ _ e2 r⟩
/-- two results that read alike -/
theorem er_alike' {d : PyData} {A A' : Rel} (h1 : EvR t1 σ H A) (h2 : EvR t2 σ H A') (sd : ShowD d) (k1 : ∀ v H1 H2, Ex H H1 → Ex H1 H2 → A v H1 H2 → ∃ t, v = .ref t ∧ Dp K H2 (.ref t) d) (k2 : ∀ v H1 H2, Ex H H1 → Ex H1 H2 → A' v H1 H2 → ∃ t, v = .ref t ∧ Dp K H2 (.ref t) d) : Ev (tCall (spAlike K) [] E (tCons t1 (tCons t2 tNil))) σ H (.bl true) := by
  refine ev_of (er_call (ear_cons h1 (ear_cons h2 ear_nil)) ?_)
  rintro vs H1 H2 e1 e2 ⟨v, r, H3, rfl, e3, e4, ra, v2, r2, H4, rfl, e5, e6, rb, rfl⟩
  obtain ⟨t, rfl, hd1⟩ := k1 _ _ _ e1 e3 ra
  obtain ⟨u, rfl, hd2⟩ := k2 _ _ _ (e1.trans e3) e5 rb
  exact ⟨_, ⟨t, u, d, rfl, dp_ex e4 _ _ hd1, dp_ex e6 _ _ hd2, sd, rfl⟩, fun v H5 e r => r⟩
theorem canLay_rows {a b : List Str} (ha : ∀ x ∈ a, okS x) (hb : ∀ x ∈ b, okS x) : SeqAt.shaped (PySem.W.Datum.toD [a, b]) = true := by
  unfold SeqAt.shaped
  rw [Bool.and_eq_true]
  refine ⟨?_, decide_eq_true (Nat.le_trans (PySem.W.Datum.depth_le [a, b]) (by decide))⟩
  show PyData.canLay0 (.list _) = true
  rw [PyData.canLay0]
  exact canLay_strss [a, b] fun x hx => by
    have : x = a ∨ x = b := by simpa using hx
    rcases this with rfl | rfl
    · exact ha
    · exact hb
theorem dp_rows {H : Hp} {p x y : Addr} {a b : List Str} (hp : H p = some (.lst [.ref x, .ref y])) (hx : H x = some (.lst (svs a))) (hy : H y = some (.lst (svs b))) : Dp K H (.ref p) (PySem.W.Datum.toD [a, b]) := Dp.lst (SqL.of hp) (.cons (dp_list (SqL.of hx)) (.cons (dp_list (SqL.of hy)) .nil))
/-- handed != [one, other] -/
theorem et_hnd {pl : Pl} {D S r1 r2 hd h1 h2 : Addr} {a b : List Str} {dv : V} (g1 : Ev t1 σ H (.ref hd)) (g2 : Ev t2 σ H (.ref r1)) (g3 : Ev t3 σ H (.ref r2)) (c : LawC K pl D S r1 r2 hd h1 h2 a b dv H) (ha : ∀ x ∈ a, okS x) (hb : ∀ x ∈ b, okS x) : EvT (tTest (tOp (rNeD K) t1 (tLst (tCons t2 (tCons t3 tNil))))) σ H false :=
  et_test (ev_opL g1 (el_lst (ea_cons g2 (ea_cons g3 ea_nil)) (by simp)) fun l Hl hl el Hm em Q q => by
    have cm := c.ex (el.trans em)
    refine ⟨PySem.W.Datum.toD [a, b], PySem.W.Datum.toD [a, b], dp_rows cm.hnd cm.p1 cm.p2, dp_rows (em _ _ hl) cm.one cm.two, canLay_rows ha hb, canLay_rows ha hb, ?_⟩
    rw [PySem.W.Datum.eqv, decide_eq_true rfl]
    exact q Hm (Ex.refl Hm))
theorem er_lstVL {x : V} {xs : List V} (ha : Ev ta σ H x) (hb : EvL tb σ H xs) : EvR (tLst (tCons ta (tCons tb tNil))) σ H (fun v H1 H4 => ∃ p b, v = .ref p ∧ H4 p = some (.lst [x, .ref b]) ∧ H4 b = some (.lst xs)) := fun H1 e Q q =>
  ha H1 e _ fun H2 e2 => hb H2 (e.trans e2) _ fun b H3 n3 e3 h3 => ⟨by simp [sizeLine_eq], fun t ht => q (.ref t) _ ((e2.trans e3).trans (Ex.new ht)) ⟨t, b, rfl, upd_same, (Ex.new ht) _ _ h3⟩⟩
theorem s_spoilIf {D : Ends} {tA tC : TT} {tu : TS} {nl : Addr} {Pst : Hp → Hp → Prop} (hA : EvT tA σ H true) (hE : Ev te σ H (.ref nl)) (hsp : ∀ H1, Ex H H1 → ∀ Q : VK, (∀ H2, Pst H1 H2 → Q (.bl true) H2) → spSpoil [.ref nl] H1 Q E) (hC : ∀ H1 H2, Ex H H1 → Pst H1 H2 → EvT tC σ H2 false) (k : ∀ H1 H2 H3, Ex H H1 → Pst H1 H2 → Ex H2 H3 → D.nx σ H3) :
    tIfS (tOr (tAnd tA (tNot (tTest (tCall spSpoil [] E (tCons te tNil))))) tC) tu tNext D σ H :=
  hA H (Ex.refl H) _ fun H1 e1 => by
    rw [if_pos rfl]
    show tCons te tNil σ H1 (fun vs H2 => spSpoil (vs ++ []) H2 (fun x H' => ∃ k, x = V.bl k ∧ (if (!k) = true then (if true = true then tu D σ H' else D.nx σ H') else tC σ H' fun b H1 => if b = true then tu D σ H1 else D.nx σ H1)) E)
    refine (ea_cons hE ea_nil : EvA (tCons te tNil) σ H [.ref nl]) H1 e1 _ fun H2 e2 => ?_
    refine hsp H2 (e1.trans e2) _ fun H3 p => ⟨true, rfl, ?_⟩
    rw [if_neg (by decide)]
    refine hC H2 H3 (e1.trans e2) p H3 (Ex.refl H3) _ fun H4 e4 => ?_
    rw [if_neg (by decide)]
    exact k H2 H3 H4 (e1.trans e2) p e4
theorem s_forNLg {D : Ends} {tu : TS} {tl : TE} {g : TG} (h : EvR tl σ H R) (hR : ∀ v H1, Ex H H1 → R v H H1 → ∃ p xs, v = .ref p ∧ H1 p = some (.lst xs) ∧ ∃ (Pv : Nat → L2.St → Hp → Prop), Pv 0 σ H1 ∧ (∀ i σ' H', i ≤ xs.length → Pv i σ' H' → SqL K H' p xs) ∧
    (∀ (i : Nat) x σ' H', xs[i]? = some x → Pv i σ' H' → g x σ' H' fun σ2 H2 => tu { D with nx := Pv (i + 1), ct := Pv (i + 1), bk := D.nx } σ2 H2) ∧ ∀ σ' H', Pv xs.length σ' H' → D.nx σ' H') : tFor (iList K tl) g tu D σ H := h H (Ex.refl H) _ fun v H1 e r => by
  obtain ⟨p, xs, rfl, hp, Pv, h0, hl, hs, hd⟩ := hR v H1 e r
  exact ⟨p, rfl, ⟨xs, sq_of hp⟩, for_it walk_list Pv h0 (fun i σ' H' hi h => hl i σ' H' hi h) (fun i x σ' H2 H3 hi h y => by
    obtain ⟨rfl, hx⟩ := y
    exact hs i x σ' _ hx h) hd⟩
end
end K64
set_option Elab.async false
set_option linter.all false
set_option maxRecDepth 100000
set_option maxHeartbeats 16000000
/-! law. -/
namespace K64
open PySem PySem.Spec PyProof.Rows L2 Evl
section
variable {P : Program} {w : World} {K : PySem.W.Frag} {mg : Str → Option Value} {base : Heap}
def spLaw (K : PySem.W.Frag) : Sp := fun vs H Q _ => ∃ (a : Addr) (ns : List Int), vs = [.ref a] ∧ SqL K H a (ns.map V.int) ∧ ns.length ≤ 100 ∧ ∀ H', Q (.bl true) H'
theorem bk_bag : Bk RBag := fun v H1 H2 H3 e ⟨B, cl, h1, h2, h3⟩ => ⟨B, cl, h1, fresh_back e h2, h3⟩
theorem row_ok {q : Pl} {xs : List Str} (hl : xs.length ≤ 6) (hk : ∀ x ∈ xs, x ∈ q.ks) : RowOk q.kd xs := ⟨by omega, fun k h => mem_sortS.mpr (hk k h)⟩
theorem bnd_non (bd : Option Nat) : decide (bndV bd = .non) = bd.isNone := by
  cases bd <;> simp [bndV]
theorem paired_take {α β : Type} {F : α → β → Prop} : ∀ {as : List α} {bs : List β}, Paired F as bs → ∀ n, Paired F (as.take n) (bs.take n)
  | _, _, .nil, n => by simp; exact .nil
  | _, _, .cons r t, 0 => .nil
  | _, _, .cons r t, n + 1 => .cons r (paired_take t n)
theorem paired_drop {α β : Type} {F : α → β → Prop} : ∀ {as : List α} {bs : List β}, Paired F as bs → ∀ n, Paired F (as.drop n) (bs.drop n)
  | _, _, .nil, n => by simp; exact .nil
  | _, _, .cons r t, 0 => .cons r t
  | _, _, .cons r t, n + 1 => paired_drop t n
/-- found[0] -/
theorem ev_word {σ : L2.St} {H : Hp} {i : Nat} {t : Addr} {nm : Str} {x : V} (h : σ[i]? = some (some (.ref t))) (ht : H t = some (.tup [.str nm, x])) : Ev (tOp (rIxT K) (tVar i) (tC (.int 0))) σ H (.str nm) := ev_ixT (i := 0) (ev_var h) ev_c ht rfl
theorem ev_what {σ : L2.St} {H : Hp} {i : Nat} {t : Addr} {nm : Str} {x : V} (h : σ[i]? = some (some (.ref t))) (ht : H t = some (.tup [.str nm, x])) : Ev (tOp (rIxT K) (tVar i) (tC (.int 1))) σ H x := ev_ixT (i := 1) (ev_var h) ev_c ht rfl
theorem sc_law : FnScope ["_law_script", "_law_bag_here", "_law_turn", "_law_plan_here", "_law_suits_here", "_law_one", "_law_other", "_law_handed", "_law_due", "_law_some", "_law_bound", "_law_right", "_law_found", "_law_at", "_law_thing"] ["_law_script"] (defScope s_law) := C8.fnScope_by (by decide +kernel)
theorem ok_law {fd : FuncData} (T : Tp K mg) (F : FunD K d_law.name d_law.qual d_law.params d_law.body d_law.scope (d_law.dvs K) (d_law.kws K) (He.fAd K d_law.at_) fd) (c_L_bag : C8.Cal P w K mg base 1 "_law_bag" (spBag K) []) (c_L_few : C8.Cal P w K mg base 4 "_law_few" spLFew []) (c_L_suits : C8.Cal P w K mg base 5 "_law_suits" (spLSuits K) []) (c_L_row : C8.Cal P w K mg base 2 "_law_row" (spLRow K) []) (c_L_take : C8.Cal P w K mg base 1 "_law_take" spTake [])
    (c_L_like : C8.Cal P w K mg base 2 "_law_like" (spLLike K) []) (c_L_search : C8.Cal P w K mg base 5 "_law_search" (spLSearch K) []) (c_L_told : C8.Cal P w K mg base 6 "_law_told" (spTold K) []) (c_L_alike : CalG P w K mg base 1 "_law_alike" (spAlike K)) (c_is_table : C8.Cal P w K mg base 6 "is_table" (spTable K) [])
    (c_L_spoil : C8.Cal P w K mg base 1 "_law_spoil" spSpoil []) (c_L_stays : CalG P w K mg base 6 "_law_stays" (spStays K)) : FnOkG P w K mg base C8.CX0 7 (He.fAd K d_law.at_) fd ["_law_script"] (spLaw K) := by
  refine fn_kG F sc_law (fun vs H Q E h => ?_) (fun cdv A outer s H vs Q E hr hg h => ?_)
  · obtain ⟨a, ns, rfl, _⟩ := h
    rfl
  · obtain ⟨a, ns, rfl, hS0, hz0, q⟩ := h
    refine ⟨_, (pss_cons (ps_set (i := 1) (sc_law).nd rfl (.inl rfl) (C8.pe_c c_L_bag hr (by decide) (by rfl) (pa_cons (pv 0) pa_nil)))
  (pss_cons (ps_for PassesOwn.never rfl (pi_range1 (by rfl) T.f_range (pa_cons pe_int pa_nil)) (pg_name (i := 2) (sc_law).nd rfl (.inl rfl))
  (pss_cons (ps_set (i := 3) (sc_law).nd rfl (.inl rfl) (C8.pe_c c_L_few hr (by decide) (by rfl) (pa_cons (pv 1) (pa_cons pe_int pa_nil))))
  (pss_cons (ps_par (i := 4) (j := 5) (by rfl) (sc_law).nd rfl rfl (by decide) rfl rfl (pa_cons (C8.pe_c c_L_suits hr (by decide) (by rfl) (pa_cons (pv 3) pa_nil)) (pa_cons (C8.pe_c c_L_row hr (by decide) (by rfl) (pa_cons (pv 1) (pa_cons (pv 3) (pa_cons (pe_ix (k_ixL (K := K) rfl) (pe_lst (pa_cons pe_int (pa_cons pe_int pa_nil))) (C8.pe_c c_L_take hr (by decide) (by rfl) (pa_cons (pv 1) (pa_cons pe_int pa_nil))) (fun _ _ => rfl)) pa_nil)))) pa_nil)) (by rfl))
  (pss_cons (ps_set (i := 6) (sc_law).nd rfl (.inl rfl) (pe_ix (k_ixL (K := K) rfl) (pe_lst (pa_cons (pe_slice (k_slL (K := K) rfl) (C8.pe_c c_L_like hr (by decide) (by rfl) (pa_cons (pv 1) (pa_cons (pv 3) (pa_cons (pv 5) pa_nil)))) po_none (po_some pe_int)) (pa_cons (C8.pe_c c_L_row hr (by decide) (by rfl) (pa_cons (pv 1) (pa_cons (pv 3) (pa_cons pe_int pa_nil)))) pa_nil))) (pe_callTy call_int1 (by rfl) T.f_int PyProof.Rows.boot_int (pa_cons (pe_cmpR op_eq (C8.pe_c c_L_take hr (by decide) (by rfl) (pa_cons (pv 1) (pa_cons pe_int pa_nil))) pe_int (nomark _)) pa_nil)) (fun _ _ => rfl)))
  (pss_cons (ps_par (i := 7) (j := 8) (by rfl) (sc_law).nd rfl rfl (by decide) rfl rfl (pa_cons (pe_lst (pa_cons (pe_callTy (k_list (K := K) rfl) (by rfl) T.f_list PyProof.Rows.boot_list (pa_cons (pv 5) pa_nil)) (pa_cons (pe_callTy (k_list (K := K) rfl) (by rfl) T.f_list PyProof.Rows.boot_list (pa_cons (pv 6) pa_nil)) pa_nil))) (pa_cons (C8.pe_c c_L_search hr (by decide) (by rfl) (pa_cons (pv 3) (pa_cons (pv 5) (pa_cons (pv 6) (pa_cons pe_int pa_nil))))) pa_nil)) (by rfl))
  (pss_cons (ps_set (i := 9) (sc_law).nd rfl (.inl rfl) (pe_lst (pa_cons pe_non (pa_cons (pe_op op_add pe_int (C8.pe_c c_L_take hr (by decide) (by rfl) (pa_cons (pv 1) (pa_cons pe_int pa_nil)))) pa_nil))))
  (pss_cut (ps_if (pt_cmpR op_eq (pe_ix (k_ixT (K := K) rfl) (pv 8) pe_int (fun _ _ => rfl)) pe_str (nomark _))
  (pss_one (ps_set (i := 9) (sc_law).nd rfl (.inl rfl) (pe_op op_cat (pv 9) (pe_lst (pa_cons (pe_callB (k_len (K := K) rfl) (by rfl) T.f_len PySem.boot_len (pa_cons (pe_ix (k_ixT (K := K) rfl) (pv 8) pe_int (fun _ _ => rfl)) pa_nil)) (pa_cons (pe_callB (call_max2 rfl) (by rfl) T.f_max boot_max (pa_cons pe_int (pa_cons (pe_op op_sub (pe_callB (k_len (K := K) rfl) (by rfl) T.f_len PySem.boot_len (pa_cons (pe_ix (k_ixT (K := K) rfl) (pv 8) pe_int (fun _ _ => rfl)) pa_nil)) pe_int) pa_nil))) pa_nil))))))
  pss_nil)
  (pss_cons (ps_for PassesOwn.never rfl (k_piList (K := K) rfl (pv 9)) (pg_name (i := 10) (sc_law).nd rfl (.inl rfl))
  (pss_cons (ps_set (i := 11) (sc_law).nd rfl (.inl rfl) (pe_ifExp (pt_cmpR op_isN (pv 10) pe_non (nomark _)) (pv 8) (C8.pe_c c_L_search hr (by decide) (by rfl) (pa_cons (pv 3) (pa_cons (pv 5) (pa_cons (pv 6) (pa_cons (pv 10) pa_nil)))))))
  (pss_cons (ps_set (i := 12) (sc_law).nd rfl (.inl rfl) (C8.pe_c c_L_told hr (by decide) (by rfl) (pa_cons (pv 4) (pa_cons (pe_ix (k_ixL (K := K) rfl) (pv 7) pe_int (fun _ _ => rfl)) (pa_cons (pe_ix (k_ixL (K := K) rfl) (pv 7) pe_int (fun _ _ => rfl)) (pa_cons (pv 10) pa_nil))))))
  (pss_cons (ps_if (PW.pt (pw_or (pt_not (pt_val (pe_cG c_L_alike hg hr (by decide) (by rfl) (pa_cons (pv 12) (pa_cons (pv 11) pa_nil))))) (pw_or1 (pt_cmpR (k_neD (K := K) rfl hr) (pv 7) (pe_lst (pa_cons (pv 5) (pa_cons (pv 6) pa_nil))) (nomark _)))))
  (pss_one (ps_ret pe_bl))
  pss_nil)
  (pss_cut (ps_if (pt_cmpR op_eq (pe_ix (k_ixT (K := K) rfl) (pv 12) pe_int (fun _ _ => rfl)) pe_str (nomark _))
  (pss_cons (ps_set (i := 13) (sc_law).nd rfl (.inl rfl) (C8.pe_c c_L_take hr (by decide) (by rfl) (pa_cons (pv 1) (pa_cons (pe_callB (k_len (K := K) rfl) (by rfl) T.f_len PySem.boot_len (pa_cons (pe_ix (k_ixT (K := K) rfl) (pv 12) pe_int (fun _ _ => rfl)) pa_nil)) pa_nil))))
  (pss_one (ps_for PassesOwn.never rfl (k_piList (K := K) rfl (pe_lst (pa_cons (pe_ix (k_ixT (K := K) rfl) (pv 12) pe_int (fun _ _ => rfl)) (pa_cons (pe_op op_cat (pe_slice (k_slL (K := K) rfl) (pe_ix (k_ixT (K := K) rfl) (pv 12) pe_int (fun _ _ => rfl)) (po_some (pv 13)) po_none) (pe_slice (k_slL (K := K) rfl) (pe_ix (k_ixT (K := K) rfl) (pv 12) pe_int (fun _ _ => rfl)) po_none (po_some (pv 13)))) pa_nil)))) (pg_name (i := 14) (sc_law).nd rfl (.inl rfl))
  (pss_one (ps_if (pt_cmpR op_notBl (C8.pe_c c_is_table hr (by decide) (by rfl) (pa_cons (pv 4) (pa_cons (pv 5) (pa_cons (pv 6) (pa_cons (pv 14) pa_nil))))) pe_bl (nomark _))
  (pss_one (ps_ret pe_bl))
  pss_nil)))))
  pss_nil)
  (pss_one (ps_if (PW.pt (pw_or (PW.pt (pw_and (pt_cmpR op_ne (pe_ix (k_ixT (K := K) rfl) (pv 12) pe_int (fun _ _ => rfl)) pe_str (nomark _)) (pw_and1 (pt_not (pt_val (C8.pe_c c_L_spoil hr (by decide) (by rfl) (pa_cons (pe_ix (k_ixT (K := K) rfl) (pv 12) pe_int (fun _ _ => rfl)) pa_nil))))))) (pw_or1 (pt_cmpR (k_neD (K := K) rfl hr) (pv 7) (pe_lst (pa_cons (pv 5) (pa_cons (pv 6) pa_nil))) (nomark _)))))
  (pss_one (ps_ret pe_bl))
  pss_nil)))))))
  (pss_cons (ps_if (pt_not (pt_val (pe_cG c_L_alike hg hr (by decide) (by rfl) (pa_cons (C8.pe_c c_L_told hr (by decide) (by rfl) (pa_cons (pv 4) (pa_cons (pe_callTy (k_list (K := K) rfl) (by rfl) T.f_list PyProof.Rows.boot_list (pa_cons (pv 6) pa_nil)) (pa_cons (pe_callTy (k_list (K := K) rfl) (by rfl) T.f_list PyProof.Rows.boot_list (pa_cons (pv 5) pa_nil)) (pa_cons pe_non pa_nil))))) (pa_cons (C8.pe_c c_L_search hr (by decide) (by rfl) (pa_cons (pv 3) (pa_cons (pv 6) (pa_cons (pv 5) (pa_cons pe_int pa_nil))))) pa_nil)))))
  (pss_one (ps_ret pe_bl))
  pss_nil)
  (pss_cons (ps_if (pt_not (pt_val (pe_cG c_L_alike hg hr (by decide) (by rfl) (pa_cons (C8.pe_c c_L_told hr (by decide) (by rfl) (pa_cons (pv 4) (pa_cons (pe_callTy (k_list (K := K) rfl) (by rfl) T.f_list PyProof.Rows.boot_list (pa_cons (pv 5) pa_nil)) (pa_cons (pe_callTy (k_list (K := K) rfl) (by rfl) T.f_list PyProof.Rows.boot_list (pa_cons (pv 6) pa_nil)) (pa_cons pe_non pa_nil))))) (pa_cons (pv 8) pa_nil)))))
  (pss_one (ps_ret pe_bl))
  pss_nil)
  (pss_one (ps_if (pt_not (pt_val (pe_cG c_L_stays hg hr (by decide) (by rfl) (pa_cons (pv 3) (pa_cons (pv 4) pa_nil)))))
  (pss_one (ps_ret pe_bl))
  pss_nil))))))))))))
  (pss_one (ps_ret pe_bl)))), ?_⟩
    refine q_asgR (er_callA (R := RBag) (ea_cons (ev_var rfl) ea_nil) (fun H1 e => ⟨a, ns, rfl, ex_l e hS0, hz0, rfl⟩) bk_bag) fun v H1 e1 ⟨B, cl, ev, nB, hb⟩ => ?_
    subst ev
    refine q_forR1 (n := 3) (ea_cons ev_c ea_nil) (by omega) (fun i σ' H' => ∃ y2 y3 y4 y5 y6 y7 y8 y9 y10 y11 y12 y13 y14 : Option V, σ' = [some (.ref a), some (.ref B), y2, y3, y4, y5, y6, y7, y8, y9, y10, y11, y12, y13, y14] ∧ BagAt H' B cl) (fun H2 e2 => ⟨_, _, _, _, _, _, _, _, _, _, _, _, _, rfl, hb.ex e2⟩) ?_ ?_
    rotate_left
    · rintro σ' H2 ⟨y2, y3, y4, y5, y6, y7, y8, y9, y10, y11, y12, y13, y14, rfl, _⟩
      exact s_ret ev_c fun H3 _ => q H3
    rintro i σ' H2 hi ⟨y2, y3, y4, y5, y6, y7, y8, y9, y10, y11, y12, y13, y14, rfl, b2⟩
    -- few
    refine qb_asg (R := fun v H1 H2 => ∃ D q, v = .ref D ∧ H1 D = none ∧ PlAt H2 D q ∧ PlOk q) (erb_callB (earb_cons (lb_v (ev_var rfl)) (earb_cons (lb_v ev_c) earb_nil)) ?_) b2 fun v H3 x3 b3 ⟨D, pl, ev, nD, hP, hO⟩ => ?_
    · rintro vs Ha Hb ea eb ⟨v, r, Hc, rfl, ec, ed, rfl, v2, r2, Hd, rfl, ee, ef, rfl, rfl⟩
      exact ⟨_, _, rfl, ⟨rfl, rfl⟩, fun v H3 e ⟨D, q, z1, z2, z3, z4⟩ => ⟨D, q, z1, fresh_back eb z2, z3, z4⟩⟩
    subst ev
    have hd := hO.kd
    -- suits, one
    refine qb_par (T := fun x y _ Hb => ∃ S r xs, x = .ref S ∧ y = .ref r ∧ Su K Hb S pl.kd ∧ Hb r = some (.lst (svs xs)) ∧ xs.length ≤ 6 ∧ ∀ z ∈ xs, z ∈ pl.ks) (earb_cons (lbB (R' := fun v _ H2 => ∃ S, v = .ref S ∧ Su K H2 S pl.kd) (er_callA (R := RSu K pl) (ea_cons (ev_var rfl) ea_nil) (fun H1 e => ⟨D, pl, rfl, hP.ex e, hO, rfl⟩) bk_su) fun v H1 H2 hb e ⟨S, z1, z2, z3⟩ => ⟨S, z1, z3.hide (hb.ex e)⟩)
      (earb_cons (R := RRow 6 pl.ks) (erb_callB (earb_cons (lb_v (ev_var rfl)) (earb_cons (lb_v (ev_var rfl)) (earb_cons (R := fun v _ _ => ∃ m : Nat, v = .int (m : Int) ∧ m ≤ 6) (erb_op (lb_l (el_lst (ea_cons ev_c (ea_cons ev_c ea_nil)) (by simp))) (erb_take (n := 2) (fun _ => ev_var rfl) (lb_v ev_c) fun v Ha Hb r => ⟨2, r, by omega, by omega, Nat.le_refl _⟩) ?_) earb_nil))) ?_) earb_nil)) b3 ?_ ?_
    · rintro x y H1 H2 H3 e1 e2 e3 ⟨p, ex, p1, p2⟩ ⟨k, hk, ey⟩
      subst ex
      subst ey
      have : k = 0 ∨ k = 1 := by omega
      rcases this with rfl | rfl
      · exact ⟨.int ((3 : Nat) : Int), fun Hf ef Q' q' => ⟨p, _, ((0 : Nat) : Int), _, rfl, rfl, SqL.of (ef _ _ (e3 _ _ p2)), rfl, q'⟩, 3, rfl, by omega⟩
      · exact ⟨.int ((6 : Nat) : Int), fun Hf ef Q' q' => ⟨p, _, ((1 : Nat) : Int), _, rfl, rfl, SqL.of (ef _ _ (e3 _ _ p2)), rfl, q'⟩, 6, rfl, by omega⟩
    · rintro vs Ha Hb ea eb ⟨v1, r1, Hc, rfl, ec, ed, rfl, v2, r2, Hd, rfl, ee, ef, rfl, v3, r3, He, rfl, eg, eh, ⟨m, rfl, hm⟩, rfl⟩
      exact ⟨_, _, rfl, ⟨D, pl, m, rfl, hP.ex (ea.trans eb), hO, by omega, rfl⟩, fun v H3 e r => rrow_mono (bk_row _ _ _ _ eb r) hm⟩
    · rintro vs Hx ex ⟨v1, r1, Hy, rfl, ey, ez, ⟨S, rfl, hSu⟩, v2, r2, Hz, rfl, eu, ew, ⟨r, xs, rfl, nr, hr, hl, hk⟩, rfl⟩
      exact ⟨_, _, rfl, S, r, xs, rfl, rfl, hSu.ex ez, ew _ _ hr, hl, hk⟩
    rintro x y H4 x4 b4 ⟨S, r1, one, rfl, rfl, hSu, hr1, hl1, hk1⟩
    -- other
    refine qb_asg (R := RRow 6 pl.ks) (erb_op (erb_lst2 (R1 := RRow 6 pl.ks) (R2 := RRow 6 pl.ks) (erb_sl6 (n := one.length + 6) (erb_callB (earb_cons (lb_v (ev_var rfl)) (earb_cons (lb_v (ev_var rfl)) (earb_cons (lb_v (ev_var rfl)) earb_nil))) ?_)) (erb_callB (earb_cons (lb_v (ev_var rfl)) (earb_cons (lb_v (ev_var rfl)) (earb_cons (lb_v ev_c) earb_nil))) ?_)) (erb_int (erb_op (erb_take (n := 4) (fun _ => ev_var rfl) (lb_v ev_c) fun v Ha Hb r => ⟨4, r, by omega, by omega, Nat.le_refl _⟩) (lb_v ev_c) ?_)) ?_) b4 fun v H5 x5 b5 ⟨r2, other, ev, n2, hr2, hl2, hk2⟩ => ?_
    · rintro vs Ha Hb ea eb ⟨v1, r1', Hc, rfl, ec, ed, rfl, v2, r2, Hd, rfl, ee, ef, rfl, v3, r3, He, rfl, eg, eh, rfl, rfl⟩
      exact ⟨_, _, rfl, ⟨D, r1, pl, one, rfl, (hP.ex x4).ex (ea.trans eb), hO, (ea.trans eb) _ _ hr1, by omega, hk1, rfl⟩, fun v H3 e r => bk_row _ _ _ _ eb r⟩
    · rintro vs Ha Hb ea eb ⟨v1, r1', Hc, rfl, ec, ed, rfl, v2, r2, Hd, rfl, ee, ef, rfl, v3, r3, He, rfl, eg, eh, rfl, rfl⟩
      exact ⟨_, _, rfl, ⟨D, pl, 6, rfl, (hP.ex x4).ex (ea.trans eb), hO, by omega, rfl⟩, fun v H3 e r => bk_row _ _ _ _ eb r⟩
    · rintro x y H1 H2 H3 e1 e2 e3 ⟨k, hk, ex⟩ ey
      have ey : y = .int 0 := ey
      subst ex
      subst ey
      exact ⟨.bl (decide (V.int (k : Int) = V.int 0)), fun Hf ef Q' q' => ⟨rfl, q'⟩, _, rfl⟩
    · rintro x y H1 H2 H3 e1 e2 e3 ⟨p, u, v, Hm, Hn, ex, em, en, eo, ⟨u1, xs1, rfl, nu, hu, lu, ku⟩, ⟨u2, xs2, rfl, nv, hv, lv, kv⟩, hp⟩ ⟨k, ey, hk⟩
      subst ex
      subst ey
      have : k = 0 ∨ k = 1 := by omega
      rcases this with rfl | rfl
      · exact ⟨.ref u1, fun Hf ef Q' q' => ⟨p, _, ((0 : Nat) : Int), _, rfl, rfl, SqL.of (ef _ _ (e3 _ _ hp)), rfl, q'⟩, u1, xs1, rfl, nu, e3 _ _ (eo _ _ (en _ _ hu)), lu, ku⟩
      · exact ⟨.ref u2, fun Hf ef Q' q' => ⟨p, _, ((1 : Nat) : Int), _, rfl, rfl, SqL.of (ef _ _ (e3 _ _ hp)), rfl, q'⟩, u2, xs2, rfl, fresh_back em nv, e3 _ _ (eo _ _ hv), lv, kv⟩
    subst ev
    have hA : RowOk pl.kd one := row_ok hl1 hk1
    have hB : RowOk pl.kd other := row_ok hl2 hk2
    have okA : ∀ x ∈ one, okS x := fun x hx => (hd.good x (hA.kinds x hx)).ok
    have okB : ∀ x ∈ other, okS x := fun x hx => (hd.good x (hB.kinds x hx)).ok
    have hP5 := (hP.ex x4).ex x5
    have hr15 := x5 _ _ hr1
    -- handed, due
    refine qb_par (T := fun x y _ Hb => ∃ hd h1 h2, x = .ref hd ∧ Hb hd = some (.lst [.ref h1, .ref h2]) ∧ Hb h1 = some (.lst (svs one)) ∧ Hb h2 = some (.lst (svs other)) ∧ DueAt 400 (searchR pl.kd one other 400) y Hb)
      (earb_cons (lbB (R' := fun v _ H2 => ∃ hd h1 h2, v = .ref hd ∧ H2 hd = some (.lst [.ref h1, .ref h2]) ∧ H2 h1 = some (.lst (svs one)) ∧ H2 h2 = some (.lst (svs other))) (er_lst2 (el_list (ev_var rfl) (SqL.of hr15)) (el_list (ev_var rfl) (SqL.of hr2))) ?_) (earb_cons (lbB (R' := fun v _ H2 => DueAt 400 (searchR pl.kd one other 400) v H2) (er_search' (lim := 400) (ev_var rfl) (ev_var rfl) (ev_var rfl) ev_c hP5 hO hA hB hr15 hr2 (by decide) (by decide)) ?_) earb_nil)) b5 ?_ ?_
    · rintro v H1 H2 hb e ⟨p, u1, u2, ev, n1, n2, h0, h1, h2⟩
      exact ⟨p, u1, u2, ev, hidB (hb.ex e) h0 (nb_rvs [u1, u2]), hidB (hb.ex e) h1 (nb_svs _), hidB (hb.ex e) h2 (nb_svs _)⟩
    · rintro v H1 H2 hb e r
      exact (DueAt.ofS r).hide (hb.ex e)
    · rintro vs Hx ex ⟨v1, q1, Hy, rfl, ey, ez, ⟨p, u1, u2, ev, h0, h1, h2⟩, v2, q2, Hz, rfl, eu, ew, hdu, rfl⟩
      exact ⟨_, _, rfl, p, u1, u2, ev, ez _ _ h0, ez _ _ h1, ez _ _ h2, hdu.ex ew⟩
    rintro x dv H6 x6 b6 ⟨hnd, h1, h2, rfl, g0, g1, g2, hdue⟩
    have C6 : LawC K pl D S r1 r2 hnd h1 h2 one other dv (hideA B H6) := ⟨hP5.ex x6, (hSu.ex x5).ex x6, x6 _ _ hr15, x6 _ _ hr2, g0, g1, g2, hdue⟩
    have sends := search_ends hA hB (lim := 400) (by decide) (by decide)
    -- some
    refine qb_asg (R := fun v _ H2 => ∃ sm k, v = .ref sm ∧ k < 60 ∧ H2 sm = some (.lst [.non, .int ((1 + k : Nat) : Int)])) (EvRB.imp (erb_lst2 (R1 := RV .non) (R2 := fun v _ _ => ∃ k : Nat, k < 60 ∧ v = .int ((1 + k : Nat) : Int)) (lb_v ev_c) (erb_op (lb_v ev_c) (erb_take (n := 60) (fun _ => ev_var rfl) (lb_v ev_c) fun v Ha Hb r => ⟨60, r, by omega, by omega, Nat.le_refl _⟩) ?_)) ?_) b6 fun v H7 x7 b7 ⟨sm0, k0, ev, hk0, hsm0⟩ => ?_
    · rintro x y Ha Hb Hc ea eb ec ex ⟨k, hk, ey⟩
      have ex : x = .int 1 := ex
      subst ex
      subst ey
      exact ⟨.int (1 + (k : Int)), fun Hf ef Q' q' => ⟨1, (k : Int), rfl, rfl, q'⟩, k, hk, by rw [Int.natCast_add]; rfl⟩
    · rintro v Ha Hb _ _ ⟨p, x, y, Hm, Hn, ev, em, en, eo, ex, ⟨k, hk, ey⟩, hp⟩
      have ex : x = .non := ex
      subst ex
      subst ey
      exact ⟨p, k, ev, hk, hp⟩
    subst ev
    have C7 := C6.ex x7
    -- if due[0] == "alike"
    refine q_cut (M := fun σ' H' => ∃ (sm : Addr) (bds : List (Option Nat)) (y10 y11 y12 y13 y14 : Option V), σ' = [some (.ref a), some (.ref B), some (.int (i : Nat)), some (.ref D), some (.ref S), some (.ref r1), some (.ref r2), some (.ref hnd), some dv, some (.ref sm), y10, y11, y12, y13, y14] ∧ BagAt H' B cl ∧ Ex (hideA B H7) (hideA B H') ∧ hideA B H' sm = some (.lst (bds.map bndV)) ∧ ∀ bd ∈ bds, 1 ≤ bd.getD 400 ∧ bd.getD 400 ≤ 400) ?_ ?_
    · have base2 : ∀ bd ∈ [none, some (1 + k0)], 1 ≤ bd.getD 400 ∧ bd.getD 400 ≤ 400 := fun bd hb => by
        have : bd = none ∨ bd = some (1 + k0) := by simpa using hb
        rcases this with rfl | rfl
        · exact ⟨by decide, by decide⟩
        · exact ⟨by show 1 ≤ 1 + k0; omega, by show 1 + k0 ≤ 400; omega⟩
      have hdu7 := C7.due
      cases hres : searchR pl.kd one other 400 with
      | alike ns =>
        rw [hres] at hdu7
        obtain ⟨t, nl, ts, rfl, d1, d2, d3⟩ := hdu7
        have o := sends.1 ns hres
        have hl := o.len
        have hl0 := List.length_pos_of_mem o.tab.st
        have hts := Paired.length d3
        refine s_when (b := true) (et_is (et_B (ev_op (ev_word rfl (hideA_ex _ _ _ _ d1)) ev_c (rv_eq rfl))) rfl) (fun _ H8 e8 => ?_) fun h => nomatch h
        have b8 := b7.ex e8
        have x8 := hideA_mono (D := B) e8
        have d1' := hideA_ex _ _ _ _ (x8 _ _ d1)
        have d2' := hideA_ex _ _ _ _ (x8 _ _ d2)
        refine s_asgL (el_catV (ev_var rfl) (hideA_ex _ _ _ _ (x8 _ _ hsm0)) (el_lst (ea_cons (ev_len (ev_what rfl d1') (SqL.of d2')) (ea_cons (ev_max2 ev_c (ev_op (ev_len (ev_what rfl d1') (SqL.of d2')) ev_c rv_I0)) ea_nil)) (by simp)) (by simp)) fun p H9 np e9 hp => ?_
        refine ⟨p, [none, some (1 + k0), some ns.length, some (max 1 (ns.length - 1))], _, _, _, _, _, rfl, b8.ex e9, x8.trans (hideA_mono e9), ?_, ?_⟩
        · refine (hids (B := B) b8.some np hp).trans ?_
          congr 2
          have e1 : ((rvs ts).length : Int) = (ns.length : Int) := by rw [List.length_map, hts]
          rw [e1]
          have e2 : (if (ns.length : Int) - 1 > 1 then (ns.length : Int) - 1 else 1) = ((max 1 (ns.length - 1) : Nat) : Int) := by
            split <;> omega
          rw [e2]
          rfl
        · intro bd hb
          have : bd = none ∨ bd = some (1 + k0) ∨ bd = some ns.length ∨ bd = some (max 1 (ns.length - 1)) := by simpa using hb
          rcases this with rfl | rfl | rfl | rfl
          · exact base2 _ (by simp)
          · exact base2 _ (by simp)
          · exact ⟨by show 1 ≤ ns.length; omega, by show ns.length ≤ 400; omega⟩
          · exact ⟨by show 1 ≤ max 1 (ns.length - 1); omega, by show max 1 (ns.length - 1) ≤ 400; omega⟩
      | apart l =>
        rw [hres] at hdu7
        obtain ⟨t, p, rfl, d1, d2⟩ := hdu7
        exact s_when (b := false) (et_is (et_B (ev_op (ev_word rfl (hideA_ex _ _ _ _ d1)) ev_c (rv_eq rfl))) (by decide)) (fun h => nomatch h) fun _ H8 e8 => ⟨sm0, [none, some (1 + k0)], _, _, _, _, _, rfl, b7.ex e8, hideA_mono e8, hideA_mono (D := B) e8 _ _ hsm0, base2⟩
      | many =>
        rw [hres] at hdu7
        obtain ⟨t, rfl, d1⟩ := hdu7
        exact s_when (b := false) (et_is (et_B (ev_op (ev_word rfl (hideA_ex _ _ _ _ d1)) ev_c (rv_eq rfl))) (by decide)) (fun h => nomatch h) fun _ H8 e8 => ⟨sm0, [none, some (1 + k0)], _, _, _, _, _, rfl, b7.ex e8, hideA_mono e8, hideA_mono (D := B) e8 _ _ hsm0, base2⟩
    rintro σ' H8 ⟨sm, bds, z10, z11, z12, z13, z14, rfl, b8, x8, hsm, hbds⟩
    have C8' := C7.ex x8
    -- for bound in some
    refine q_forLn (xs := bds.map bndV) (ev_var rfl) (SqL.of (hideA_ex _ _ _ _ hsm)) (fun _ σ' H' => ∃ y10 y11 y12 y13 y14 : Option V, σ' = [some (.ref a), some (.ref B), some (.int (i : Nat)), some (.ref D), some (.ref S), some (.ref r1), some (.ref r2), some (.ref hnd), some dv, some (.ref sm), y10, y11, y12, y13, y14] ∧ BagAt H' B cl ∧ Ex (hideA B H8) (hideA B H')) (fun H9 e9 => ⟨_, _, _, _, _, rfl, b8.ex e9, hideA_mono e9⟩) ?_ ?_ ?_
    · rintro j σ' H9 _ ⟨y10, y11, y12, y13, y14, rfl, b9, x9⟩
      exact SqL.of (hideA_ex _ _ _ _ (x9 _ _ hsm))
    · rintro j x σ' H9 hx ⟨y10, y11, y12, y13, y14, rfl, b9, x9⟩
      obtain ⟨bd, hbd, rfl⟩ : ∃ bd, bds[j]? = some bd ∧ bndV bd = x := by
        rw [List.getElem?_map] at hx
        cases hh : bds[j]? with
        | none =>
          rw [hh] at hx
          cases hx
        | some bd =>
          rw [hh] at hx
          exact ⟨bd, rfl, Option.some.inj hx⟩
      obtain ⟨hb1, hb2⟩ := hbds bd (List.mem_of_getElem? hbd)
      have C9 := (C8'.ex x9).ex (hideA_ex _ _)
      generalize hlim : bd.getD 400 = lim at hb1 hb2
      have sd := res_show hd hA hB hb1 (by omega)
      have sendsB := search_ends hA hB hb1 (show lim ≤ 1000 by omega)
      -- right
      refine q_asgR (R := fun v _ H2 => DueAt lim (searchR pl.kd one other lim) v H2) (er_if (b := bd.isNone) (et_is (et_B (ev_op (ev_var rfl) ev_c fun H5 _ Q q => ⟨rfl, q H5 (Ex.refl H5)⟩)) (bnd_non bd)) (fun h => ?_) fun h => ?_) fun rv H10 e10 hrt => ?_
      · cases bd with
        | some n => cases h
        | none =>
          have hlim : 400 = lim := hlim
          subst hlim
          exact EvR.imp (er_v (ev_var rfl)) fun v Ha Hb ea eb r => by
            have r : v = dv := r
            subst r
            exact C9.due.ex (ea.trans eb)
      · cases bd with
        | none => cases h
        | some n =>
          have hlim : n = lim := hlim
          subst hlim
          exact EvR.imp (er_search' (ev_var rfl) (ev_var rfl) (ev_var rfl) (ev_var rfl) C9.plan hO hA hB C9.one C9.two hb1 (by omega)) fun v Ha Hb ea eb r => DueAt.ofS r
      have C10 := C9.ex e10
      obtain ⟨rt, rfl, hrd⟩ := hrt.dp (K := K)
      -- found
      refine q_asgR (R := RRes lim (searchR pl.kd one other lim)) (by
        have h := er_told' (K := K) (E := C8.E0) (bd := bd) (σ := [some (.ref a), some (.ref B), some (.int (i : Nat)), some (.ref D), some (.ref S), some (.ref r1), some (.ref r2), some (.ref hnd), some dv, some (.ref sm), some (bndV bd), some (.ref rt), y12, y13, y14]) (ev_var (i := 4) rfl) (ev_ixL (K := K) (i := 0) (ev_var (i := 7) rfl) ev_c (SqL.of C10.hnd) rfl) (ev_ixL (K := K) (i := 1) (ev_var (i := 7) rfl) ev_c (SqL.of C10.hnd) rfl) (ev_var (i := 10) rfl) C10.su hd hA hB C10.p1 C10.p2 (by omega) (by omega)
        rw [hlim] at h
        exact h) fun fv H11 e11 hfd => ?_
      have C11 := C10.ex e11
      obtain ⟨ft, rfl, hfdp⟩ := (DueAt.ofT hfd).dp (K := K)
      -- if not alike
      refine q_when (b := false) (et_is (et_or (a := false) (b := false) (et_is (et_not (a := true) (et_test (er_alike' (er_v (ev_var rfl)) (er_v (ev_var rfl)) sd (fun v Ha Hb ea eb r => ⟨ft, r, dp_ex (ea.trans eb) _ _ hfdp⟩) (fun v Ha Hb ea eb r => ⟨rt, r, dp_ex (e11.trans (ea.trans eb)) _ _ hrd⟩)))) rfl) fun _ => et_hnd (ev_var rfl) (ev_var rfl) (ev_var rfl) C11 okA okB) rfl) (fun h => nomatch h) fun _ H12 e12 => ?_
      have b10 := b9.ex e10
      have b12 := (b10.ex e11).ex e12
      have C10h := (C8'.ex x9).ex (hideA_mono e10)
      -- if found[0] == "alike"
      refine q_cut (M := fun σ' H' => ∃ y13 y14 : Option V, σ' = [some (.ref a), some (.ref B), some (.int (i : Nat)), some (.ref D), some (.ref S), some (.ref r1), some (.ref r2), some (.ref hnd), some dv, some (.ref sm), some (bndV bd), some (.ref rt), some (.ref ft), y13, y14] ∧ BagAt H' B cl ∧ Ex (hideA B H12) (hideA B H')) ?_ ?_
      · cases hres : searchR pl.kd one other lim with
        | alike ns =>
          rw [hres] at hfd
          have o := sendsB.1 ns hres
          have hl := o.len
          have hl0 := List.length_pos_of_mem o.tab.st
          obtain ⟨t, nl, qs, et, f⟩ := FAl.of hfd
          cases et
          have f12 := f.ex e12
          have hql := Paired.length f.each
          refine s_when (b := true) (et_is (et_B (ev_op (ev_word rfl f12.tup) ev_c (rv_eq rfl))) rfl) (fun _ H13 e13 => ?_) fun h => nomatch h
          have b13 := b12.ex e13
          have fh := (f12.ex e13).hide b13
          refine qb_asg (R := RNat ns.length) (erb_take (n := ns.length) (fun _ => ev_var rfl) (lb_v (ev_len (ev_what rfl fh.tup) (SqL.of fh.lst))) fun v Ha Hb r => ⟨ns.length, by
            have r : v = .int ((rvs (qs.map (·.1))).length : Int) := r
            rw [r, List.length_map, List.length_map, hql], by omega, by omega, Nat.le_refl _⟩) b13 fun v H14 x14 b14 ⟨k, hk, ev⟩ => ?_
          subst ev
          have f14 := (fh.ex x14).ex (hideA_ex _ _)
          have C14 := (C10h.ex ((hideA_mono ((e11.trans e12).trans e13)).trans x14)).ex (hideA_ex _ _)
          have hlz : (rvs (qs.map (·.1))).length ≤ 400 := by rw [List.length_map, List.length_map]; omega
          refine s_forNLg (er_lstVL (x := .ref nl) (xs := (rvs (qs.map (·.1))).drop k ++ (rvs (qs.map (·.1))).take k) (ev_what rfl f14.tup) (el_cat (el_is (el_sl (ev_what rfl f14.tup) (eo_some (ev_var rfl)) eo_none (SqL.of f14.lst)) (cut_from _ _)) (el_is (el_sl (ev_what rfl f14.tup) eo_none (eo_some (ev_var rfl)) (SqL.of f14.lst)) (cut_to _ _)) (by rw [List.length_drop, List.length_take]; omega))) ?_
          rintro v H15 e15 ⟨p, l2, rfl, hp, hl2⟩
          refine ⟨p, [.ref nl, .ref l2], rfl, hp, fun _ σ' H' => ∃ y14 : Option V, σ' = [some (.ref a), some (.ref B), some (.int (i : Nat)), some (.ref D), some (.ref S), some (.ref r1), some (.ref r2), some (.ref hnd), some dv, some (.ref sm), some (bndV bd), some (.ref rt), some (.ref ft), some (.int (k : Int)), y14] ∧ Ex H15 H', ⟨_, rfl, Ex.refl _⟩, ?_, ?_, ?_⟩
          · rintro m σ' H16 _ ⟨y14, rfl, e16⟩
            exact SqL.of (e16 _ _ hp)
          · rintro m x σ' H16 hx ⟨y14, rfl, e16⟩
            have f16 := f14.ex (e15.trans e16)
            have C16 := C14.ex (e15.trans e16)
            have hnd16 : Paired (NdAt H16) (qs.map (·.1)) ns := paired_mapL (Paired.mapP f16.each fun q n h => ⟨_, _, _, h⟩)
            obtain ⟨l, ts, ms, rfl, hl1, hts, htab⟩ : ∃ l ts ms, x = .ref l ∧ H16 l = some (.lst (rvs ts)) ∧ Paired (NdAt H16) ts ms ∧ TabOk pl.kd one other ms := by
              have hm : m < 2 := (List.getElem?_eq_some_iff.mp hx).1
              have : m = 0 ∨ m = 1 := by omega
              rcases this with rfl | rfl
              · exact ⟨nl, qs.map (·.1), ns, (Option.some.inj hx).symm, f16.lst, hnd16, o.tab⟩
              · refine ⟨l2, (qs.map (·.1)).drop k ++ (qs.map (·.1)).take k, ns.drop k ++ ns.take k, (Option.some.inj hx).symm, ?_, ?_, o.tab.perm (rot_perm ns k)⟩
                · rw [e16 _ _ hl2]
                  show _ = some (HO.lst (List.map V.ref (_ ++ _)))
                  rw [List.map_append, List.map_drop, List.map_take]
                · exact paired_app (paired_drop hnd16 k) (paired_take hnd16 k)
            change tIfS _ _ _ _ _ _
            exact s_when (b := false) (et_is (et_B (ev_op (ev_of (er_callA (R := RV (.bl true)) (ea_cons (ev_var rfl) (ea_cons (ev_var rfl) (ea_cons (ev_var rfl) (ea_cons (ev_var rfl) ea_nil)))) (fun H1 e => ⟨S, r1, r2, l, pl.kd, one, other, ms, ts, rfl, C16.su.ex e, hd, hA, hB, e _ _ C16.one, e _ _ C16.two, e _ _ hl1, paired_nx hts e, htab, rfl⟩) bk_v)) ev_c fun H1 _ Q q => ⟨true, true, rfl, rfl, q H1 (Ex.refl H1)⟩)) (by decide)) (fun h => nomatch h) fun _ H17 e17 => ⟨_, rfl, e16.trans e17⟩
          · rintro σ' H16 ⟨y14, rfl, e16⟩
            exact ⟨_, _, rfl, b14.ex (e15.trans e16), ((hideA_mono e13).trans x14).trans (hideA_mono (e15.trans e16))⟩
        | apart l =>
          rw [hres] at hfd
          obtain ⟨t, p, et, n1, n2, g1, g2⟩ := hfd
          cases et
          exact s_when (b := false) (et_is (et_B (ev_op (ev_word rfl (e12 _ _ g1)) ev_c (rv_eq rfl))) (by decide)) (fun h => nomatch h) fun _ H13 e13 => ⟨_, _, rfl, b12.ex e13, hideA_mono e13⟩
        | many =>
          rw [hres] at hfd
          obtain ⟨t, et, n1, g1⟩ := hfd
          cases et
          exact s_when (b := false) (et_is (et_B (ev_op (ev_word rfl (e12 _ _ g1)) ev_c (rv_eq rfl))) (by decide)) (fun h => nomatch h) fun _ H13 e13 => ⟨_, _, rfl, b12.ex e13, hideA_mono e13⟩
      rintro σ' H13 ⟨y13', y14', rfl, b13, x13⟩
      have x1013 := (hideA_mono (D := B) (e11.trans e12)).trans x13
      have C13 := (C10h.ex x1013).ex (hideA_ex _ _)
      cases hres : searchR pl.kd one other lim with
      | alike ns =>
        rw [hres] at hfd
        have o := sendsB.1 ns hres
        have hl := o.len
        obtain ⟨t, nl, qs, et, f⟩ := FAl.of hfd
        cases et
        have f13 := (((f.ex e12).hide b12).ex x13).ex (hideA_ex _ _)
        have hql := Paired.length f.each
        refine s_spoilIf (nl := nl) (Pst := fun H1 H2 => Ex (hideP (Pcs nl (cellsOf qs)) H1) (hideP (Pcs nl (cellsOf qs)) H2)) (et_is (et_B (ev_op (ev_word rfl f13.tup) ev_c (rv_ne rfl))) (by decide)) (ev_what rfl f13.tup) (fun H1 e1 Q kk => ?_) (fun H1 H2 e1 p => et_hnd (ev_var rfl) (ev_var rfl) (ev_var rfl) ((C10h.ex (spoil_keep f.new (x1013.trans (hideA_mono e1)) p)).ex (hideA_ex _ _)) okA okB) fun H1 H2 H3 e1 p e3 => ?_
        · have f1 := f13.ex e1
          refine ⟨nl, rvs (qs.map (·.1)), qs, ns, rfl, f1.lst, by rw [List.length_map, List.length_map]; omega, .inr rfl, f1.each, f1.nd, f1.no, fun n hn => ?_, kk⟩
          have g := o.tab.good n hn
          have z1 := g.one.length_le
          have z2 := g.two.length_le
          have z3 := g.setLen hd
          have z4 := hA.len
          have z5 := hB.len
          exact ⟨by omega, by omega, by omega⟩
        · exact ⟨_, _, _, _, _, rfl, (spoil_bag f.new b10 (x1013.trans (hideA_mono e1)) p (b13.ex e1)).ex e3, ((x9.trans (hideA_mono e10)).trans (spoil_keep f.new (x1013.trans (hideA_mono e1)) p)).trans (hideA_mono e3)⟩
      | apart l =>
        rw [hres] at hfd
        have o := sendsB.2 l hres
        have hl := o.len
        obtain ⟨t, p, et, n1, n2, g1, g2⟩ := hfd
        cases et
        have hnew : ∀ x, Pcs p (cellsOf []) x → H10 x = none := by
          rintro x (rfl | hx)
          · exact n2
          · exact nomatch hx
        have g1' := hideA_ex _ _ _ _ (x13 _ _ (hidB b12 (e12 _ _ g1) (nb_tup _)))
        have g2' := hideA_ex _ _ _ _ (x13 _ _ (hidB b12 (e12 _ _ g2) (nb_svs _)))
        refine s_spoilIf (nl := p) (Pst := fun H1 H2 => Ex (hideP (Pcs p (cellsOf [])) H1) (hideP (Pcs p (cellsOf [])) H2)) (et_is (et_B (ev_op (ev_word rfl g1') ev_c (rv_ne rfl))) (by decide)) (ev_what rfl g1') (fun H1 e1 Q kk => ⟨p, svs l, [], [], rfl, e1 _ _ g2', by rw [svs_len]; omega, .inl ⟨l, rfl, rfl⟩, .nil, List.nodup_nil, (fun h => nomatch h), (fun n hn => nomatch hn), kk⟩) (fun H1 H2 e1 pp => et_hnd (ev_var rfl) (ev_var rfl) (ev_var rfl) ((C10h.ex (spoil_keep hnew (x1013.trans (hideA_mono e1)) pp)).ex (hideA_ex _ _)) okA okB) fun H1 H2 H3 e1 pp e3 => ?_
        exact ⟨_, _, _, _, _, rfl, (spoil_bag hnew b10 (x1013.trans (hideA_mono e1)) pp (b13.ex e1)).ex e3, ((x9.trans (hideA_mono e10)).trans (spoil_keep hnew (x1013.trans (hideA_mono e1)) pp)).trans (hideA_mono e3)⟩
      | many =>
        rw [hres] at hfd
        obtain ⟨t, et, n1, g1⟩ := hfd
        cases et
        have g1' := hideA_ex _ _ _ _ (x13 _ _ (hidB b12 (e12 _ _ g1) (nb_tup _)))
        exact s_when (b := false) (et_is (et_or (a := false) (b := false) (et_is (et_and (a := false) (b := true) (et_is (et_B (ev_op (ev_word rfl g1') ev_c (rv_ne rfl))) (by decide)) (fun h => nomatch h)) rfl) fun _ => et_hnd (ev_var rfl) (ev_var rfl) (ev_var rfl) C13 okA okB) rfl) (fun h => nomatch h) fun _ H14 e14 => ⟨_, _, _, _, _, rfl, b13.ex e14, ((x9.trans (hideA_mono e10)).trans x1013).trans (hideA_mono e14)⟩
    · rintro σ' H9 ⟨y10, y11, y12, y13, y14, rfl, b9, x9⟩
      have C9 := (C8'.ex x9).ex (hideA_ex _ _)
      have sdS := res_show (lim := 400) hd hB hA (by decide) (by decide)
      have sdD := res_show (lim := 400) hd hA hB (by decide) (by decide)
      refine q_when (b := false) (et_is (et_not (a := true) (et_test (er_alike' (er_toldN (ev_var rfl) (el_list (ev_var rfl) (SqL.of C9.two)) (el_list (ev_var rfl) (SqL.of C9.one)) ev_c C9.su hd hB hA) (er_search' (lim := 400) (ev_var rfl) (ev_var rfl) (ev_var rfl) ev_c C9.plan hO hB hA C9.two C9.one (by decide) (by decide)) sdS (fun v Ha Hb ea eb r => (DueAt.ofT r).dp) (fun v Ha Hb ea eb r => (DueAt.ofS r).dp)))) rfl) (fun h => nomatch h) fun _ H10 e10 => ?_
      have C10 := C9.ex e10
      obtain ⟨dt, rfl, hdt⟩ := C10.due.dp (K := K)
      refine q_when (b := false) (et_is (et_not (a := true) (et_test (er_alike' (er_toldN (ev_var rfl) (el_list (ev_var rfl) (SqL.of C10.one)) (el_list (ev_var rfl) (SqL.of C10.two)) ev_c C10.su hd hA hB) (er_v (ev_var rfl)) sdD (fun v Ha Hb ea eb r => (DueAt.ofT r).dp) (fun v Ha Hb ea eb r => ⟨dt, r, dp_ex (ea.trans eb) _ _ hdt⟩)))) rfl) (fun h => nomatch h) fun _ H11 e11 => ?_
      have C11 := C10.ex e11
      exact s_when (b := false) (et_is (et_not (a := true) (et_test (ev_of (er_callA (R := RV (.bl true)) (ea_cons (ev_var rfl) (ea_cons (ev_var rfl) ea_nil)) (fun H1 e => ⟨D, S, pl, rfl, C11.plan.ex e, hO, C11.su.ex e, rfl⟩) bk_v)))) rfl) (fun h => nomatch h) fun _ H12 e12 => ⟨_, _, _, _, _, _, _, _, _, _, _, _, _, rfl, ((b9.ex e10).ex e11).ex e12⟩
end
end K64
set_option Elab.async false
set_option linter.all false
set_option maxRecDepth 100000
set_option maxHeartbeats 4000000
/-! From the law's promise, kept where no repr is under way, to the statement's walk. -/
namespace K64
open PySem PySem.Spec PyProof.Rows L2
/-- the script, as it is laid -/
abbrev scrO (us : List Value) : Obj := { cls := .type "list", data := .seq us.toArray }
abbrev scrH (us : List Value) (is : List Int) : HO := .frz (scrO us) (.lst (is.map V.int))
section
variable {P : Program} {w : World} {K : PySem.W.Frag} {mg : Str → Option Value} {fa sa : Addr} {fd : FuncData} {x : Str} {sp : Sp} {st : Shared} {us : List Value} {is : List Int} {k : Nat}
/-- .. from a heap that tracks the script at most -/
theorem go_one {H : Hp} {mb : Str → Option Value} (hK : K.In st.heap) (hm : st.heap.Ns mainGlobals mg) (hb : st.heap.Ns builtinsNs mb) (boot : ∀ y : Str, y ≠ "__name__" → mb y = bootBuiltins y) (lim : st.heap.NoLimit) (gens : st.gens = #[])
    (hs : st.heap.get? sa = some (scrO us)) (room : Room k callerA) (F : ∀ b : Heap, K.In b → b.Ns mainGlobals mg → FnOkG P w K mg b C8.CX0 k fa fd [x] sp) (binds : ∀ (s : Shared) (u : Value), BindsTo s fd ⟨[u], []⟩ [(x, u)])
    (one : ∀ b u, H b = some u → b = sa ∧ K.lookup sa = none ∧ ∃ o l, u = .frz o (.lst l)) (hok : HOk P w H st.heap) (promise : sp [.ref sa] H (fun v _ => v = .bl true) fun _ _ _ => False) :
    codeAny (model P w) callerA (.call (.ref fa) ⟨[.ref sa], []⟩) (fun r t => r = .ok (.ret (.bool true)) ∧ OldK st.heap t.heap ∧ t.os = st.os ∧ AllBare t.gens) st := by
  have untold : ∀ b o, st.heap.get? b = some o → (∀ l n, o.data ≠ .seq l n) → H b = none := by
    intro b o e hn
    cases hH : H b with
    | none => rfl
    | some u =>
      obtain ⟨rfl, _⟩ := one b u hH
      rw [hs] at e
      exact absurd (congrArg Obj.data (Option.some.inj e).symm) (hn _ _)
  have table : ∀ b m, st.heap.Ns b m → (hidT st.heap H).Ns b m := by
    rintro b m ⟨o, es, n, e, d, r⟩
    exact ⟨o, es, n, hidT_get e (untold b o e (by rw [d]; intro _ _ z; cases z)), d, r⟩
  have inB : K.In (hidT st.heap H) := by
    intro b o e
    refine hidT_get (hK b o e) ?_
    cases hH : H b with
    | none => rfl
    | some u =>
      obtain ⟨rfl, out, _⟩ := one b u hH
      rw [out] at e
      cases e
  obtain ⟨ml, lim1, lim2⟩ := lim
  have env : Env0 P w K mg (hidT st.heap H) callerA [] st H := {
    frames := rfl
    mod := { kin := inB, glob := table _ _ hm, blt := ⟨mb, table _ _ hb, boot⟩, nolimit := ⟨ml, table _ _ lim1, lim2⟩ }
    bs := fun _ _ e => of_hidT e
    bsz := by rw [hidT_size]; exact Nat.le_refl _
    funs := trivial
    frf := fun b hb => by cases hb
    hok := hok
    bare := .of_eq gens }
  have ran := (F _ inB (table _ _ hm)).run callerA [] st H ⟨[.ref sa], []⟩ [.ref sa] [.ref sa] (fun v _ => v = .bl true) (fun _ _ _ => False) room rfl env (binds st (.ref sa)) (.cons rfl .nil) promise
  refine codeAny_mono ran ?_
  rintro (⟨u⟩ | e) t ht
  · exact ht.elim
  · cases e with
    | ret u =>
      obtain ⟨v, H', hos, hgs, un, hok', rel, ev⟩ := ht
      have ev : v = .bl true := ev
      subst ev
      have eu : u = Value.bool true := rel
      subst eu
      refine ⟨rfl, OldK.of_keep ?_, hos, hgs⟩
      intro b o e
      cases hH : H b with
      | none => exact un.keep b o e hH (fun z => by cases z) (by simp)
      | some u =>
        obtain ⟨_, _, ob, l, rfl⟩ := one b u hH
        have was := (hok b _ hH).1
        have isNow := (hok' b _ (un.frzs b ob _ hH)).1
        rw [was] at e
        cases e
        exact isNow
    | next => exact ht.elim
    | brk => exact ht.elim
    | cont => exact ht.elim
theorem go_law {mb : Str → Option Value} (hK : K.In st.heap) (hm : st.heap.Ns mainGlobals mg) (hb : st.heap.Ns builtinsNs mb) (boot : ∀ y : Str, y ≠ "__name__" → mb y = bootBuiltins y) (lim : st.heap.NoLimit) (gens : st.gens = #[])
    (hs : st.heap.get? sa = some (scrO us)) (nums : IntsAre us is) (few : is.length ≤ 63) (room : Room k callerA) (F : ∀ b : Heap, K.In b → b.Ns mainGlobals mg → FnOkG P w K mg b C8.CX0 k fa fd [x] (spLaw K)) (binds : ∀ (s : Shared) (u : Value), BindsTo s fd ⟨[u], []⟩ [(x, u)]) :
    codeAny (model P w) callerA (.call (.ref fa) ⟨[.ref sa], []⟩) (fun r t => r = .ok (.ret (.bool true)) ∧ OldK st.heap t.heap ∧ t.os = st.os ∧ AllBare t.gens) st := by
  have rel : Vals (is.map V.int) us := vals_ints nums
  have size : is.length ≤ sizeLine := Nat.le_trans few (by decide)
  cases hl : K.lookup sa with
  | none =>
    refine go_one (H := fun b => if b = sa then some (scrH us is) else none) hK hm hb boot lim gens hs room F binds ?_ ?_ ⟨sa, is, rfl, .inl (.inr ⟨scrO us, if_pos rfl⟩), by omega, fun _ => rfl⟩
    · intro b u h
      by_cases e : b = sa
      · subst e
        have h := (if_pos rfl).symm.trans h
        cases h
        exact ⟨rfl, hl, _, _, rfl⟩
      · have h := (if_neg e).symm.trans h
        cases h
    · intro b u h
      by_cases e : b = sa
      · subst e
        have h := (if_pos rfl).symm.trans h
        cases h
        refine ⟨hs, ?_, us, _, rel, hs⟩
        rw [List.length_map]
        exact size
      · have h := (if_neg e).symm.trans h
        cases h
  | some o =>
    have own := (hK sa o hl).symm.trans hs
    cases own
    refine go_one (H := fun _ => none) hK hm hb boot lim gens hs room F binds (fun _ _ h => nomatch h) (fun _ _ h => nomatch h) ⟨sa, is, rfl, .inr ⟨_, us.toArray, _, hl, rfl, rfl, rfl, ?_, by simpa using rel⟩, by omega, fun _ => rfl⟩
    rw [List.size_toArray, nums.length]
    exact size
end
theorem go_walk {l : PySem.W.OpenLaw} {q : Program} {names : List Str} {XP : (Str → Option Value) → Heap → Prop} {YP : World → Heap → Prop} {d : DefRec} {k : Nat} {x : Str} (most : l.most = some 63) (plain : d.params.defaults = []) (room : Room k callerA)
    (F : ∀ (w : World) (mg : Str → Option Value) (f : Addr) (h : Heap), YP w h → h.Ns mainGlobals mg → mg d.name = some (.ref f) → ∃ (K : PySem.W.Frag) (fd : FuncData), K.In h ∧ (∀ (s : Shared) (u : Value), BindsTo s fd ⟨[u], []⟩ [(x, u)]) ∧
      ∀ b : Heap, K.In b → b.Ns mainGlobals mg → FnOkG l.prog w K mg b C8.CX0 k f fd [x] (spLaw K)) : PySem.W.WalkO q names XP YP l.row.toRowW d [] (fun f vs => PySem.call f vs) :=
  Att.attach_call most plain fun w _ st mg mb f _ _ _ _ sa us is G Y _ _ _ named script nums few gens => by
    obtain ⟨K, fd, hK, binds, ok⟩ := F w mg f _ Y G.T.g named
    exact go_law hK G.T.g G.T.b G.T.builtins G.T.nolimit gens script nums few room ok binds
end K64
set_option Elab.async false
set_option linter.all false
set_option maxRecDepth 100000
set_option maxHeartbeats 0
/-! All together. -/
namespace K64
open PySem PySem.Spec PyProof.Rows L2
theorem all_told {w : World} {K : PySem.W.Frag} {mg : Str → Option Value} {h : Heap} {f : Addr} (X : K.In h) (G : h.Ns mainGlobals mg) (named : mg ("law" : Str) = some (.ref f)) (c : obsK K = valK) :
    ∃ fd : FuncData, (∀ (s : Shared) (u : Value), BindsTo s fd ⟨[u], []⟩ [("_law_script", u)]) ∧ ∀ b : Heap, K.In b → b.Ns mainGlobals mg → FnOkG lawK.prog w K mg b C8.CX0 7 f fd ["_law_script"] (spLaw K) := by
  have cd : He.SaysD fas fns K := congrArg (fun z : AlK => z.1) c
  have cf : fnC K (tmI K) = tmVal := congrArg (fun z : AlK => z.2.1) c
  have cx : exB K = true := congrArg (fun z : AlK => z.2.2) c
  obtain ⟨TD, TI⟩ := exB_ok cf cx
  have T := Tp.of X G cd
  obtain ⟨fd, FL⟩ := cd.def_ 49 (d := d_law) rfl
  have e := named.symm.trans T.g_law
  cases e
  have bl := FunD.bindsA (ps := ["_law_script"]) FL fun _ _ _ _ _ _ us hl => match us, hl with | [_], _ => rfl
  refine ⟨fd, fun s u => bl s [u] rfl, fun b _ _ => ?_⟩
  have c_in_order := ok_in_order (P := lawK.prog) (w := w) (base := b) T (cd.def_ 17 (d := d_in_order) rfl)
  have c_S_kinds := ok_S_kinds (P := lawK.prog) (w := w) (base := b) T (cd.def_ 20 (d := d_S_kinds) rfl)
  have c_S_mates_in := ok_S_mates_in (P := lawK.prog) (w := w) (base := b) T (cd.def_ 19 (d := d_S_mates_in) rfl) c_in_order
  have c_S_mates := ok_S_mates (P := lawK.prog) (w := w) (base := b) T (cd.def_ 23 (d := d_S_mates) rfl)
  have c_S_call := ok_S_call (P := lawK.prog) (w := w) (base := b) T (cd.def_ 26 (d := d_S_call) rfl)
  have c_read := ok_read (P := lawK.prog) (w := w) (base := b) T (cd.def_ 4 (d := d_read) rfl) c_S_call
  have c_shortened := ok_shortened (P := lawK.prog) (w := w) (base := b) T (cd.def_ 6 (d := d_shortened) rfl)
  have c_next_kinds := ok_next_kinds (P := lawK.prog) (w := w) (base := b) T (cd.def_ 7 (d := d_next_kinds) rfl) c_S_mates c_S_kinds
  have c_key_of := ok_key_of (P := lawK.prog) (w := w) (base := b) T (cd.def_ 9 (d := d_key_of) rfl)
  have c_is_kind := ok_is_kind (P := lawK.prog) (w := w) (base := b) T (cd.def_ 2 (d := d_is_kind) rfl)
  have c_are_kinds := ok_are_kinds (P := lawK.prog) (w := w) (base := b) T (cd.def_ 3 (d := d_are_kinds) rfl) c_is_kind
  have c_is_rest := ok_is_rest (P := lawK.prog) (w := w) (base := b) T (cd.def_ 10 (d := d_is_rest) rfl) c_are_kinds
  have c_is_set := ok_is_set (P := lawK.prog) (w := w) (base := b) T (cd.def_ 11 (d := d_is_set) rfl) c_are_kinds c_S_kinds
  have c_is_node := ok_is_node (P := lawK.prog) (w := w) (base := b) T (cd.def_ 12 (d := d_is_node) rfl) c_is_rest c_is_set
  have c_next_node := ok_next_node (P := lawK.prog) (w := w) (base := b) T (cd.def_ 8 (d := d_next_node) rfl) c_read c_shortened
  have c_all_partners := ok_all_partners (P := lawK.prog) (w := w) (base := b) T (cd.def_ 0 (d := d_all_partners) rfl) c_S_mates c_S_kinds
  have c_after := ok_after (P := lawK.prog) (w := w) (base := b) T (cd.def_ 1 (d := d_after) rfl) c_all_partners
  have c_gap_of := ok_gap_of (P := lawK.prog) (w := w) (base := b) T (cd.def_ 5 (d := d_gap_of) rfl) c_after
  have c_leads_well := ok_leads_well (P := lawK.prog) (w := w) (base := b) T (cd.def_ 13 (d := d_leads_well) rfl) c_gap_of c_next_kinds c_next_node c_key_of
  have c_is_table := ok_is_table (P := lawK.prog) (w := w) (base := b) T (cd.def_ 14 (d := d_is_table) rfl) c_is_node c_key_of c_gap_of c_leads_well
  have c_S_pairs := ok_S_pairs (P := lawK.prog) (w := w) (base := b) T (cd.def_ 21 (d := d_S_pairs) rfl)
  have c_S_lonely := ok_S_lonely (P := lawK.prog) (w := w) (base := b) T (cd.def_ 22 (d := d_S_lonely) rfl)
  have c_S_is_calm := ok_S_is_calm (P := lawK.prog) (w := w) (base := b) T (cd.def_ 24 (d := d_S_is_calm) rfl) c_S_mates
  have c_S_calm_sets := ok_S_calm_sets (P := lawK.prog) (w := w) (base := b) T (cd.def_ 25 (d := d_S_calm_sets) rfl) c_S_is_calm
  have c_L_fit := ok_L_fit (P := lawK.prog) (w := w) (base := b) T (cd.def_ 36 (d := d_L_fit) rfl)
  have c_L_mates := ok_L_mates (P := lawK.prog) (w := w) (base := b) T (cd.def_ 37 (d := d_L_mates) rfl) c_L_fit
  have c_L_read := ok_L_read (P := lawK.prog) (w := w) (base := b) T (cd.def_ 42 (d := d_L_read) rfl) c_L_fit
  have c_L_run := ok_L_run (P := lawK.prog) (w := w) (base := b) T (cd.def_ 39 (d := d_L_run) rfl) c_L_fit
  have c_L_after := ok_L_after (P := lawK.prog) (w := w) (base := b) T (cd.def_ 40 (d := d_L_after) rfl) c_L_run
  have c_L_gap := ok_L_gap (P := lawK.prog) (w := w) (base := b) T (cd.def_ 43 (d := d_L_gap) rfl) c_L_after
  have c_are_different := ok_are_different (P := lawK.prog) (w := w) (base := b) T (cd.def_ 16 (d := d_are_different) rfl)
  have c_L_leads := ok_L_leads (P := lawK.prog) (w := w) (base := b) T (cd.def_ 44 (d := d_L_leads) rfl) c_L_mates c_L_read
  have c_L_search := ok_L_search (P := lawK.prog) (w := w) (base := b) T (cd.def_ 45 (d := d_L_search) rfl) c_L_gap c_L_leads
  have c_S_init := ok_S_init (P := lawK.prog) (w := w) (base := b) T (cd.def_ 18 (d := d_S_init) rfl) c_are_kinds c_are_different c_in_order c_S_mates_in
  have c_L_suits := ok_L_suits (P := lawK.prog) (w := w) (base := b) T (cd.def_ 35 (d := d_L_suits) rfl) c_S_init
  have c_L_take := ok_L_take (P := lawK.prog) (w := w) (base := b) T (cd.def_ 29 (d := d_L_take) rfl)
  have c_L_bag := ok_L_bag (P := lawK.prog) (w := w) (base := b) T (cd.def_ 28 (d := d_L_bag) rfl)
  have c_L_row := ok_L_row (P := lawK.prog) (w := w) (base := b) T (cd.def_ 38 (d := d_L_row) rfl) c_L_take
  have c_L_like := ok_L_like (P := lawK.prog) (w := w) (base := b) T (cd.def_ 41 (d := d_L_like) rfl) c_L_take c_L_fit
  have c_L_places := ok_L_places (P := lawK.prog) (w := w) (base := b) T (cd.def_ 33 (d := d_L_places) rfl)
  have c_L_names := ok_L_names (P := lawK.prog) (w := w) (base := b) T (cd.def_ 31 (d := d_L_names) rfl) c_L_take
  have c_L_plan := ok_L_plan (P := lawK.prog) (w := w) (base := b) T (cd.def_ 32 (d := d_L_plan) rfl) c_L_take c_L_names
  have c_L_few := ok_L_few (P := lawK.prog) (w := w) (base := b) T (cd.def_ 34 (d := d_L_few) rfl) c_L_plan c_L_take c_L_places
  have c_L_alike := ok_L_alike (P := lawK.prog) (w := w) (base := b) T (cd.def_ 30 (d := d_L_alike) rfl)
  have c_L_spoil := ok_L_spoil (P := lawK.prog) (w := w) (base := b) T (cd.def_ 47 (d := d_L_spoil) rfl)
  obtain ⟨fC, okC, FC⟩ := ok_compare (P := lawK.prog) (w := w) (base := b) T TD (cd.def_ 15 (d := d_compare) rfl) c_gap_of c_next_kinds c_next_node c_key_of (ok_tm TD T.f_super)
  have c_L_told := ok_L_told (P := lawK.prog) (w := w) (base := b) T TD.nolim TI (cd.def_ 46 (d := d_L_told) rfl) okC FC.kp (compare_b0 FC) (compare_bK FC) T.g_compare
  obtain ⟨fR, okR, bR⟩ := ok_S_repr (P := lawK.prog) (w := w) (base := b) T (cd.def_ 27 (d := d_S_repr) rfl)
  have c_L_stays := ok_L_stays (P := lawK.prog) (w := w) (base := b) T (cd.def_ 48 (d := d_L_stays) rfl) okR bR c_L_suits c_S_lonely c_S_calm_sets c_S_kinds c_S_pairs
  exact ok_law T FL c_L_bag c_L_few c_L_suits c_L_row c_L_take c_L_like c_L_search c_L_told c_L_alike c_is_table c_L_spoil c_L_stays
end K64
open PySem PySem.W PySem.Calls PyProof.Rows
theorem PySem.Challenge.cw_suitedpairs_k64_whole_tables_walked_holds : PySem.Challenge.rw_suitedpairs_k64_whole_tables_walked.Holds := by
  w_on; o_law
  refine HandSHeadRun.head_any (r := K64.rowK) (q := view K64.rowK.prog [61]) (H := K64.hookK) (ob := K64.obK) (M := 6000) (loose := K64.looseK) (d := HandSHeadRun.topDef K64.rowK.prog 61) (kwd := []) K64.obK_eq
    (by kernel_rfl) (fun s => by kernel_rfl) K64.runK (by kernel_rfl) (by kernel_rfl) (by kernel_rfl) (by rfl) (by first | assumption | decide +kernel) (by decide +kernel) ⟨rfl, rfl, rfl, rfl, rfl, by decide +kernel⟩ ?hw ?hc
  case hw => w_witness2
  case hc =>
    refine K64.go_walk (l := K64.lawK) (k := 7) (x := "_law_script") rfl (by kernel_rfl) ⟨rfl, by decide, by decide⟩ ?_
    intro w mg fa h Y G hmg0
    obtain ⟨K, KX, c⟩ := Y
    have hmg : mg ("law" : PySem.Str) = some (.ref fa) := by
      have e : (HandSHeadRun.topDef K64.rowK.prog 61).name = ("law" : PySem.Str) := by kernel_rfl
      rw [← e]
      exact hmg0
    obtain ⟨fd, hb, hF⟩ := K64.all_told (w := w) KX G hmg c
    exact ⟨K, fd, KX, hb, hF⟩
