import PyProof.Rows.All
import Wide.All
import OpenK.AllK
import Wide.FinOn
import KE.KStateDown
import HandS.ForMost
import HandS.More
import HandS.WordsExc
import HandS.Defaults
import HandS.Codes
import HandS.Head0
import HandS.Head1
import HandS.Head2
import HandS.HeadEnd
import HandS.HeadHook1
import HandS.HeadHook2
import HandS.HeadHook4
import PySem.Challenge.RW_livenames_k08_whole_clashes
import HandS.Lambda
import HandS.IsInst
import HandS.Star
import HandS.Deep
import HandS.GenList
import HandS.WordsDict
import HandS.Conv
import HandS.NoneIn
import HandS.Style
import HandS.Small
import HandS.GenYield
import HandS.DictComp
import KE.SortKeyHeap
import HandS.MakeKwOnly
import HandS.HeadWalk
set_option Elab.async false
set_option linter.all false
set_option maxRecDepth 100000
set_option maxHeartbeats 0
namespace LP
open PySem PySem.Spec PyProof.Rows L2
def top (i : Nat) : Stmt := PySem.Challenge.pw_livenames_k08_whole_clashes.main.body.getD i (.Pass ⟨0, 0, 0, 0⟩)
def d3 : He.DefD := ⟨(("is_whole" : PySem.Str), none), ("is_whole" : PySem.Str), ("is_whole" : PySem.Str), defArgs (top 11), defBody (top 11), defScope (top 11), [], []⟩
def d4 : He.DefD := ⟨(("is_number" : PySem.Str), none), ("is_number" : PySem.Str), ("is_number" : PySem.Str), defArgs (top 12), defBody (top 12), defScope (top 12), [], []⟩
def d5 : He.DefD := ⟨(("is_name" : PySem.Str), none), ("is_name" : PySem.Str), ("is_name" : PySem.Str), defArgs (top 13), defBody (top 13), defScope (top 13), [], []⟩
def d28 : He.DefD := ⟨(("is_line" : PySem.Str), none), ("is_line" : PySem.Str), ("is_line" : PySem.Str), defArgs (top 14), defBody (top 14), defScope (top 14), [], []⟩
def d29 : He.DefD := ⟨(("each_once" : PySem.Str), none), ("each_once" : PySem.Str), ("each_once" : PySem.Str), defArgs (top 15), defBody (top 15), defScope (top 15), [], []⟩
def d30 : He.DefD := ⟨(("ordered" : PySem.Str), none), ("ordered" : PySem.Str), ("ordered" : PySem.Str), defArgs (top 16), defBody (top 16), defScope (top 16), [], []⟩
def d6 : He.DefD := ⟨(("is_tree" : PySem.Str), none), ("is_tree" : PySem.Str), ("is_tree" : PySem.Str), defArgs (top 21), defBody (top 21), defScope (top 21), [], []⟩
def d7 : He.DefD := ⟨(("are_trees" : PySem.Str), none), ("are_trees" : PySem.Str), ("are_trees" : PySem.Str), defArgs (top 22), defBody (top 22), defScope (top 22), [], []⟩
def d8 : He.DefD := ⟨(("parts_of" : PySem.Str), none), ("parts_of" : PySem.Str), ("parts_of" : PySem.Str), defArgs (top 23), defBody (top 23), defScope (top 23), [], []⟩
def d9 : He.DefD := ⟨(("deep_of" : PySem.Str), none), ("deep_of" : PySem.Str), ("deep_of" : PySem.Str), defArgs (top 24), defBody (top 24), defScope (top 24), [], []⟩
def d10 : He.DefD := ⟨(("Flat" : PySem.Str), some ("__init__" : PySem.Str)), ("__init__" : PySem.Str), ("Flat.__init__" : PySem.Str), defArgs (inClass (top 25) 0), defBody (inClass (top 25) 0), defScope (inClass (top 25) 0), [], []⟩
def d11 : He.DefD := ⟨(("Flat" : PySem.Str), some ("add" : PySem.Str)), ("add" : PySem.Str), ("Flat.add" : PySem.Str), defArgs (inClass (top 25) 1), defBody (inClass (top 25) 1), defScope (inClass (top 25) 1), [], []⟩
def d12 : He.DefD := ⟨(("Term" : PySem.Str), some ("__init__" : PySem.Str)), ("__init__" : PySem.Str), ("Term.__init__" : PySem.Str), defArgs (inClass (top 26) 0), defBody (inClass (top 26) 0), defScope (inClass (top 26) 0), [], []⟩
def d13 : He.DefD := ⟨(("Term" : PySem.Str), some ("meant" : PySem.Str)), ("meant" : PySem.Str), ("Term.meant" : PySem.Str), defArgs (inClass (top 26) 1), defBody (inClass (top 26) 1), defScope (inClass (top 26) 1), [], []⟩
def d14 : He.DefD := ⟨(("Term" : PySem.Str), some ("tree" : PySem.Str)), ("tree" : PySem.Str), ("Term.tree" : PySem.Str), defArgs (inClass (top 26) 2), defBody (inClass (top 26) 2), defScope (inClass (top 26) 2), [], []⟩
def d16 : He.DefD := ⟨(("Term" : PySem.Str), some ("binders" : PySem.Str)), ("binders" : PySem.Str), ("Term.binders" : PySem.Str), defArgs (inClass (top 26) 4), defBody (inClass (top 26) 4), defScope (inClass (top 26) 4), [], []⟩
def d17 : He.DefD := ⟨(("Term" : PySem.Str), some ("uses" : PySem.Str)), ("uses" : PySem.Str), ("Term.uses" : PySem.Str), defArgs (inClass (top 26) 5), defBody (inClass (top 26) 5), defScope (inClass (top 26) 5), [], []⟩
def d19 : He.DefD := ⟨(("Term" : PySem.Str), some ("__len__" : PySem.Str)), ("__len__" : PySem.Str), ("Term.__len__" : PySem.Str), defArgs (inClass (top 26) 7), defBody (inClass (top 26) 7), defScope (inClass (top 26) 7), [], []⟩
def d20 : He.DefD := ⟨(("Term" : PySem.Str), some ("__getitem__" : PySem.Str)), ("__getitem__" : PySem.Str), ("Term.__getitem__" : PySem.Str), defArgs (inClass (top 26) 8), defBody (inClass (top 26) 8), defScope (inClass (top 26) 8), [], []⟩
def d21 : He.DefD := ⟨(("Term" : PySem.Str), some ("__contains__" : PySem.Str)), ("__contains__" : PySem.Str), ("Term.__contains__" : PySem.Str), defArgs (inClass (top 26) 9), defBody (inClass (top 26) 9), defScope (inClass (top 26) 9), [], []⟩
def d23 : He.DefD := ⟨(("Term" : PySem.Str), some ("__eq__" : PySem.Str)), ("__eq__" : PySem.Str), ("Term.__eq__" : PySem.Str), defArgs (inClass (top 26) 11), defBody (inClass (top 26) 11), defScope (inClass (top 26) 11), [], []⟩
def d34 : He.DefD := ⟨(("look_at_term" : PySem.Str), none), ("look_at_term" : PySem.Str), ("look_at_term" : PySem.Str), defArgs (top 27), defBody (top 27), defScope (top 27), [], []⟩
def d35 : He.DefD := ⟨(("look_at_binder" : PySem.Str), none), ("look_at_binder" : PySem.Str), ("look_at_binder" : PySem.Str), defArgs (top 28), defBody (top 28), defScope (top 28), [], []⟩
def d45 : He.DefD := ⟨(("are_such_names" : PySem.Str), none), ("are_such_names" : PySem.Str), ("are_such_names" : PySem.Str), defArgs (top 30), defBody (top 30), defScope (top 30), [], []⟩
def d47 : He.DefD := ⟨(("look_at_names" : PySem.Str), none), ("look_at_names" : PySem.Str), ("look_at_names" : PySem.Str), defArgs (top 31), defBody (top 31), defScope (top 31), [], []⟩
def d50 : He.DefD := ⟨(("name_for" : PySem.Str), none), ("name_for" : PySem.Str), ("name_for" : PySem.Str), defArgs (top 32), defBody (top 32), defScope (top 32), [], []⟩
def d53 : He.DefD := ⟨(("inner" : PySem.Str), none), ("inner" : PySem.Str), ("inner" : PySem.Str), defArgs (top 33), defBody (top 33), defScope (top 33), [], []⟩
def d54 : He.DefD := ⟨(("catches_of" : PySem.Str), none), ("catches_of" : PySem.Str), ("catches_of" : PySem.Str), defArgs (top 34), defBody (top 34), defScope (top 34), [], []⟩
def d55 : He.DefD := ⟨(("is_right" : PySem.Str), none), ("is_right" : PySem.Str), ("is_right" : PySem.Str), defArgs (top 35), defBody (top 35), defScope (top 35), [], []⟩
def d57 : He.DefD := ⟨(("all_live" : PySem.Str), none), ("all_live" : PySem.Str), ("all_live" : PySem.Str), defArgs (top 37), defBody (top 37), defScope (top 37), [], []⟩
def d303 : He.DefD := ⟨(("all_live" : PySem.Str), none), ("all_live" : PySem.Str), ("all_live" : PySem.Str), defArgs (top 37), defBody (top 37), defScope (top 37), [], []⟩
def d58 : He.DefD := ⟨(("in_line" : PySem.Str), none), ("in_line" : PySem.Str), ("in_line" : PySem.Str), defArgs (top 38), defBody (top 38), defScope (top 38), [], []⟩
def d304 : He.DefD := ⟨(("in_line" : PySem.Str), none), ("in_line" : PySem.Str), ("in_line" : PySem.Str), defArgs (top 38), defBody (top 38), defScope (top 38), [], []⟩
def d59 : He.DefD := ⟨(("live_at" : PySem.Str), none), ("live_at" : PySem.Str), ("live_at" : PySem.Str), defArgs (top 39), defBody (top 39), defScope (top 39), [], []⟩
def d302 : He.DefD := ⟨(("live_at" : PySem.Str), none), ("live_at" : PySem.Str), ("live_at" : PySem.Str), defArgs (top 39), defBody (top 39), defScope (top 39), [], []⟩
def d60 : He.DefD := ⟨(("pairs_of" : PySem.Str), none), ("pairs_of" : PySem.Str), ("pairs_of" : PySem.Str), defArgs (top 40), defBody (top 40), defScope (top 40), [], []⟩
def d301 : He.DefD := ⟨(("pairs_of" : PySem.Str), none), ("pairs_of" : PySem.Str), ("pairs_of" : PySem.Str), defArgs (top 40), defBody (top 40), defScope (top 40), [], []⟩
def d61 : He.DefD := ⟨(("clashes" : PySem.Str), none), ("clashes" : PySem.Str), ("clashes" : PySem.Str), defArgs (top 41), defBody (top 41), defScope (top 41), [], []⟩
def d300 : He.DefD := ⟨(("clashes" : PySem.Str), none), ("clashes" : PySem.Str), ("clashes" : PySem.Str), defArgs (top 41), defBody (top 41), defScope (top 41), [], []⟩
def d62 : He.DefD := ⟨(("do_clash" : PySem.Str), none), ("do_clash" : PySem.Str), ("do_clash" : PySem.Str), defArgs (top 42), defBody (top 42), defScope (top 42), [], []⟩
def d63 : He.DefD := ⟨(("hurt" : PySem.Str), none), ("hurt" : PySem.Str), ("hurt" : PySem.Str), defArgs (top 43), defBody (top 43), defScope (top 43), [], []⟩
def d400 : He.DefD := ⟨(("_law_pool" : PySem.Str), none), ("_law_pool" : PySem.Str), ("_law_pool" : PySem.Str), defArgs (top 45), defBody (top 45), defScope (top 45), [], []⟩
def d401 : He.DefD := ⟨(("_law_take" : PySem.Str), none), ("_law_take" : PySem.Str), ("_law_take" : PySem.Str), defArgs (top 46), defBody (top 46), defScope (top 46), [], []⟩
def d402 : He.DefD := ⟨(("_law_one" : PySem.Str), none), ("_law_one" : PySem.Str), ("_law_one" : PySem.Str), defArgs (top 47), defBody (top 47), defScope (top 47), [], []⟩
def d403 : He.DefD := ⟨(("_law_unlike" : PySem.Str), none), ("_law_unlike" : PySem.Str), ("_law_unlike" : PySem.Str), defArgs (top 48), defBody (top 48), defScope (top 48), [], []⟩
def d404 : He.DefD := ⟨(("_law_words" : PySem.Str), none), ("_law_words" : PySem.Str), ("_law_words" : PySem.Str), defArgs (top 49), defBody (top 49), defScope (top 49), [], []⟩
def d405 : He.DefD := ⟨(("_law_leaf" : PySem.Str), none), ("_law_leaf" : PySem.Str), ("_law_leaf" : PySem.Str), defArgs (top 50), defBody (top 50), defScope (top 50), [], []⟩
def d406 : He.DefD := ⟨(("_law_grown" : PySem.Str), none), ("_law_grown" : PySem.Str), ("_law_grown" : PySem.Str), defArgs (top 51), defBody (top 51), defScope (top 51), [], []⟩
def d407 : He.DefD := ⟨(("_law_bound" : PySem.Str), none), ("_law_bound" : PySem.Str), ("_law_bound" : PySem.Str), defArgs (top 52), defBody (top 52), defScope (top 52), [], []⟩
def d408 : He.DefD := ⟨(("_law_nested" : PySem.Str), none), ("_law_nested" : PySem.Str), ("_law_nested" : PySem.Str), defArgs (top 53), defBody (top 53), defScope (top 53), [], []⟩
def d409 : He.DefD := ⟨(("_law_tree" : PySem.Str), none), ("_law_tree" : PySem.Str), ("_law_tree" : PySem.Str), defArgs (top 54), defBody (top 54), defScope (top 54), [], []⟩
def d410 : He.DefD := ⟨(("_law_below" : PySem.Str), none), ("_law_below" : PySem.Str), ("_law_below" : PySem.Str), defArgs (top 55), defBody (top 55), defScope (top 55), [], []⟩
def d411 : He.DefD := ⟨(("_law_spots" : PySem.Str), none), ("_law_spots" : PySem.Str), ("_law_spots" : PySem.Str), defArgs (top 56), defBody (top 56), defScope (top 56), [], []⟩
def d412 : He.DefD := ⟨(("_law_page" : PySem.Str), none), ("_law_page" : PySem.Str), ("_law_page" : PySem.Str), defArgs (top 57), defBody (top 57), defScope (top 57), [], []⟩
def d413 : He.DefD := ⟨(("_law_in_order" : PySem.Str), none), ("_law_in_order" : PySem.Str), ("_law_in_order" : PySem.Str), defArgs (top 58), defBody (top 58), defScope (top 58), [], []⟩
def d414 : He.DefD := ⟨(("_law_inside" : PySem.Str), none), ("_law_inside" : PySem.Str), ("_law_inside" : PySem.Str), defArgs (top 59), defBody (top 59), defScope (top 59), [], []⟩
def d415 : He.DefD := ⟨(("_law_live" : PySem.Str), none), ("_law_live" : PySem.Str), ("_law_live" : PySem.Str), defArgs (top 60), defBody (top 60), defScope (top 60), [], []⟩
def d416 : He.DefD := ⟨(("_law_all_live" : PySem.Str), none), ("_law_all_live" : PySem.Str), ("_law_all_live" : PySem.Str), defArgs (top 61), defBody (top 61), defScope (top 61), [], []⟩
def d417 : He.DefD := ⟨(("_law_named" : PySem.Str), none), ("_law_named" : PySem.Str), ("_law_named" : PySem.Str), defArgs (top 62), defBody (top 62), defScope (top 62), [], []⟩
def d418 : He.DefD := ⟨(("_law_any_naming" : PySem.Str), none), ("_law_any_naming" : PySem.Str), ("_law_any_naming" : PySem.Str), defArgs (top 63), defBody (top 63), defScope (top 63), [], []⟩
def d419 : He.DefD := ⟨(("_law_pairs" : PySem.Str), none), ("_law_pairs" : PySem.Str), ("_law_pairs" : PySem.Str), defArgs (top 64), defBody (top 64), defScope (top 64), [], []⟩
def d420 : He.DefD := ⟨(("_law_crowded" : PySem.Str), none), ("_law_crowded" : PySem.Str), ("_law_crowded" : PySem.Str), defArgs (top 65), defBody (top 65), defScope (top 65), [], []⟩
def d421 : He.DefD := ⟨(("law" : PySem.Str), none), ("law" : PySem.Str), ("law" : PySem.Str), defArgs (top 66), defBody (top 66), defScope (top 66), [], []⟩
def fn : List He.DefD := [d3, d4, d5, d28, d29, d30, d6, d7, d8, d9, d10, d11] ++ [d12, d13, d14, d16, d17, d19, d20, d21, d23, d34, d35, d45] ++ [d47, d50, d53, d54, d55, d57, d303, d58, d304, d59, d302, d60] ++ [d301, d61, d300, d62, d63, d400, d401, d402, d403, d404, d405, d406] ++ [d407, d408, d409, d410, d411, d412, d413, d414, d415, d416, d417, d418] ++ [d419, d420, d421]
def fa : List He.Fa := [.glo ("is_whole" : PySem.Str), .glo ("is_number" : PySem.Str), .glo ("is_name" : PySem.Str), .glo ("is_line" : PySem.Str), .glo ("each_once" : PySem.Str), .glo ("ordered" : PySem.Str), .glo ("is_tree" : PySem.Str), .glo ("are_trees" : PySem.Str), .glo ("parts_of" : PySem.Str), .glo ("deep_of" : PySem.Str), .glo ("look_at_term" : PySem.Str), .glo ("look_at_binder" : PySem.Str)] ++ [.glo ("are_such_names" : PySem.Str), .glo ("look_at_names" : PySem.Str), .glo ("name_for" : PySem.Str), .glo ("inner" : PySem.Str), .glo ("catches_of" : PySem.Str), .glo ("is_right" : PySem.Str), .glo ("all_live" : PySem.Str), .glo ("in_line" : PySem.Str), .glo ("live_at" : PySem.Str), .glo ("pairs_of" : PySem.Str), .glo ("clashes" : PySem.Str), .glo ("do_clash" : PySem.Str)] ++ [.glo ("hurt" : PySem.Str), .glo ("_law_pool" : PySem.Str), .glo ("_law_take" : PySem.Str), .glo ("_law_one" : PySem.Str), .glo ("_law_unlike" : PySem.Str), .glo ("_law_words" : PySem.Str), .glo ("_law_leaf" : PySem.Str), .glo ("_law_grown" : PySem.Str), .glo ("_law_bound" : PySem.Str), .glo ("_law_nested" : PySem.Str), .glo ("_law_tree" : PySem.Str), .glo ("_law_below" : PySem.Str)] ++ [.glo ("_law_spots" : PySem.Str), .glo ("_law_page" : PySem.Str), .glo ("_law_in_order" : PySem.Str), .glo ("_law_inside" : PySem.Str), .glo ("_law_live" : PySem.Str), .glo ("_law_all_live" : PySem.Str), .glo ("_law_named" : PySem.Str), .glo ("_law_any_naming" : PySem.Str), .glo ("_law_pairs" : PySem.Str), .glo ("_law_crowded" : PySem.Str), .glo ("law" : PySem.Str), .glo ("Flat" : PySem.Str)] ++ [.cls ("Flat" : PySem.Str), .mkr ("Flat" : PySem.Str), .glo ("Term" : PySem.Str), .cls ("Term" : PySem.Str), .mkr ("Term" : PySem.Str), .free ("len" : PySem.Str), .free ("list" : PySem.Str), .free ("tuple" : PySem.Str), .free ("max" : PySem.Str), .free ("min" : PySem.Str), .free ("all" : PySem.Str), .free ("int" : PySem.Str)] ++ [.free ("sorted" : PySem.Str), .free ("str" : PySem.Str), .free ("bool" : PySem.Str), .free ("isinstance" : PySem.Str), .free ("range" : PySem.Str), .free ("enumerate" : PySem.Str), .str ("LETTERS" : PySem.Str) ⟨#[97,98,99,100,101,102,103,104,105,106,107,108,109,110,111,112,113,114,115,116,117,118,119,120,121,122]⟩, .int ("MOST_LETTERS" : PySem.Str) 8, .int ("MOST_NODES" : PySem.Str) 400, .int ("MOST_BINDERS" : PySem.Str) 60, .int ("MOST_DEEP" : PySem.Str) 100, .noat ("Flat" : PySem.Str) ("around" : PySem.Str)] ++ [.noat ("Flat" : PySem.Str) ("binder_nodes" : PySem.Str), .noat ("Flat" : PySem.Str) ("nodes" : PySem.Str), .noat ("Flat" : PySem.Str) ("use_nodes" : PySem.Str), .noat ("Term" : PySem.Str) ("binder_nodes" : PySem.Str), .noat ("Term" : PySem.Str) ("own_around" : PySem.Str), .noat ("Term" : PySem.Str) ("own_meaning" : PySem.Str), .noat ("Term" : PySem.Str) ("own_names" : PySem.Str), .noat ("Term" : PySem.Str) ("own_nodes" : PySem.Str), .noat ("Term" : PySem.Str) ("own_tree" : PySem.Str), .noat ("Term" : PySem.Str) ("use_around" : PySem.Str), .noat ("Term" : PySem.Str) ("use_nodes" : PySem.Str), .meth ("Flat" : PySem.Str) ("add" : PySem.Str)] ++ [.meth ("Term" : PySem.Str) ("meant" : PySem.Str), .meth ("Term" : PySem.Str) ("tree" : PySem.Str), .meth ("Term" : PySem.Str) ("binders" : PySem.Str), .meth ("Term" : PySem.Str) ("uses" : PySem.Str), .meth ("Term" : PySem.Str) ("__len__" : PySem.Str), .meth ("Term" : PySem.Str) ("__getitem__" : PySem.Str), .meth ("Term" : PySem.Str) ("__contains__" : PySem.Str), .meth ("Term" : PySem.Str) ("__eq__" : PySem.Str)]
def tf : List He.Defn := [(("ordered" : PySem.Str), none), (("_law_in_order" : PySem.Str), none)]
def btn : List String := ["int", "bool", "str", "tuple", "list", "dict"]
def exB0 (K : PySem.W.Frag) : Bool := He.eqO (PySem.W.findIn K (.ref (He.ga K "Term")) "__class__") (some (some (.builtin "object.__class__"))) && (He.eqO (PySem.W.specialIn K (.builtin "object.__class__") "__get__") (some (some (.builtin "getset_descriptor.__get__"))) &&
  (decide (PySem.W.takesIn K (.builtin "object.__class__") = some true) && (decide (PySem.W.mroIn K (He.ga K "Term") (.type "object") = some true) && (decide (PySem.W.kitOne K (.type "NoneType") (.ref (He.ga K "Term")) = some false) &&
  ((btn.all fun b => decide (PySem.W.kitOne K (.type b) (.ref (He.ga K "Term")) = some false) && decide (PySem.W.kitOne K (.ref (He.ga K "Term")) (.type b) = some false)) && decide (PySem.W.kitOne K (.ref (He.ga K "Term")) (.ref (He.ga K "Term")) = some true))))))
def exB (K : PySem.W.Frag) : Bool := exB0 K && decide ((tf.map fun p => (He.cT K p).2).Nodup)
def nm0 : List PySem.Str := [("_wall" : PySem.Str), ("BinderError" : PySem.Str), ("NoTerm" : PySem.Str), ("NoNode" : PySem.Str), ("NoBinder" : PySem.Str), ("NoNames" : PySem.Str), ("TooMany" : PySem.Str), ("LETTERS" : PySem.Str), ("MOST_LETTERS" : PySem.Str), ("is_whole" : PySem.Str), ("is_number" : PySem.Str), ("is_name" : PySem.Str), ("is_line" : PySem.Str), ("each_once" : PySem.Str), ("ordered" : PySem.Str), ("MOST_NODES" : PySem.Str), ("MOST_BINDERS" : PySem.Str), ("MOST_DEEP" : PySem.Str), ("is_tree" : PySem.Str), ("are_trees" : PySem.Str)]
def nm1 : List PySem.Str := [("parts_of" : PySem.Str), ("deep_of" : PySem.Str), ("Flat" : PySem.Str), ("Term" : PySem.Str), ("look_at_term" : PySem.Str), ("look_at_binder" : PySem.Str), ("are_such_names" : PySem.Str), ("look_at_names" : PySem.Str), ("name_for" : PySem.Str), ("inner" : PySem.Str), ("catches_of" : PySem.Str), ("is_right" : PySem.Str), ("all_live" : PySem.Str), ("in_line" : PySem.Str), ("live_at" : PySem.Str), ("pairs_of" : PySem.Str), ("clashes" : PySem.Str), ("do_clash" : PySem.Str), ("hurt" : PySem.Str), ("_law_pool" : PySem.Str)]
def nm2 : List PySem.Str := [("_law_take" : PySem.Str), ("_law_one" : PySem.Str), ("_law_unlike" : PySem.Str), ("_law_words" : PySem.Str), ("_law_leaf" : PySem.Str), ("_law_grown" : PySem.Str), ("_law_bound" : PySem.Str), ("_law_nested" : PySem.Str), ("_law_tree" : PySem.Str), ("_law_below" : PySem.Str), ("_law_spots" : PySem.Str), ("_law_page" : PySem.Str), ("_law_in_order" : PySem.Str), ("_law_inside" : PySem.Str), ("_law_live" : PySem.Str), ("_law_all_live" : PySem.Str), ("_law_named" : PySem.Str), ("_law_any_naming" : PySem.Str), ("_law_pairs" : PySem.Str), ("_law_crowded" : PySem.Str)]
def names : List PySem.Str := nm0 ++ nm1 ++ nm2
abbrev R : PySem.W.OpenRow := PySem.W.OpenLaw.row PySem.Challenge.rw_livenames_k08_whole_clashes
abbrev hk : PySem.W.Hook := He.hookX 5 fa fn [] tf exB
def ob (s : PySem.W.SharedT) : He.AlX := He.obsX 5 fa fn [] tf exB (HandSHeadRun.getT s)
theorem ob_eq (s : PySem.W.SharedT) : ob s = hk.obs s.abs := He.obsX_eq (HandSHeadRun.getT_eq s)
theorem run (w : World) : HandSHeadRun.RunEq R (PySem.W.view R.prog [66]) hk ob 6000 names w := by
  intro os
  kernel_rfl
end LP
set_option Elab.async false
set_option linter.all false
set_option maxRecDepth 100000
set_option maxHeartbeats 1000000
namespace LN
open PySem L2

/-! ### data, stores -/
inductive D where
  | non | bl (b : Bool) | int (i : Int) | str (s : List Nat)
  | tup (xs : List D) | lst (xs : List D) | scr (xs : List D)
  | ins (c : Nat) (ks : List Nat) (xs : List D)
  | obj (i : Nat)
abbrev DK := Sum Int (List Nat)
inductive Cell where
  | lst (xs : List D)
  | ins (c : Nat) (ks : List Nat) (xs : List D)
  | dct (ks : List DK) (xs : List D)
abbrev Store := List Cell
abbrev DEnv := List (Option D)

def kC : DK → Key
  | .inl i => .inl i
  | .inr s => .inr ⟨s.toArray⟩
theorem kC_inj {a b : DK} (h : kC a = kC b) : a = b := by
  cases a <;> cases b <;> simp [kC] at h
  · rw [h]
  · rw [h]

/-- the written part, the classes' places, the fields' names -/
structure WP where
  K : PySem.W.Frag
  cls : Nat → Addr
  fnm : Nat → Str
  tbs : List (Addr × Str)

mutual
inductive Den (W : WP) (B : Hp) (μ : List Addr) : D → V → Prop
  | non : Den W B μ .non .non
  | bl (b : Bool) : Den W B μ (.bl b) (.bl b)
  | int (i : Int) : Den W B μ (.int i) (.int i)
  | str (s : List Nat) : Den W B μ (.str s) (.str ⟨s.toArray⟩)
  | tup {xs : List D} {a : Addr} {vs : List V} (h : SqT W.K B a vs) (r : DenL W B μ xs vs) : Den W B μ (.tup xs) (.ref a)
  | lst {xs : List D} {a : Addr} {vs : List V} (h : B a = some (.lst vs)) (r : DenL W B μ xs vs) : Den W B μ (.lst xs) (.ref a)
  | scr {xs : List D} {a : Addr} {vs : List V} (h : SqL W.K B a vs) (r : DenL W B μ xs vs) : Den W B μ (.scr xs) (.ref a)
  | ins {c : Nat} {ks : List Nat} {xs : List D} {a dx : Addr} {vs : List V} (h : B a = some (.ins (W.cls c) dx ((ks.map W.fnm).zip vs))) (hl : ks.length = xs.length) (r : DenL W B μ xs vs) : Den W B μ (.ins c ks xs) (.ref a)
  | obj {i : Nat} {a : Addr} (h : μ[i]? = some a) : Den W B μ (.obj i) (.ref a)
inductive DenL (W : WP) (B : Hp) (μ : List Addr) : List D → List V → Prop
  | nil : DenL W B μ [] []
  | cons {d : D} {v : V} {ds : List D} {vs : List V} (h : Den W B μ d v) (r : DenL W B μ ds vs) : DenL W B μ (d :: ds) (v :: vs)
end

def Ex (B B' : Hp) : Prop := ∀ a o, B a = some o → B' a = some o
theorem Ex.refl (B : Hp) : Ex B B := fun _ _ h => h
theorem Ex.trans {B B1 B2 : Hp} (a : Ex B B1) (b : Ex B1 B2) : Ex B B2 := fun x o h => b x o (a x o h)
theorem Ex.new {H : Hp} {p : Addr} {o : HO} (h : H p = none) : Ex H (upd H p o) := fun a u e => by
  rw [upd_ne (ne_of_none e h)]
  exact e
theorem ex_rd {H H' : Hp} {a : Addr} {u : HO} (e : Ex H H') (h : Rd H a u) : Rd H' a u := by
  rcases h with h | ⟨o, h⟩
  · exact Or.inl (e a _ h)
  · exact Or.inr ⟨o, e a _ h⟩
theorem ex_l {K : PySem.W.Frag} {H H' : Hp} {a : Addr} {xs : List V} (e : Ex H H') (h : SqL K H a xs) : SqL K H' a xs := by
  rcases h with h | h
  · exact Or.inl (ex_rd e h)
  · exact Or.inr h
theorem ex_t {K : PySem.W.Frag} {H H' : Hp} {a : Addr} {xs : List V} (e : Ex H H') (h : SqT K H a xs) : SqT K H' a xs := by
  rcases h with h | h
  · exact Or.inl (ex_rd e h)
  · exact Or.inr h

def Pre (μ μ' : List Addr) : Prop := ∃ ν, μ' = μ ++ ν
theorem Pre.refl (μ : List Addr) : Pre μ μ := ⟨[], by simp⟩
theorem Pre.trans {a b c : List Addr} (h : Pre a b) (k : Pre b c) : Pre a c := by
  obtain ⟨x, rfl⟩ := h
  obtain ⟨y, rfl⟩ := k
  exact ⟨x ++ y, by simp⟩
theorem Pre.at {μ μ' : List Addr} {i : Nat} {a : Addr} (h : Pre μ μ') (e : μ[i]? = some a) : μ'[i]? = some a := by
  obtain ⟨ν, rfl⟩ := h
  have : i < μ.length := (List.getElem?_eq_some_iff.mp e).1
  rw [List.getElem?_append_left this]
  exact e

variable {W : WP} {B B' : Hp} {μ μ' : List Addr}
mutual
theorem Den.mono (e : Ex B B') (p : Pre μ μ') : ∀ (d : D) (v : V), Den W B μ d v → Den W B' μ' d v
  | .non, _, h => by cases h; exact .non
  | .bl _, _, h => by cases h; exact .bl _
  | .int _, _, h => by cases h; exact .int _
  | .str _, _, h => by cases h; exact .str _
  | .tup xs, _, h => by cases h with | tup h r => exact .tup (ex_t e h) (DenL.mono e p xs _ r)
  | .lst xs, _, h => by cases h with | lst h r => exact .lst (e _ _ h) (DenL.mono e p xs _ r)
  | .scr xs, _, h => by cases h with | scr h r => exact .scr (ex_l e h) (DenL.mono e p xs _ r)
  | .ins _ _ xs, _, h => by cases h with | ins h hl r => exact .ins (e _ _ h) hl (DenL.mono e p xs _ r)
  | .obj _, _, h => by cases h with | obj h => exact .obj (p.at h)
theorem DenL.mono (e : Ex B B') (p : Pre μ μ') : ∀ (ds : List D) (vs : List V), DenL W B μ ds vs → DenL W B' μ' ds vs
  | [], _, h => by cases h; exact .nil
  | d :: ds, _, h => by cases h with | cons h r => exact .cons (Den.mono e p d _ h) (DenL.mono e p ds _ r)
end
theorem DenL.length : ∀ {ds : List D} {vs : List V}, DenL W B μ ds vs → ds.length = vs.length
  | [], _, h => by cases h; rfl
  | _ :: _, _, h => by cases h with | cons h r => exact congrArg Nat.succ (DenL.length r)
theorem DenL.at : ∀ {ds : List D} {vs : List V} {i : Nat} {d : D}, DenL W B μ ds vs → ds[i]? = some d → ∃ v, vs[i]? = some v ∧ Den W B μ d v
  | [], _, _, _, _, e => by simp at e
  | x :: ds, _, 0, d, h, e => by
    cases h with | cons h r => simp at e; subst e; exact ⟨_, rfl, h⟩
  | _ :: ds, _, i + 1, d, h, e => by
    cases h with | cons h r => exact DenL.at (i := i) r (by simpa using e)
theorem DenL.append : ∀ {ds es : List D} {vs ws : List V}, DenL W B μ ds vs → DenL W B μ es ws → DenL W B μ (ds ++ es) (vs ++ ws)
  | [], _, _, _, h, k => by cases h; exact k
  | _ :: _, _, _, _, h, k => by cases h with | cons h r => exact .cons h (DenL.append r k)
theorem DenL.set : ∀ {ds : List D} {vs : List V} {i : Nat} {d : D} {v : V}, DenL W B μ ds vs → Den W B μ d v → DenL W B μ (ds.set i d) (vs.set i v)
  | [], _, _, _, _, h, _ => by cases h; exact .nil
  | _ :: _, _, 0, _, _, h, k => by cases h with | cons h r => exact .cons k r
  | _ :: _, _, i + 1, _, _, h, k => by cases h with | cons h r => exact .cons h (DenL.set (i := i) r k)
theorem DenL.take : ∀ {ds : List D} {vs : List V} (n : Nat), DenL W B μ ds vs → DenL W B μ (ds.take n) (vs.take n)
  | [], _, n, h => by cases h; cases n <;> exact .nil
  | _ :: _, _, 0, h => by cases h; exact .nil
  | _ :: _, _, n + 1, h => by cases h with | cons h r => exact .cons h (DenL.take n r)
theorem DenL.drop : ∀ {ds : List D} {vs : List V} (n : Nat), DenL W B μ ds vs → DenL W B μ (ds.drop n) (vs.drop n)
  | [], _, n, h => by cases h; cases n <;> exact .nil
  | _ :: _, _, 0, h => h
  | _ :: _, _, n + 1, h => by cases h with | cons h r => exact DenL.drop n r
theorem DenL.reverse : ∀ {ds : List D} {vs : List V}, DenL W B μ ds vs → DenL W B μ ds.reverse vs.reverse
  | [], _, h => by cases h; exact .nil
  | d :: ds, _, h => by
    cases h with | cons h r => rw [List.reverse_cons, List.reverse_cons]; exact (DenL.reverse r).append (.cons h .nil)

/-! ### the store in the heap -/
def COk (W : WP) (B : Hp) (μ : List Addr) (H : Hp) (a : Addr) : Cell → Prop
  | .lst xs => ∃ vs, H a = some (.lst vs) ∧ DenL W B μ xs vs
  | .ins c ks xs => ∃ dx vs, H a = some (.ins (W.cls c) dx ((ks.map W.fnm).zip vs)) ∧ ks.length = xs.length ∧ DenL W B μ xs vs
  | .dct ks xs => ∃ vs, H a = some (.dK ((ks.map kC).zip vs)) ∧ ks.length = xs.length ∧ DenL W B μ xs vs
structure Rel (W : WP) (B : Hp) (μ : List Addr) (S : Store) (H : Hp) : Prop where
  sub : Ex B H
  len : μ.length = S.length
  nd : μ.Nodup
  cell : ∀ (i : Nat) (a : Addr) (c : Cell), μ[i]? = some a → S[i]? = some c → B a = none ∧ COk W B μ H a c
  tb : LamX.Tabs W.tbs H
  nt : ∀ a ps, B a ≠ some (.tbl ps)
theorem tabs_new {T : List (Addr × Str)} {H : Hp} {p : Addr} {o : HO} (h : LamX.Tabs T H) (hp : H p = none) : LamX.Tabs T (upd H p o) := h.ext (Ex.new hp)
/-- an object that is neither a table nor a code object -/
def plainO : HO → Prop
  | .lst _ => True
  | .ins _ _ _ => True
  | .dK _ => True
  | .frz _ _ => True
  | .tup _ => True
  | _ => False
theorem tabs_at {T : List (Addr × Str)} {H H' : Hp} (h : LamX.Tabs T H) (k : ∀ a o, H a = some o → ¬ plainO o → H' a = some o) : LamX.Tabs T H' := fun p hp => by
  obtain ⟨ps, h1, h2, h3⟩ := h p hp
  refine ⟨ps, k _ _ h1 (fun z => z), h2, fun pos cv hc => ?_⟩
  obtain ⟨c, e1, e2⟩ := h3 pos cv hc
  exact ⟨c, e1, k _ _ e2 (fun z => z)⟩
theorem tabs_write {T : List (Addr × Str)} {H : Hp} {a : Addr} {ob o : HO} (h : LamX.Tabs T H) (ha : H a = some ob) (hb : plainO ob) : LamX.Tabs T (upd H a o) := tabs_at h fun b x hx hn => by
  have ne : b ≠ a := fun q => by subst q; rw [ha] at hx; cases hx; exact hn hb
  rw [upd_ne ne]; exact hx
def NoTbl (o : HO) : Prop := ∀ ps, o ≠ .tbl ps
theorem nt_upd {B : Hp} {p : Addr} {o : HO} (h : ∀ a ps, B a ≠ some (.tbl ps)) (ho : NoTbl o) : ∀ a ps, upd B p o a ≠ some (.tbl ps) := fun a ps e => by
  by_cases q : a = p
  · subst q; rw [upd_same] at e; exact ho ps (Option.some.inj e)
  · rw [upd_ne q] at e; exact h a ps e
/-- nothing but a table may stand there -/
def Fresh (H : Hp) (a : Addr) : Prop := ∀ o, NoTbl o → H a ≠ some o
theorem fresh_of {H : Hp} {a : Addr} (h : H a = none) : Fresh H a := fun o _ e => by rw [h] at e; cases e
theorem Fresh.no {H : Hp} {a : Addr} {o : HO} (f : Fresh H a) (hn : NoTbl o) (e : H a = some o) : False := f o hn e
theorem fresh_new {H : Hp} {p a : Addr} {o : HO} (hp : H p = none) (h : Fresh (upd H p o) a) : Fresh H a := by
  by_cases q : a = p
  · subst q; exact fresh_of hp
  · intro x hn e
    exact h x hn (by rw [upd_ne q]; exact e)
theorem fresh_upd {H : Hp} {p a : Addr} {o : HO} (ho : NoTbl o) (h : Fresh (upd H p o) a) : Fresh H a := by
  by_cases q : a = p
  · subst q; exact (h o ho upd_same).elim
  · intro x hn e
    exact h x hn (by rw [upd_ne q]; exact e)
structure Step (B : Hp) (μ : List Addr) (H B' : Hp) (μ' : List Addr) (H' : Hp) : Prop where
  pre : ∃ ν, μ' = μ ++ ν ∧ ∀ a ∈ ν, Fresh H a
  grow : Ex B B'
  new : ∀ a o, B' a = some o → B a = some o ∨ Fresh H a
  frame : ∀ a o, H a = some o → a ∉ μ → NoTbl o → H' a = some o
  keep : ∀ a, Fresh H' a → Fresh H a
theorem Step.refl (B : Hp) (μ : List Addr) (H : Hp) : Step B μ H B μ H := ⟨⟨[], by simp, by simp⟩, Ex.refl _, fun _ _ h => .inl h, fun _ _ h _ _ => h, fun _ h => h⟩
theorem Step.p {H H' : Hp} (s : Step B μ H B' μ' H') : Pre μ μ' := let ⟨ν, e, _⟩ := s.pre; ⟨ν, e⟩
theorem Step.trans {B1 B2 : Hp} {μ1 μ2 : List Addr} {H H1 H2 : Hp} (s : Step B μ H B1 μ1 H1) (t : Step B1 μ1 H1 B2 μ2 H2) : Step B μ H B2 μ2 H2 := by
  have none_of := s.keep
  obtain ⟨ν, rfl, n1⟩ := s.pre
  obtain ⟨ν', rfl, n2⟩ := t.pre
  refine ⟨⟨ν ++ ν', by simp, fun a ha => ?_⟩, s.grow.trans t.grow, fun a o h => ?_, fun a o h ha hn => ?_, fun a h => s.keep a (t.keep a h)⟩
  · rcases List.mem_append.mp ha with h | h
    · exact n1 a h
    · exact none_of a (n2 a h)
  · rcases t.new a o h with h | h
    · exact s.new a o h
    · exact .inr (none_of a h)
  · have h1 := s.frame a o h ha hn
    refine t.frame a o h1 (fun hm => ?_) hn
    rcases List.mem_append.mp hm with q | q
    · exact ha q
    · exact (n1 a q).no hn h
theorem COk.mono {H : Hp} {a : Addr} {c : Cell} (e : Ex B B') (p : Pre μ μ') (h : COk W B μ H a c) : COk W B' μ' H a c := by
  cases c with
  | lst xs => obtain ⟨vs, h1, h2⟩ := h; exact ⟨vs, h1, DenL.mono e p _ _ h2⟩
  | ins c ks xs => obtain ⟨dx, vs, h1, hl, h2⟩ := h; exact ⟨dx, vs, h1, hl, DenL.mono e p _ _ h2⟩
  | dct ks xs => obtain ⟨vs, h1, hl, h2⟩ := h; exact ⟨vs, h1, hl, DenL.mono e p _ _ h2⟩
theorem COk.at {H H' : Hp} {a : Addr} {c : Cell} (k : ∀ o, plainO o → H a = some o → H' a = some o) (h : COk W B μ H a c) : COk W B μ H' a c := by
  cases c with
  | lst xs => obtain ⟨vs, h1, h2⟩ := h; exact ⟨vs, k _ trivial h1, h2⟩
  | ins c ks xs => obtain ⟨dx, vs, h1, hl, h2⟩ := h; exact ⟨dx, vs, k _ trivial h1, hl, h2⟩
  | dct ks xs => obtain ⟨vs, h1, hl, h2⟩ := h; exact ⟨vs, k _ trivial h1, hl, h2⟩
theorem COk.plain {H : Hp} {a : Addr} {c : Cell} (h : COk W B μ H a c) : ∃ o, H a = some o ∧ plainO o := by
  cases c with
  | lst xs => obtain ⟨vs, h1, h2⟩ := h; exact ⟨_, h1, trivial⟩
  | ins c ks xs => obtain ⟨dx, vs, h1, hl, h2⟩ := h; exact ⟨_, h1, trivial⟩
  | dct ks xs => obtain ⟨vs, h1, hl, h2⟩ := h; exact ⟨_, h1, trivial⟩
theorem COk.there {H : Hp} {a : Addr} {c : Cell} (h : COk W B μ H a c) : ∃ o, H a = some o := let ⟨o, e, _⟩ := h.plain; ⟨o, e⟩
theorem plain_nt {o : HO} (h : plainO o) : NoTbl o := fun ps e => by subst e; exact h
theorem Rel.mem {S : Store} {H : Hp} (r : Rel W B μ S H) {a : Addr} (h : a ∈ μ) : B a = none ∧ ∃ o, H a = some o := by
  obtain ⟨i, hi, e⟩ := List.mem_iff_getElem.mp h
  have e1 : μ[i]? = some a := by rw [List.getElem?_eq_getElem hi, e]
  have hi2 : i < S.length := by rw [← r.len]; exact hi
  obtain ⟨b, c⟩ := r.cell i a _ e1 (List.getElem?_eq_getElem hi2)
  exact ⟨b, c.there⟩
theorem Rel.memP {S : Store} {H : Hp} (r : Rel W B μ S H) {a : Addr} (h : a ∈ μ) : ∃ o, H a = some o ∧ plainO o := by
  obtain ⟨i, hi, e⟩ := List.mem_iff_getElem.mp h
  have e1 : μ[i]? = some a := by rw [List.getElem?_eq_getElem hi, e]
  have hi2 : i < S.length := by rw [← r.len]; exact hi
  exact (r.cell i a _ e1 (List.getElem?_eq_getElem hi2)).2.plain

/-- a new object of data -/
theorem Rel.data {S : Store} {H : Hp} {p : Addr} {o : HO} (r : Rel W B μ S H) (hp : H p = none) (ho : NoTbl o := by intro ps h; cases h) : Step B μ H (upd B p o) μ (upd H p o) ∧ Rel W (upd B p o) μ S (upd H p o) := by
  have hB : B p = none := by
    cases q : B p with
    | none => rfl
    | some x => rw [r.sub p x q] at hp; cases hp
  have hm : p ∉ μ := fun h => by
    obtain ⟨_, o, e⟩ := r.mem h
    rw [hp] at e; cases e
  refine ⟨⟨⟨[], by simp, by simp⟩, Ex.new hB, fun a x h => ?_, fun a x h _ _ => Ex.new hp a x h, fun a h => fresh_new hp h⟩, ⟨fun a x h => ?_, r.len, r.nd, fun i a c h1 h2 => ?_, tabs_new r.tb hp, nt_upd r.nt ho⟩⟩
  · by_cases q : a = p
    · subst q; exact .inr (fresh_of hp)
    · rw [upd_ne q] at h; exact .inl h
  · by_cases q : a = p
    · subst q; rw [upd_same] at h ⊢; exact h
    · rw [upd_ne q] at h ⊢; exact r.sub a x h
  · obtain ⟨b, c⟩ := r.cell i a c h1 h2
    have ne : a ≠ p := fun q => hm (q ▸ List.mem_of_getElem? h1)
    exact ⟨by rw [upd_ne ne]; exact b, (c.mono (Ex.new hB) (Pre.refl _)).at fun o _ h => by rw [upd_ne ne]; exact h⟩
/-- a new cell -/
theorem Rel.newc {S : Store} {H : Hp} {p : Addr} {o : HO} {c : Cell} (r : Rel W B μ S H) (hp : H p = none) (hc : COk W B (μ ++ [p]) (upd H p o) p c) : Step B μ H B (μ ++ [p]) (upd H p o) ∧ Rel W B (μ ++ [p]) (S ++ [c]) (upd H p o) := by
  have hB : B p = none := by
    cases q : B p with
    | none => rfl
    | some x => rw [r.sub p x q] at hp; cases hp
  have hm : p ∉ μ := fun h => by
    obtain ⟨_, o, e⟩ := r.mem h
    rw [hp] at e; cases e
  refine ⟨⟨⟨[p], rfl, fun a ha => by simp at ha; subst ha; exact fresh_of hp⟩, Ex.refl _, fun a x h => .inl h, fun a x h _ _ => Ex.new hp a x h, fun a h => fresh_new hp h⟩, ⟨r.sub.trans (Ex.new hp), by simp [r.len], ?_, fun i a c' h1 h2 => ?_, tabs_new r.tb hp, r.nt⟩⟩
  · rw [List.nodup_append]
    exact ⟨r.nd, by simp, fun a ha b hb => by simp at hb; subst hb; exact fun e => hm (e ▸ ha)⟩
  · by_cases hi : i < μ.length
    · rw [List.getElem?_append_left hi] at h1
      rw [List.getElem?_append_left (by rw [← r.len]; exact hi)] at h2
      obtain ⟨b, c⟩ := r.cell i a c' h1 h2
      have ne : a ≠ p := fun q => hm (q ▸ List.mem_of_getElem? h1)
      exact ⟨b, (c.mono (Ex.refl _) ⟨[p], rfl⟩).at fun o _ h => by rw [upd_ne ne]; exact h⟩
    · have e : i = μ.length := by
        have := (List.getElem?_eq_some_iff.mp h1).1
        simp at this; omega
      subst e
      rw [List.getElem?_append_right (Nat.le_refl _)] at h1
      rw [r.len, List.getElem?_append_right (Nat.le_refl _)] at h2
      simp at h1 h2
      subst h1 h2
      exact ⟨hB, hc⟩
theorem nodup_at {l : List Addr} (nd : l.Nodup) {i j : Nat} {a : Addr} (h1 : l[i]? = some a) (h2 : l[j]? = some a) : i = j := by
  obtain ⟨hi, e1⟩ := List.getElem?_eq_some_iff.mp h1
  obtain ⟨hj, e2⟩ := List.getElem?_eq_some_iff.mp h2
  exact (List.getElem_inj nd).mp (e1.trans e2.symm)
/-- a cell written -/
theorem Rel.write {S : Store} {H : Hp} {i : Nat} {a : Addr} {o : HO} {c : Cell} (r : Rel W B μ S H) (hi : μ[i]? = some a) (hc : COk W B μ (upd H a o) a c) : Step B μ H B μ (upd H a o) ∧ Rel W B μ (S.set i c) (upd H a o) := by
  obtain ⟨hB, ob, hob⟩ := r.mem (List.mem_of_getElem? hi)
  obtain ⟨ob2, hob2, hpl⟩ := r.memP (List.mem_of_getElem? hi)
  have hno : NoTbl o := by
    obtain ⟨o2, e2, p2⟩ := hc.plain
    rw [upd_same] at e2
    cases e2
    exact plain_nt p2
  refine ⟨⟨⟨[], by simp, by simp⟩, Ex.refl _, fun a x h => .inl h, fun b x h hb _ => ?_, fun b h => fresh_upd hno h⟩, ⟨fun b x h => ?_, by simp [r.len], r.nd, fun j b c' h1 h2 => ?_, tabs_write r.tb hob2 hpl, r.nt⟩⟩
  · have ne : b ≠ a := fun q => hb (q ▸ List.mem_of_getElem? hi)
    rw [upd_ne ne]; exact h
  · have ne : b ≠ a := fun q => by subst q; rw [hB] at h; cases h
    rw [upd_ne ne]; exact r.sub b x h
  · by_cases e : j = i
    · subst e
      rw [hi] at h1; cases h1
      have hj : j < S.length := by rw [← r.len]; exact (List.getElem?_eq_some_iff.mp hi).1
      rw [List.getElem?_set_self hj] at h2
      cases h2
      exact ⟨hB, hc⟩
    · rw [List.getElem?_set_ne (Ne.symm e)] at h2
      obtain ⟨b1, b2⟩ := r.cell j b c' h1 h2
      have ne : b ≠ a := fun q => e (nodup_at r.nd (q ▸ h1) hi)
      exact ⟨b1, b2.at fun o _ h => by rw [upd_ne ne]; exact h⟩

/-! ### the names' values -/
def EnvOk (W : WP) (B : Hp) (μ : List Addr) (env : DEnv) (σ : L2.St) : Prop := env.length = σ.length ∧ ∀ (i : Nat) (d : D), env[i]? = some (some d) → ∃ v : V, σ[i]? = some (some v) ∧ Den W B μ d v
theorem EnvOk.mono {env : DEnv} {σ : L2.St} (e : Ex B B') (p : Pre μ μ') (h : EnvOk W B μ env σ) : EnvOk W B' μ' env σ := ⟨h.1, fun i d q => let ⟨v, a, b⟩ := h.2 i d q; ⟨v, a, Den.mono e p _ _ b⟩⟩
theorem EnvOk.step {env : DEnv} {σ : L2.St} {H H' : Hp} (s : Step B μ H B' μ' H') (h : EnvOk W B μ env σ) : EnvOk W B' μ' env σ := h.mono s.grow s.p
theorem EnvOk.set {env : DEnv} {σ : L2.St} {i : Nat} {d : D} {v : V} (h : EnvOk W B μ env σ) (q : Den W B μ d v) : EnvOk W B μ (env.set i (some d)) (σ.set i (some v)) := by
  refine ⟨by simp [h.1], fun j e hj => ?_⟩
  by_cases ej : j = i
  · subst ej
    have hl : j < env.length := by
      have := (List.getElem?_eq_some_iff.mp hj).1
      simpa using this
    rw [List.getElem?_set_self hl] at hj
    cases hj
    exact ⟨v, by rw [List.getElem?_set_self (by rw [← h.1]; exact hl)], q⟩
  · rw [List.getElem?_set_ne (Ne.symm ej)] at hj
    obtain ⟨w, a, b⟩ := h.2 j e hj
    exact ⟨w, by rw [List.getElem?_set_ne (Ne.symm ej)]; exact a, b⟩
def wipeD (env : DEnv) : List Nat → DEnv
  | [] => env
  | v :: vs => (wipeD env vs).set v none
theorem EnvOk.wipe {env : DEnv} {σ : L2.St} (h : EnvOk W B μ env σ) : ∀ vs : List Nat, EnvOk W B μ (wipeD env vs) (wipe σ vs)
  | [] => h
  | v :: vs => by
    have ih := EnvOk.wipe h vs
    unfold wipeD L2.wipe
    refine ⟨by simp [ih.1], fun j e hj => ?_⟩
    by_cases ej : j = v
    · subst ej
      by_cases hl : j < (wipeD env vs).length
      · rw [List.getElem?_set_self hl] at hj; cases hj
      · rw [List.getElem?_eq_none (by simpa using hl)] at hj; cases hj
    · rw [List.getElem?_set_ne (Ne.symm ej)] at hj
      obtain ⟨w, a, b⟩ := ih.2 j e hj
      exact ⟨w, by rw [List.getElem?_set_ne (Ne.symm ej)]; exact a, b⟩
end LN

set_option Elab.async false
set_option linter.all false
set_option maxRecDepth 100000
set_option maxHeartbeats 1000000
namespace LN
open PySem L2

/-! ### data without cells; as the library's data -/
mutual
def pureD : D → Bool
  | .tup xs => pureL xs
  | .lst xs => pureL xs
  | .scr xs => pureL xs
  | .ins _ _ xs => pureL xs
  | .obj _ => false
  | _ => true
  termination_by structural d => d
def pureL : List D → Bool
  | [] => true
  | d :: ds => pureD d && pureL ds
  termination_by structural ds => ds
end
mutual
def frzW (g : Nat → Option D) : D → Option D
  | .tup xs => match frzL g xs with
    | some ys => some (.tup ys)
    | none => none
  | .lst xs => match frzL g xs with
    | some ys => some (.lst ys)
    | none => none
  | .scr xs => match frzL g xs with
    | some ys => some (.scr ys)
    | none => none
  | .ins c ks xs => match frzL g xs with
    | some ys => some (.ins c ks ys)
    | none => none
  | .obj i => g i
  | .non => some .non
  | .bl b => some (.bl b)
  | .int i => some (.int i)
  | .str s => some (.str s)
  termination_by structural d => d
def frzL (g : Nat → Option D) : List D → Option (List D)
  | [] => some []
  | d :: ds => match frzW g d, frzL g ds with
    | some e, some es => some (e :: es)
    | _, _ => none
  termination_by structural ds => ds
end
def frzC (S : Store) (m : Nat) : Nat → Nat → Option D
  | 0, _ => none
  | n + 1, i => if i < m then none else match S[i]? with
    | some (.lst xs) => match frzL (frzC S m n) xs with
      | some ys => some (.lst ys)
      | none => none
    | some (.ins c ks xs) => match frzL (frzC S m n) xs with
      | some ys => some (.ins c ks ys)
      | none => none
    | _ => none
def frz (m : Nat) (S : Store) (d : D) : Option D := frzW (frzC S m 6) d
mutual
def pyD : D → Option PyData
  | .non => some .none
  | .bl b => some (.bool b)
  | .int i => some (.int i)
  | .str s => some (.str ⟨s.toArray⟩)
  | .tup xs => match pyL xs with
    | some ys => some (.tuple ys)
    | none => none
  | .lst xs => match pyL xs with
    | some ys => some (.list ys)
    | none => none
  | .scr xs => match pyL xs with
    | some ys => some (.list ys)
    | none => none
  | .ins _ _ _ => none
  | .obj _ => none
  termination_by structural d => d
def pyL : List D → Option (List PyData)
  | [] => some []
  | d :: ds => match pyD d, pyL ds with
    | some e, some es => some (e :: es)
    | _, _ => none
  termination_by structural ds => ds
end
/-- the same, a cell that is a list read through -/
def pyS (S : Store) : D → Option PyData
  | .obj i => match S[i]? with
    | some (.lst xs) => match pyL xs with
      | some ys => some (.list ys)
      | none => none
    | _ => none
  | d => pyD d
def seqD (S : Store) : D → Option (List D)
  | .tup xs => some xs
  | .lst xs => some xs
  | .scr xs => some xs
  | .obj i => match S[i]? with
    | some (.lst xs) => some xs
    | _ => none
  | _ => none
def isTup : D → Bool
  | .tup _ => true
  | _ => false
/-- a list that may be read and joined: not the script -/
def lstD (S : Store) : D → Option (List D)
  | .lst xs => some xs
  | .obj i => match S[i]? with
    | some (.lst xs) => some xs
    | _ => none
  | _ => none
def clsD (S : Store) : D → Option Nat
  | .ins c _ _ => some c
  | .obj i => match S[i]? with
    | some (.ins c _ _) => some c
    | _ => none
  | _ => none
def fldL : List Nat → List D → Nat → Option D
  | k :: ks, x :: xs, f => if k = f then some x else fldL ks xs f
  | _, _, _ => none
def fldD (S : Store) (f : Nat) : D → Option D
  | .ins _ ks xs => fldL ks xs f
  | .obj i => match S[i]? with
    | some (.ins _ ks xs) => fldL ks xs f
    | _ => none
  | _ => none
def setFL : List Nat → List D → Nat → D → List Nat × List D
  | k :: ks, x :: xs, f, y => if k = f then (k :: ks, y :: xs) else let r := setFL ks xs f y; (k :: r.1, x :: r.2)
  | _, _, f, y => ([f], [y])
def keyD : D → Option DK
  | .int i => some (.inl i)
  | .str s => some (.inr s)
  | _ => none
def dkD : DK → D
  | .inl i => .int i
  | .inr s => .str s
def getK : List DK → List D → DK → Option D
  | k :: ks, x :: xs, j => if k = j then some x else getK ks xs j
  | _, _, _ => none
def mapK : List DK → List D → DK → D → List D
  | k :: ks, x :: xs, j, y => (if k = j then y else x) :: mapK ks xs j y
  | _, _, _, _ => []
def hasK : List DK → DK → Bool
  | [], _ => false
  | k :: ks, j => if k = j then true else hasK ks j
def putK2 (ks : List DK) (xs : List D) (j : DK) (y : D) : List DK × List D := if hasK ks j then (ks, mapK ks xs j y) else (ks ++ [j], xs ++ [y])

def mergeD : List DK → List D → List DK × List D → List DK × List D
  | k :: ks, x :: xs, r => mergeD ks xs (putK2 r.1 r.2 k x)
  | _, _, r => r
def emptyD : Option Cell → Bool
  | some (.dct [] []) => true
  | _ => false
/-! ### operations -/
inductive P2 where
  | add | sub | mul | fdiv | mod | pow
  | eq | ne | lt | le | gt | ge | isN | notN | isB | notB | inn | notin
  | idx
inductive BTy where
  | int | bool | str | tup | lst | dct
def BTy.nm : BTy → String
  | .int => "int"
  | .bool => "bool"
  | .str => "str"
  | .tup => "tuple"
  | .lst => "list"
  | .dct => "dict"
inductive TyS where
  | bt (n : BTy)
  | cls (c : Nat)
/-- a value's kind -/
inductive Tag where
  | non | bl | b (t : BTy) | ins (c : Nat)
inductive PB where
  | len | list | tuple | max | min | sum | all | any | int | abs | sorted | sortLN | str
inductive PM where
  | append | extend | pop | popAt | index | join

def szOk (n : Nat) : Bool := decide (n ≤ 100000)
def cmulB (i j : Int) : Bool := decide (-(2 ^ 64) < i ∧ i < 2 ^ 64) || decide (-(2 ^ 64) < j ∧ j < 2 ^ 64)
def ixD (xs : List D) (i : Int) : Option D := if 0 ≤ i then xs[i.toNat]? else if -(xs.length : Int) ≤ i then xs[(i + xs.length).toNat]? else none
def ixC (xs : List Nat) (i : Int) : Option Nat := if 0 ≤ i then xs[i.toNat]? else if -(xs.length : Int) ≤ i then xs[(i + xs.length).toNat]? else none
def shp (d : PyData) : Bool := SeqAt.shaped d
def isNone : D → Bool
  | .non => true
  | _ => false
def eqS (S : Store) (a b : D) : Option Bool := match pyS S a, pyS S b with
  | some x, some y => if shp x && shp y then some (PyData.eqv x y) else none
  | _, _ => none
def flatD : D → Bool
  | .non => true
  | .bl _ => true
  | .int _ => true
  | .str _ => true
  | _ => false
def flV : D → V
  | .bl b => .bl b
  | .int i => .int i
  | .str s => .str ⟨s.toArray⟩
  | _ => .non
def inS (S : Store) (a b : D) : Option Bool := match b with
  | .str t => match a with
    | .str [c] => some (t.contains c)
    | _ => none
  | .tup xs => if flatD a && xs.all flatD then some (inV (flV a) (xs.map flV)) else none
  | b => match pyS S a, pyS S b with
    | some x, some (.list ys) => if shp x && shp (.list ys) then some (ys.any fun z => PyData.eqv z x) else none
    | _, _ => match b, keyD a with
      | .obj i, some k => match S[i]? with
        | some (.dct ks xs) => some (getK ks xs k).isSome
        | _ => none
      | _, _ => none
def p2 (p : P2) (a b : D) (S : Store) : Option D := match p with
  | .add => match a, b with
    | .int i, .int j => some (.int (i + j))
    | .str s, .str t => if szOk (s.length + t.length) then some (.str (s ++ t)) else none
    | a, b => match lstD S a, lstD S b with
      | some xs, some ys => if szOk (xs.length + ys.length) then some (.lst (xs ++ ys)) else none
      | _, _ => none
  | .sub => match a, b with
    | .int i, .int j => some (.int (i - j))
    | _, _ => none
  | .mul => match a, b with
    | .int i, .int j => if cmulB i j then some (.int (i * j)) else none
    | _, _ => none
  | .fdiv => match a, b with
    | .int i, .int j => if 0 < j ∧ j < 1073741824 then some (.int (i / j)) else none
    | _, _ => none
  | .mod => match a, b with
    | .int i, .int j => if 0 < j then some (.int (i % j)) else none
    | _, _ => none
  | .pow => match a, b with
    | .int i, .int j => if 0 ≤ j ∧ j ≤ 1000 ∧ i.natAbs < 2 ^ 64 then some (.int (i ^ j.toNat)) else none
    | _, _ => none
  | .eq => (eqS S a b).map .bl
  | .ne => (eqS S a b).map fun k => .bl (!k)
  | .lt => match a, b with
    | .int i, .int j => some (.bl (decide (i < j)))
    | _, _ => none
  | .le => match a, b with
    | .int i, .int j => some (.bl (decide (i ≤ j)))
    | _, _ => none
  | .gt => match a, b with
    | .int i, .int j => some (.bl (decide (j < i)))
    | _, _ => none
  | .ge => match a, b with
    | .int i, .int j => some (.bl (decide (j ≤ i)))
    | _, _ => none
  | .isN => match b with
    | .non => some (.bl (isNone a))
    | _ => none
  | .notN => match b with
    | .non => some (.bl (!isNone a))
    | _ => none
  | .isB => match a, b with
    | .bl x, .bl y => some (.bl (decide (x = y)))
    | _, _ => none
  | .notB => match a, b with
    | .bl x, .bl y => some (.bl (!decide (x = y)))
    | _, _ => none
  | .inn => (inS S a b).map .bl
  | .notin => (inS S a b).map fun k => .bl (!k)
  | .idx => match b with
    | .int i => match a with
      | .str s => if szOk s.length then (ixC s i).map fun c => .str [c] else none
      | a => match seqD S a with
        | some xs => ixD xs i
        | none => none
    | _ => none

def intsD : List D → Option (List Int)
  | [] => some []
  | .int i :: ds => (intsD ds).map (i :: ·)
  | _ => none
def blsD : List D → Option (List Bool)
  | [] => some []
  | .bl b :: ds => (blsD ds).map (b :: ·)
  | _ => none
def strsD : List D → Option (List (List Nat))
  | [] => some []
  | .str s :: ds => (strsD ds).map (s :: ·)
  | _ => none
def maxI : List Int → Int
  | [] => 0
  | [i] => i
  | i :: is => let m := maxI is; if m < i then i else m
def minI : List Int → Int
  | [] => 0
  | [i] => i
  | i :: is => let m := minI is; if i < m then i else m
def insI (i : Int) : List Int → List Int
  | [] => [i]
  | j :: js => if i ≤ j then i :: j :: js else j :: insI i js
def sortI : List Int → List Int
  | [] => []
  | i :: is => insI i (sortI is)
def lexN : List Nat → List Nat → Bool
  | [], _ => true
  | _ :: _, [] => false
  | a :: as, b :: bs => if a < b then true else if a = b then lexN as bs else false
def leLN (a b : List Nat) : Bool := if a.length < b.length then true else if a.length = b.length then lexN a b else false
def insLN (i : List Nat) : List (List Nat) → List (List Nat)
  | [] => [i]
  | j :: js => if leLN i j then i :: j :: js else j :: insLN i js
def sortLN : List (List Nat) → List (List Nat)
  | [] => []
  | i :: is => insLN i (sortLN is)
/-- the second: a new list (or tuple) of these items, none: the value -/
inductive NV where
  | v (d : D) | l (xs : List D) | t (xs : List D)
def pb (p : PB) (as : List D) (S : Store) : Option NV := match p, as with
  | .len, [.str s] => if szOk s.length then some (.v (.int s.length)) else none
  | .len, [a] => match seqD S a with
    | some xs => some (.v (.int xs.length))
    | none => match a with
      | .obj i => match S[i]? with
        | some (.dct ks _) => some (.v (.int ks.length))
        | _ => none
      | _ => none
  | .list, [a] => match seqD S a with
    | some xs => some (.l xs)
    | none => match a with
      | .obj i => match S[i]? with
        | some (.dct ks _) => some (.l (ks.map dkD))
        | _ => none
      | _ => none
  | .tuple, [.tup xs] => some (.v (.tup xs))
  | .tuple, [a] => match seqD S a with
    | some xs => some (.t xs)
    | none => none
  | .max, [.int i, .int j] => some (.v (.int (if j > i then j else i)))
  | .min, [.int i, .int j] => some (.v (.int (if j < i then j else i)))
  | .max, [a] => match lstD S a with
    | some (x :: xs) => (intsD (x :: xs)).map fun is => .v (.int (maxI is))
    | _ => none
  | .min, [a] => match lstD S a with
    | some (x :: xs) => (intsD (x :: xs)).map fun is => .v (.int (minI is))
    | _ => none
  | .sum, [a] => match lstD S a with
    | some xs => (intsD xs).map fun is => .v (.int is.sum)
    | none => none
  | .all, [a] => match lstD S a with
    | some xs => (blsD xs).map fun bs => .v (.bl (bs.all id))
    | none => none
  | .any, [a] => match lstD S a with
    | some xs => (blsD xs).map fun bs => .v (.bl (bs.any id))
    | none => none
  | .int, [.int i] => some (.v (.int i))
  | .int, [.bl b] => some (.v (.int (if b then 1 else 0)))
  | .abs, [.int i] => some (.v (.int (if i < 0 then -i else i)))
  | .sorted, [a] => match lstD S a with
    | some xs => if xs.length < 64 then (intsD xs).map fun is => .l ((sortI is).map .int) else none
    | none => none
  | .sortLN, [a] => match lstD S a with
    | some xs => if szOk xs.length then match strsD xs with
      | some ss => if ss.all (fun s => szOk s.length) then some (.l ((sortLN ss).map .str)) else none
      | none => none
      else none
    | none => none
  | _, _ => none

/-- a built-in method: what it returns, the cell written -/
def pm (p : PM) (a : D) (as : List D) (S : Store) : Option (D × Store) := match p, a, as with
  | .append, .obj i, [y] => match S[i]? with
    | some (.lst xs) => if xs.length < 100000 then some (.non, S.set i (.lst (xs ++ [y]))) else none
    | _ => none
  | .extend, .obj i, [b] => match S[i]?, lstD S b with
    | some (.lst xs), some ys => if szOk (xs.length + ys.length) then some (.non, S.set i (.lst (xs ++ ys))) else none
    | _, _ => none
  | .pop, .obj i, [] => match S[i]? with
    | some (.lst xs) => match xs[xs.length - 1]? with
      | some y => some (y, S.set i (.lst xs.dropLast))
      | none => none
    | _ => none
  | .popAt, .obj i, [.int k] => match S[i]? with
    | some (.lst xs) => if 0 ≤ k ∧ k < xs.length ∧ xs.length < 2 ^ 62 then match xs[k.toNat]? with
      | some y => some (y, S.set i (.lst (xs.eraseIdx k.toNat)))
      | none => none
      else none
    | _ => none
  | .index, a, [b] => match pyS S a, pyS S b with
    | some (.list ps), some x => if shp (.list ps) && shp x then match ps.findIdx? (fun z => PyData.eqv z x) with
        | some j => some (.int j, S)
        | none => none
      else none
    | _, _ => none
  | _, _, _ => none

/-! ### the program -/
inductive Tg where
  | nm (i : Nat)
  | tup (ts : List Tg)
inductive DK2 where
  | tup | lst | cell
inductive IE where
  | var (i : Nat)
  | con (d : D)
  | p2 (p : P2) (a b : IE)
  | neg (a : IE)
  | chain (p q : P2) (a b c : IE)
  | and (a b : IE)
  | or (a b : IE)
  | not (a : IE)
  | ite (c a b : IE)
  | pb (p : PB) (cell : Bool) (as : List IE)
  | pm (p : PM) (a : IE) (as : List IE)
  | isi (ts : List TyS) (a : IE)
  | call (f : Nat) (as : List IE)
  | meth (m : Nat) (a : IE) (as : List IE)
  | make (c f : Nat) (fz : Bool) (as : List IE)
  | attr (f : Nat) (a : IE)
  | disp (k : DK2) (st : List Bool) (as : List IE)
  | slice (a : IE) (lo hi : Option IE) (cell : Bool)
  | dict (as : List IE)
  | dget (a b : IE)
  | dd (ks : List DK) (as : List IE)
  | lc (cell : Bool) (vs : List Nat) (tg : Tg) (k : Nat) (it : List IE) (cd : Option IE) (e : IE)
  | lcd (cell : Bool) (vs : List Nat) (tg : Tg) (it : IE) (cd : Option IE) (e : IE)
  | dc (vs : List Nat) (tg : Tg) (k : Nat) (it : List IE) (cd : Option IE) (kx vx : IE)
inductive IS where
  | asg (t : Tg) (e : IE)
  | par (is : List Nat) (es : List IE)
  | aug (i : Nat) (p : P2) (e : IE)
  | setF (o : IE) (f : Nat) (e : IE)
  | setI (o i e : IE)
  | asI2 (v : Nat) (k1 k2 : DK) (e1 e2 : IE)
  | drop (e : IE)
  | ite (c : IE) (a b : List IS)
  | for (tg : Tg) (k : Nat) (it : List IE) (b : List IS)
  | whl (c : IE) (b : List IS)
  | ret (e : IE)
  | brk | cnt | pass | nev
end LN

set_option Elab.async false
set_option linter.all false
set_option maxRecDepth 100000
set_option maxHeartbeats 1000000
namespace LN
open PySem L2

abbrev Spc := List D → Store → Option (D × Store)
structure Tab where
  ck : Nat → Bool
  fl : Nat → Nat → Bool
  ic : Nat → Bool
  fn : Nat → Spc
  mt : Nat → Nat → Option Nat
inductive O where
  | nx (env : DEnv) (S : Store)
  | rt (d : D) (S : Store)
  | br (env : DEnv) (S : Store)
  | ct (env : DEnv) (S : Store)
inductive Src where
  | items (xs : List D)
  | cell (i : Nat)

mutual
def setT (S : Store) : Tg → D → DEnv → Option DEnv
  | .nm i, d, env => some (env.set i (some d))
  | .tup ts, d, env => match seqD S d with
    | some xs => setTs S ts xs env
    | none => none
  termination_by structural t => t
def setTs (S : Store) : List Tg → List D → DEnv → Option DEnv
  | [], [], env => some env
  | t :: ts, d :: ds, env => match setT S t d env with
    | some env1 => setTs S ts ds env1
    | none => none
  | _, _, _ => none
  termination_by structural ts => ts
end
def rngD (a : Int) : Nat → List D
  | 0 => []
  | n + 1 => .int a :: rngD (a + 1) n
def enumD (i : Int) : List D → List D
  | [] => []
  | x :: xs => .tup [.int i, x] :: enumD (i + 1) xs
def zipD : List D → List D → List D
  | x :: xs, y :: ys => .tup [x, y] :: zipD xs ys
  | _, _ => []
/-- what is walked: 0 any sequence, 1 range, 2 enumerate, 3 zip -/
def srcD (k : Nat) (ds : List D) (S : Store) : Option Src := match k, ds with
  | 0, [.tup xs] => some (.items xs)
  | 0, [.lst xs] => some (.items xs)
  | 0, [.scr xs] => some (.items xs)
  | 0, [.str s] => if szOk s.length then some (.items (s.map fun c => .str [c])) else none
  | 0, [.obj i] => match S[i]? with
    | some (.lst _) => some (.cell i)
    | _ => none
  | 1, [.int j] => if -100000 ≤ j ∧ j ≤ 100000 then some (.items (rngD 0 j.toNat)) else none
  | 1, [.int i, .int j] => if -100000 ≤ i ∧ i ≤ 100000 ∧ -100000 ≤ j ∧ j ≤ 100000 then some (.items (rngD i (j - i).toNat)) else none
  | 2, [.lst xs] => some (.items (enumD 0 xs))
  | 3, [.lst xs, .lst ys] => some (.items (zipD xs ys))
  | _, _ => none
/-- a comprehension's turns -/
def lcL (stp : D → Store → Option (Option D × Store)) : List D → Store → Option (List D × Store)
  | [], S => some ([], S)
  | x :: xs, S => match stp x S with
    | some (some y, S1) => match lcL stp xs S1 with
      | some (ys, S2) => some (y :: ys, S2)
      | none => none
    | some (none, S1) => lcL stp xs S1
    | none => none
def lcC (stp : D → Store → Option (Option D × Store)) (i : Nat) : Nat → Nat → Store → Option (List D × Store)
  | 0, _, _ => none
  | n + 1, k, S => match S[i]? with
    | some (.lst xs) => match xs[k]? with
      | none => some ([], S)
      | some x => match stp x S with
        | some (some y, S1) => match lcC stp i n (k + 1) S1 with
          | some (ys, S2) => some (y :: ys, S2)
          | none => none
        | some (none, S1) => lcC stp i n (k + 1) S1
        | none => none
    | _ => none
def lcS (stp : D → Store → Option (Option D × Store)) (s : Src) (S : Store) : Option (List D × Store) := match s with
  | .items xs => lcL stp xs S
  | .cell i => match S[i]? with
    | some (.lst xs) => lcC stp i (xs.length + 1) 0 S
    | _ => none
/-- a for's turns -/
def forL (stp : D → DEnv → Store → Option O) : List D → DEnv → Store → Option O
  | [], env, S => some (.nx env S)
  | x :: xs, env, S => match stp x env S with
    | some (.nx env1 S1) => forL stp xs env1 S1
    | some (.ct env1 S1) => forL stp xs env1 S1
    | some (.br env1 S1) => some (.nx env1 S1)
    | some (.rt d S1) => some (.rt d S1)
    | none => none
def forC (stp : D → DEnv → Store → Option O) (i : Nat) : Nat → Nat → DEnv → Store → Option O
  | 0, _, _, _ => none
  | n + 1, k, env, S => match S[i]? with
    | some (.lst xs) => match xs[k]? with
      | none => some (.nx env S)
      | some x => match stp x env S with
        | some (.nx env1 S1) => forC stp i n (k + 1) env1 S1
        | some (.ct env1 S1) => forC stp i n (k + 1) env1 S1
        | some (.br env1 S1) => some (.nx env1 S1)
        | some (.rt d S1) => some (.rt d S1)
        | none => none
    | _ => none
def forS (stp : D → DEnv → Store → Option O) (s : Src) (env : DEnv) (S : Store) : Option O := match s with
  | .items xs => forL stp xs env S
  | .cell i => forC stp i 5000 0 env S
def whlN (tst : DEnv → Store → Option (Bool × Store)) (stp : DEnv → Store → Option O) : Nat → DEnv → Store → Option O
  | 0, _, _ => none
  | n + 1, env, S => match tst env S with
    | some (true, S1) => match stp env S1 with
      | some (.nx env1 S2) => whlN tst stp n env1 S2
      | some (.ct env1 S2) => whlN tst stp n env1 S2
      | some (.br env1 S2) => some (.nx env1 S2)
      | some (.rt d S2) => some (.rt d S2)
      | none => none
    | some (false, S1) => some (.nx env S1)
    | none => none
def cutD {α : Type} (xs : List α) (lo hi : Option Int) : List α := (xs.drop (HT.sIx xs.length 0 lo)).take (HT.sIx xs.length xs.length hi - HT.sIx xs.length 0 lo)
def newL (cell : Bool) (xs : List D) (S : Store) : D × Store := if cell then (.obj S.length, S ++ [.lst xs]) else (.lst xs, S)
def tagD (S : Store) : D → Option Tag
  | .non => some .non
  | .bl _ => some .bl
  | .int _ => some (.b .int)
  | .str _ => some (.b .str)
  | .tup _ => some (.b .tup)
  | .lst _ => some (.b .lst)
  | .scr _ => some (.b .lst)
  | .ins c _ _ => some (.ins c)
  | .obj i => match S[i]? with
    | some (.lst _) => some (.b .lst)
    | some (.dct _ _) => some (.b .dct)
    | some (.ins c _ _) => some (.ins c)
    | none => none
def isiB : Tag → BTy → Bool
  | .bl, .bool => true
  | .bl, .int => true
  | .b .int, .int => true
  | .b .bool, .bool => true
  | .b .bool, .int => true
  | .b .str, .str => true
  | .b .tup, .tup => true
  | .b .lst, .lst => true
  | .b .dct, .dct => true
  | _, _ => false
def isi1 (T : Tab) : TyS → Tag → Option Bool
  | .bt t, .ins c => if T.ic c then some false else none
  | .bt t, g => some (isiB g t)
  | .cls c, .ins c' => if T.ic c && T.ic c' then some (c' == c) else none
  | .cls c, _ => if T.ic c then some false else none
def isiL (T : Tab) (g : Tag) : List TyS → Option Bool
  | [] => some false
  | t :: ts => match isi1 T t g with
    | some true => some true
    | some false => isiL T g ts
    | none => none
def recvOk (p : PM) (d : D) (S : Store) : Bool := match lstD S d with
  | some _ => true
  | none => false

def pureN (env : DEnv) : DEnv := env.map fun o => match o with
  | some d => if pureD d then some d else none
  | none => none
def dcL (stp : D → Store → Option (Option (DK × D) × Store)) : List D → List DK → List D → Store → Option ((List DK × List D) × Store)
  | [], ks, ys, S => some ((ks, ys), S)
  | x :: xs, ks, ys, S => match stp x S with
    | some (some (j, z), S1) => if ks.length < 100000 then let r := putK2 ks ys j z; dcL stp xs r.1 r.2 S1 else none
    | some (none, S1) => dcL stp xs ks ys S1
    | none => none
def dcC (stp : D → Store → Option (Option (DK × D) × Store)) (i : Nat) : Nat → Nat → List DK → List D → Store → Option ((List DK × List D) × Store)
  | 0, _, _, _, _ => none
  | n + 1, k, ks, ys, S => match S[i]? with
    | some (.lst xs) => match xs[k]? with
      | none => some ((ks, ys), S)
      | some x => match stp x S with
        | some (some (j, z), S1) => if ks.length < 100000 then let r := putK2 ks ys j z; dcC stp i n (k + 1) r.1 r.2 S1 else none
        | some (none, S1) => dcC stp i n (k + 1) ks ys S1
        | none => none
    | _ => none
def dcS (stp : D → Store → Option (Option (DK × D) × Store)) (s : Src) (S : Store) : Option ((List DK × List D) × Store) := match s with
  | .items xs => dcL stp xs [] [] S
  | .cell i => match S[i]? with
    | some (.lst _) => dcC stp i 5000 0 [] [] S
    | _ => none
mutual
def evE (T : Tab) : IE → DEnv → Store → Option (D × Store)
  | .var i, env, S => match env[i]? with
    | some (some d) => some (d, S)
    | _ => none
  | .con d, _, S => some (d, S)
  | .p2 p a b, env, S => match evE T a env S with
    | some (x, S1) => match evE T b env S1 with
      | some (y, S2) => match p2 p x y S2 with
        | some z => some (z, S2)
        | none => none
      | none => none
    | none => none
  | .neg a, env, S => match evE T a env S with
    | some (.int i, S1) => some (.int (-i), S1)
    | _ => none
  | .chain p q a b c, env, S => match evE T a env S with
    | some (x, S1) => match evE T b env S1 with
      | some (y, S2) => match p2 p x y S2 with
        | some (.bl true) => match evE T c env S2 with
          | some (z, S3) => match p2 q y z S3 with
            | some (.bl k) => some (.bl k, S3)
            | _ => none
          | none => none
        | some (.bl false) => some (.bl false, S2)
        | _ => none
      | none => none
    | none => none
  | .and a b, env, S => match evE T a env S with
    | some (.bl true, S1) => match evE T b env S1 with
      | some (.bl k, S2) => some (.bl k, S2)
      | _ => none
    | some (.bl false, S1) => some (.bl false, S1)
    | _ => none
  | .or a b, env, S => match evE T a env S with
    | some (.bl true, S1) => some (.bl true, S1)
    | some (.bl false, S1) => match evE T b env S1 with
      | some (.bl k, S2) => some (.bl k, S2)
      | _ => none
    | _ => none
  | .not a, env, S => match evE T a env S with
    | some (.bl k, S1) => some (.bl (!k), S1)
    | _ => none
  | .ite c a b, env, S => match evE T c env S with
    | some (.bl true, S1) => evE T a env S1
    | some (.bl false, S1) => evE T b env S1
    | _ => none
  | .pb p cell as, env, S => match evL T as env S with
    | some (ds, S1) => match pb p ds S1 with
      | some (.v d) => some (d, S1)
      | some (.l xs) => some (newL cell xs S1)
      | some (.t xs) => some (.tup xs, S1)
      | none => none
    | none => none
  | .pm p a as, env, S => match evE T a env S with
    | some (d, S1) => if recvOk p d S1 then match evL T as env S1 with
        | some (ds, S2) => pm p d ds S2
        | none => none
      else none
    | none => none
  | .isi ts a, env, S => match evE T a env S with
    | some (d, S1) => match tagD S1 d with
      | some g => match isiL T g ts with
        | some b => some (.bl b, S1)
        | none => none
      | none => none
    | none => none
  | .call f as, env, S => match evL T as env S with
    | some (ds, S1) => T.fn f ds S1
    | none => none
  | .meth m a as, env, S => match evE T a env S with
    | some (d, S1) => match clsD S1 d with
      | some c => if T.ck c then match T.mt c m with
          | some f => match evL T as env S1 with
            | some (ds, S2) => T.fn f (d :: ds) S2
            | none => none
          | none => none
        else none
      | none => none
    | none => none
  | .make c f fz as, env, S => match evL T as env S with
    | some (ds, S1) => if fz then
        if pureL ds then match T.fn f (.obj 0 :: ds) [.ins c [] []] with
          | some (.non, S2) => match frz 0 S2 (.obj 0) with
            | some d => some (d, S1)
            | none => none
          | _ => none
        else none
      else match T.fn f (.obj S1.length :: ds) (S1 ++ [.ins c [] []]) with
        | some (.non, S2) => some (.obj S1.length, S2)
        | _ => none
    | none => none
  | .attr f a, env, S => match evE T a env S with
    | some (d, S1) => match clsD S1 d with
      | some c => if T.ck c && T.fl c f then match fldD S1 f d with
          | some x => some (x, S1)
          | none => none
        else none
      | none => none
    | none => none
  | .disp k st as, env, S => match evP T st as env S with
    | some (xs, S1) => if szOk xs.length then match k with
        | .tup => some (.tup xs, S1)
        | .lst => some (.lst xs, S1)
        | .cell => some (newL true xs S1)
      else none
    | none => none
  | .slice a lo hi cell, env, S => match evE T a env S with
    | some (d, S1) => match evO T lo env S1 with
      | some (l, S2) => match evO T hi env S2 with
        | some (h, S3) => match d with
          | .str s => if szOk s.length then some (.str (cutD s l h), S3) else none
          | .tup xs => if HT.sIx xs.length 0 l = 0 ∧ HT.sIx xs.length xs.length h = xs.length then none else some (.tup (cutD xs l h), S3)
          | d => match lstD S3 d with
            | some xs => some (newL cell (cutD xs l h) S3)
            | none => none
        | none => none
      | none => none
    | none => none
  | .dict _, _, S => some (.obj S.length, S ++ [.dct [] []])
  | .dget a b, env, S => match evE T a env S with
    | some (.obj i, S1) => match evE T b env S1 with
      | some (y, S2) => match keyD y with
        | some k => match S2[i]? with
          | some (.dct ks xs) => match getK ks xs k with
            | some d => some (d, S2)
            | none => none
          | _ => none
        | none => none
      | none => none
    | _ => none
  | .dd ks as, env, S => match evL T as env (S ++ [.dct [] []]) with
    | some (xs, S1) => if emptyD S1[S.length]? && (decide (ks.length = xs.length) && decide (ks.length ≤ 15)) then
        some (.obj S.length, S1.set S.length (.dct (mergeD ks xs ([], [])).1 (mergeD ks xs ([], [])).2))
      else none
    | none => none
  | .lc cell vs tg k it cd e, env, S => match evL T it env S with
    | some (ds, S1) => match srcD k ds S1 with
      | some s => match lcS (fun x S2 => match setT S2 tg x (wipeD env vs) with
          | some env2 => match evC T cd env2 S2 with
            | some (true, S3) => match evE T e env2 S3 with
              | some (y, S4) => some (some y, S4)
              | none => none
            | some (false, S3) => some (none, S3)
            | none => none
          | none => none) s S1 with
        | some (ys, S5) => if szOk ys.length then some (newL cell ys S5) else none
        | none => none
      | none => none
    | none => none
  | .lcd cell vs tg it cd e, env, S => match evE T it env S with
    | some (.obj i, S1) => match S1[i]? with
      | some (.dct ks _) => match lcL (fun x S2 => match setT S2 tg x (pureN (wipeD env vs)) with
          | some env2 => match evC T cd env2 S2 with
            | some (true, S3) => match evE T e env2 S3 with
              | some (y, S4) => some (some y, S4)
              | none => none
            | some (false, S3) => some (none, S3)
            | none => none
          | none => none) (ks.map dkD) [] with
        | some (ys, S5) => match frzL (frzC S5 0 6) ys with
          | some zs => if szOk ys.length then some (newL cell zs S1) else none
          | none => none
        | none => none
      | _ => none
    | _ => none
  | .dc vs tg k it cd kx vx, env, S => match evL T it env S with
    | some (ds, S1) => match srcD k ds S1 with
      | some s => match dcS (fun x S2 => match setT S2 tg x (wipeD env vs) with
          | some env2 => match evC T cd env2 S2 with
            | some (true, S3) => match evE T kx env2 S3 with
              | some (y, S4) => match evE T vx env2 S4 with
                | some (z, S5) => match keyD y with
                  | some j => some (some (j, z), S5)
                  | none => none
                | none => none
              | none => none
            | some (false, S3) => some (none, S3)
            | none => none
          | none => none) s S1 with
        | some (r, S5) => some (.obj S5.length, S5 ++ [.dct r.1 r.2])
        | none => none
      | none => none
    | none => none
  termination_by structural e => e
def evL (T : Tab) : List IE → DEnv → Store → Option (List D × Store)
  | [], _, S => some ([], S)
  | e :: es, env, S => match evE T e env S with
    | some (d, S1) => match evL T es env S1 with
      | some (ds, S2) => some (d :: ds, S2)
      | none => none
    | none => none
  termination_by structural es => es
/-- with stars -/
def evP (T : Tab) (st : List Bool) : List IE → DEnv → Store → Option (List D × Store)
  | [], _, S => some ([], S)
  | e :: es, env, S => match evE T e env S with
    | some (d, S1) => if st.headD false then match seqD S1 d with
        | some xs => match evP T st.tail es env S1 with
          | some (ds, S2) => some (xs ++ ds, S2)
          | none => none
        | none => none
      else match evP T st.tail es env S1 with
        | some (ds, S2) => some (d :: ds, S2)
        | none => none
    | none => none
  termination_by structural es => es
def evO (T : Tab) : Option IE → DEnv → Store → Option (Option Int × Store)
  | none, _, S => some (none, S)
  | some e, env, S => match evE T e env S with
    | some (.int i, S1) => some (some i, S1)
    | _ => none
  termination_by structural e => e
def evC (T : Tab) : Option IE → DEnv → Store → Option (Bool × Store)
  | none, _, S => some (true, S)
  | some e, env, S => match evE T e env S with
    | some (.bl b, S1) => some (b, S1)
    | _ => none
  termination_by structural e => e
end
def setP : List Nat → List D → DEnv → Option DEnv
  | [], [], env => some env
  | i :: is, d :: ds, env => setP is ds (env.set i (some d))
  | _, _, _ => none
def setItem (o i y : D) (S : Store) : Option Store := match o with
  | .obj j => match S[j]? with
    | some (.lst xs) => match i with
      | .int k => if 0 ≤ k ∧ k < xs.length then some (S.set j (.lst (xs.set k.toNat y))) else none
      | _ => none
    | some (.dct ks xs) => match keyD i with
      | some k => if ks.length < 100000 then let r := putK2 ks xs k y; some (S.set j (.dct r.1 r.2)) else none
      | none => none
    | _ => none
  | _ => none
def setFld (T : Tab) (o : D) (f : Nat) (y : D) (S : Store) : Option Store := match o with
  | .obj j => match S[j]? with
    | some (.ins c ks xs) => if ks.length < 900 && (T.ck c && T.fl c f) then let r := setFL ks xs f y; some (S.set j (.ins c r.1 r.2)) else none
    | _ => none
  | _ => none
def isIS : D → Bool
  | .int _ => true
  | .str _ => true
  | _ => false
mutual
def ex (T : Tab) : IS → DEnv → Store → Option O
  | .asg t e, env, S => match evE T e env S with
    | some (d, S1) => match setT S1 t d env with
      | some env1 => some (.nx env1 S1)
      | none => none
    | none => none
  | .par is es, env, S => match evL T es env S with
    | some (ds, S1) => match setP is ds env with
      | some env1 => some (.nx env1 S1)
      | none => none
    | none => none
  | .aug i p e, env, S => match env[i]? with
    | some (some x) => match evE T e env S with
      | some (y, S1) => if isIS x then match p2 p x y S1 with
        | some z => some (.nx (env.set i (some z)) S1)
        | none => none
        else none
      | none => none
    | _ => none
  | .setF o f e, env, S => match evE T e env S with
    | some (y, S1) => match evE T o env S1 with
      | some (d, S2) => match setFld T d f y S2 with
        | some S3 => some (.nx env S3)
        | none => none
      | none => none
    | none => none
  | .setI o i e, env, S => match evE T e env S with
    | some (y, S1) => match evE T o env S1 with
      | some (d, S2) => match evE T i env S2 with
        | some (k, S3) => match setItem d k y S3 with
          | some S4 => some (.nx env S4)
          | none => none
        | none => none
      | none => none
    | none => none
  | .asI2 v k1 k2 e1 e2, env, S => match evE T e1 env S with
    | some (x, S1) => match evE T e2 env S1 with
      | some (y, S2) => match env[v]? with
        | some (some d) => match setItem d (dkD k1) x S2 with
          | some S3 => match setItem d (dkD k2) y S3 with
            | some S4 => some (.nx env S4)
            | none => none
          | none => none
        | _ => none
      | none => none
    | none => none
  | .drop e, env, S => match evE T e env S with
    | some (_, S1) => some (.nx env S1)
    | none => none
  | .ite c a b, env, S => match evE T c env S with
    | some (.bl true, S1) => exL T a env S1
    | some (.bl false, S1) => exL T b env S1
    | _ => none
  | .for tg k it b, env, S => match evL T it env S with
    | some (ds, S1) => match srcD k ds S1 with
      | some s => forS (fun x env2 S2 => match setT S2 tg x env2 with
          | some env3 => exL T b env3 S2
          | none => none) s env S1
      | none => none
    | none => none
  | .whl c b, env, S => whlN (fun env1 S1 => match evE T c env1 S1 with
      | some (.bl k, S2) => some (k, S2)
      | _ => none) (fun env1 S1 => exL T b env1 S1) 5000 env S
  | .ret e, env, S => match evE T e env S with
    | some (d, S1) => some (.rt d S1)
    | none => none
  | .brk, env, S => some (.br env S)
  | .cnt, env, S => some (.ct env S)
  | .pass, env, S => some (.nx env S)
  | .nev, _, _ => none
  termination_by structural s => s
def exL (T : Tab) : List IS → DEnv → Store → Option O
  | [], env, S => some (.nx env S)
  | s :: ss, env, S => match ex T s env S with
    | some (.nx env1 S1) => exL T ss env1 S1
    | some (.rt d S1) => some (.rt d S1)
    | some (.br env1 S1) => some (.br env1 S1)
    | some (.ct env1 S1) => some (.ct env1 S1)
    | none => none
  termination_by structural ss => ss
end
/-- how a def is called: by place; with keyword-only parameters of these defaults -/
inductive BK where
  | pl
  | kw (ks : List Str) (dfl : List D)
/-- a def: how it is called (0: data alone, 1: with cells handed in, 2: the store as it is), its parameters, its names, its body -/
structure FD where
  mode : Nat
  np : Nat
  nn : Nat
  body : List IS
  bk : BK := .pl
  lam : Bool := false
def startD (nn : Nat) (ds : List D) : DEnv := ds.map some ++ List.replicate (nn - ds.length) none
def runB (T : Tab) (f : FD) (ds : List D) (S : Store) : Option (D × Store) :=
  if ds.length = f.np then match exL T f.body (startD f.nn ds) S with
    | some (.rt d S1) => some (d, S1)
    | some (.nx _ S1) => some (.non, S1)
    | _ => none
  else none
/-- the cells handed in, once each -/
def objsIn : List D → List Nat
  | [] => []
  | .obj i :: ds => let r := objsIn ds; if r.contains i then r else i :: r
  | _ :: ds => objsIn ds
def renum (is : List Nat) : List D → List D
  | [] => []
  | .obj i :: ds => .obj (is.idxOf i) :: renum is ds
  | d :: ds => d :: renum is ds
def cellPure : Cell → Bool
  | .lst xs => pureL xs
  | .ins _ _ xs => pureL xs
  | .dct _ xs => pureL xs
def getCs (S : Store) : List Nat → Option Store
  | [] => some []
  | i :: is => match S[i]?, getCs S is with
    | some c, some cs => if cellPure c then some (c :: cs) else none
    | _, _ => none
def putCs (S : Store) : List Nat → Store → Option Store
  | [], _ => some S
  | i :: is, c :: cs => if cellPure c then putCs (S.set i c) is cs else none
  | _, [] => none
def pureA : D → Bool
  | .obj _ => true
  | d => pureD d
def runF (T : Tab) (f : FD) (ds : List D) (S : Store) : Option (D × Store) := match f.mode with
  | 0 => if pureL ds then match runB T f ds [] with
      | some (d, S1) => match frz 0 S1 d with
        | some e => some (e, S)
        | none => none
      | none => none
    else none
  | 1 => if ds.all pureA then match getCs S (objsIn ds) with
      | some cs => match runB T f (renum (objsIn ds) ds) cs with
        | some (d, S1) => match frz (objsIn ds).length S1 d, putCs S (objsIn ds) S1 with
          | some e, some S2 => some (e, S2)
          | _, _ => none
        | none => none
      | none => none
    else none
  | _ => runB T f ds S
/-- a generator def: plain statements, then one loop that hands out -/
structure GD where
  np : Nat
  nn : Nat
  pre : List IS
  tg : Tg
  kd : Nat
  it : List IE
  e : IE
mutual
def slots : Tg → List Nat
  | .nm i => [i]
  | .tup ts => slotsL ts
def slotsL : List Tg → List Nat
  | [] => []
  | t :: ts => slots t ++ slotsL ts
end
def genStp (T : Tab) (g : GD) (env : DEnv) : D → Store → Option (Option D × Store) := fun x S2 => match setT S2 g.tg x (wipeD env (slots g.tg)) with
  | some env2 => match evE T g.e env2 S2 with
    | some (y, S4) => some (some y, S4)
    | none => none
  | none => none
def genB (T : Tab) (g : GD) (env : DEnv) (S : Store) : Option (List D × Store) := match exL T g.pre env S with
  | some (.nx env1 S1) => match evL T g.it env1 S1 with
    | some (ds, S2) => match srcD g.kd ds S2 with
      | some s => lcS (genStp T g env1) s S2
      | none => none
    | none => none
  | _ => none
def genF (T : Tab) (g : GD) : Spc := fun ds S => if pureL ds && decide (ds.length = g.np) then match genB T g (startD g.nn ds) [] with
    | some (ys, S5) => if szOk ys.length then match frzL (frzC S5 0 6) ys with
      | some zs => some (.lst zs, S)
      | none => none
      else none
    | none => none
  else none
/-- the program's text: its defs, the classes' methods and fields -/
structure Prog where
  fs : Nat → Option FD
  mt : Nat → Nat → Option Nat
  ck : Nat → Bool
  fl : Nat → Nat → Bool
  ic : Nat → Bool
  nv : Nat → Option (Nat × (Tab → Spc))
  gs : Nat → Option GD
def tabN (p : Prog) : Nat → Tab
  | 0 => ⟨p.ck, p.fl, p.ic, fun _ _ _ => none, p.mt⟩
  | n + 1 => ⟨p.ck, p.fl, p.ic, fun f ds S => match p.fs f with
    | some d => runF (tabN p n) d ds S
    | none => match p.nv f with
      | some (np, F) => if ds.length = np then F (tabN p n) ds S else none
      | none => match p.gs f with
        | some g => match n with
          | 0 => none
          | m + 1 => genF (tabN p m) g ds S
        | none => none, p.mt⟩
end LN

set_option Elab.async false
set_option linter.all false
set_option maxRecDepth 100000
set_option maxHeartbeats 1000000
namespace LN
open PySem L2
variable {W : WP} {B B' : Hp} {μ μ' : List Addr} {S S' : Store} {H H' : Hp}

theorem Rel.at (r : Rel W B μ S H) {i : Nat} {a : Addr} {c : Cell} (h1 : μ[i]? = some a) (h2 : S[i]? = some c) : COk W B μ H a c := (r.cell i a c h1 h2).2
theorem Rel.get (r : Rel W B μ S H) {i : Nat} {v : V} {c : Cell} (h : Den W B μ (.obj i) v) (e : S[i]? = some c) : ∃ a, v = .ref a ∧ μ[i]? = some a ∧ COk W B μ H a c := by
  cases h with | obj h => exact ⟨_, rfl, h, r.at h e⟩
/-- a list | a tuple that may be read -/
theorem seq_ok (r : Rel W B μ S H) {d : D} {v : V} {xs : List D} (h : Den W B μ d v) (e : seqD S d = some xs) : ∃ a vs, v = .ref a ∧ (SqL W.K H a vs ∨ SqT W.K H a vs) ∧ DenL W B μ xs vs := by
  cases d with
  | tup ys => cases h with | tup h q => simp [seqD] at e; subst e; exact ⟨_, _, rfl, .inr (ex_t r.sub h), q⟩
  | lst ys => cases h with | lst h q => simp [seqD] at e; subst e; exact ⟨_, _, rfl, .inl (SqL.of (r.sub _ _ h)), q⟩
  | scr ys => cases h with | scr h q => simp [seqD] at e; subst e; exact ⟨_, _, rfl, .inl (ex_l r.sub h), q⟩
  | obj i =>
    simp only [seqD] at e
    split at e
    · rename_i ys q
      cases e
      obtain ⟨a, rfl, hm, vs, h1, h2⟩ := r.get h q
      exact ⟨_, _, rfl, .inl (SqL.of h1), h2⟩
    · cases e
  | _ => simp [seqD] at e
theorem lst_ok (r : Rel W B μ S H) {d : D} {v : V} {xs : List D} (h : Den W B μ d v) (e : lstD S d = some xs) : ∃ a vs, v = .ref a ∧ H a = some (.lst vs) ∧ DenL W B μ xs vs := by
  cases d with
  | lst ys => cases h with | lst h q => simp [lstD] at e; subst e; exact ⟨_, _, rfl, r.sub _ _ h, q⟩
  | obj i =>
    simp only [lstD] at e
    split at e
    · rename_i ys q
      cases e
      obtain ⟨a, rfl, hm, vs, h1, h2⟩ := r.get h q
      exact ⟨_, _, rfl, h1, h2⟩
    · cases e
  | _ => simp [lstD] at e
mutual
theorem py_ok {Hx : Hp} (s : Ex B Hx) : ∀ (d : D) (v : V) (p : PyData), Den W B μ d v → pyD d = some p → Dp W.K Hx v p
  | .non, _, _, h, e => by cases h; simp [pyD] at e; subst e; exact .non
  | .bl _, _, _, h, e => by cases h; simp [pyD] at e; subst e; exact .bl _
  | .int _, _, _, h, e => by cases h; simp [pyD] at e; subst e; exact .int _
  | .str _, _, _, h, e => by cases h; simp [pyD] at e; subst e; exact .str _
  | .tup xs, _, _, h, e => by
    cases h with | tup h r => 
      simp only [pyD] at e
      split at e
      · rename_i ys q; cases e; exact .tup (ex_t s h) (pys_ok s xs _ _ r q)
      · cases e
  | .lst xs, _, _, h, e => by
    cases h with | lst h r => 
      simp only [pyD] at e
      split at e
      · rename_i ys q; cases e; exact .lst (SqL.of (s _ _ h)) (pys_ok s xs _ _ r q)
      · cases e
  | .scr xs, _, _, h, e => by
    cases h with | scr h r => 
      simp only [pyD] at e
      split at e
      · rename_i ys q; cases e; exact .lst (ex_l s h) (pys_ok s xs _ _ r q)
      · cases e
  | .ins _ _ _, _, _, _, e => by simp [pyD] at e
  | .obj _, _, _, _, e => by simp [pyD] at e
theorem pys_ok {Hx : Hp} (s : Ex B Hx) : ∀ (ds : List D) (vs : List V) (ps : List PyData), DenL W B μ ds vs → pyL ds = some ps → DpAll W.K Hx vs ps
  | [], _, _, h, e => by cases h; simp [pyL] at e; subst e; exact .nil
  | d :: ds, _, _, h, e => by
    cases h with | cons h r =>
      simp only [pyL] at e
      split at e
      · rename_i p ps q1 q2; cases e; exact .cons (py_ok s d _ _ h q1) (pys_ok s ds _ _ r q2)
      · cases e
end
theorem pyS_ok (r : Rel W B μ S H) {d : D} {v : V} {p : PyData} (h : Den W B μ d v) (e : pyS S d = some p) : Dp W.K H v p := by
  cases d with
  | obj i =>
    simp only [pyS] at e
    split at e
    · rename_i xs q
      split at e
      · rename_i ys q2
        cases e
        obtain ⟨a, rfl, hm, vs, h1, h2⟩ := r.get h q
        exact .lst (SqL.of h1) (pys_ok r.sub xs _ _ h2 q2)
      · cases e
    · cases e
  | _ => exact py_ok r.sub _ _ _ h (by simpa only [pyS] using e)
/-! ### freezing -/
def fz (B H : Hp) (μ : List Addr) : Hp := fun a => if a ∈ μ then H a else B a
mutual
theorem frzW_ok {Bx : Hp} {g : Nat → Option D} (s : Ex B Bx) (hg : ∀ i d v, Den W B μ (.obj i) v → g i = some d → Den W Bx [] d v) : ∀ (d e : D) (v : V), Den W B μ d v → frzW g d = some e → Den W Bx [] e v
  | .non, _, _, h, e => by simp [frzW] at e; subst e; cases h; exact .non
  | .bl _, _, _, h, e => by simp [frzW] at e; subst e; cases h; exact .bl _
  | .int _, _, _, h, e => by simp [frzW] at e; subst e; cases h; exact .int _
  | .str _, _, _, h, e => by simp [frzW] at e; subst e; cases h; exact .str _
  | .tup xs, _, _, h, e => by
    simp only [frzW] at e
    split at e
    · rename_i ys q; cases e; cases h with | tup h r => exact .tup (ex_t s h) (frzL_ok s hg xs _ _ r q)
    · cases e
  | .lst xs, _, _, h, e => by
    simp only [frzW] at e
    split at e
    · rename_i ys q; cases e; cases h with | lst h r => exact .lst (s _ _ h) (frzL_ok s hg xs _ _ r q)
    · cases e
  | .scr xs, _, _, h, e => by
    simp only [frzW] at e
    split at e
    · rename_i ys q; cases e; cases h with | scr h r => exact .scr (ex_l s h) (frzL_ok s hg xs _ _ r q)
    · cases e
  | .ins c ks xs, _, _, h, e => by
    simp only [frzW] at e
    split at e
    · rename_i ys q; cases e; cases h with | ins h hl r => 
      have r2 := frzL_ok s hg xs _ _ r q
      exact .ins (s _ _ h) (by rw [hl, r.length, r2.length]) r2
    · cases e
  | .obj i, _, _, h, e => by simp only [frzW] at e; exact hg i _ _ h e
theorem frzL_ok {Bx : Hp} {g : Nat → Option D} (s : Ex B Bx) (hg : ∀ i d v, Den W B μ (.obj i) v → g i = some d → Den W Bx [] d v) : ∀ (ds es : List D) (vs : List V), DenL W B μ ds vs → frzL g ds = some es → DenL W Bx [] es vs
  | [], _, _, h, e => by simp [frzL] at e; subst e; cases h; exact .nil
  | d :: ds, _, _, h, e => by
    simp only [frzL] at e
    split at e
    · rename_i p ps q1 q2; cases e; cases h with | cons h r => exact .cons (frzW_ok s hg d _ _ h q1) (frzL_ok s hg ds _ _ r q2)
    · cases e
end
theorem mem_drop_at {l : List Addr} {m i : Nat} {a : Addr} (h : l[i]? = some a) (q : ¬ i < m) : a ∈ l.drop m := by
  have e : (l.drop m)[i - m]? = some a := by
    rw [List.getElem?_drop]
    rw [show m + (i - m) = i by omega]
    exact h
  exact List.mem_of_getElem? e
theorem frzC_ok {m : Nat} (r : Rel W B μ S H) (hx : Ex B (fz B H (μ.drop m))) : ∀ (n i : Nat) (d : D) (v : V), Den W B μ (.obj i) v → frzC S m n i = some d → Den W (fz B H (μ.drop m)) [] d v
  | 0, _, _, _, _, e => by simp [frzC] at e
  | n + 1, i, d, v, h, e => by
    have ih := frzC_ok r hx n
    simp only [frzC] at e
    split at e
    · cases e
    · rename_i hlt
      split at e
      · rename_i xs q
        obtain ⟨a, rfl, hm, vs, h1, h2⟩ := r.get h q
        split at e
        · rename_i ys q2
          cases e
          refine .lst (vs := vs) ?_ (frzL_ok hx (fun i d v => ih i d v) xs ys vs h2 q2)
          unfold fz; rw [if_pos (mem_drop_at hm hlt)]; exact h1
        · cases e
      · rename_i c ks xs q
        obtain ⟨a, rfl, hm, dx, vs, h1, hl, h2⟩ := r.get h q
        split at e
        · rename_i ys q2
          cases e
          have r2 := frzL_ok hx (fun i d v => ih i d v) xs ys vs h2 q2
          refine .ins (dx := dx) (vs := vs) ?_ (by rw [hl, h2.length, r2.length]) r2
          unfold fz; rw [if_pos (mem_drop_at hm hlt)]; exact h1
        · cases e
      · cases e
theorem fz_exd {m : Nat} (r : Rel W B μ S H) : Ex B (fz B H (μ.drop m)) := fun a o h => by
  unfold fz
  split
  · rename_i q; rw [(r.mem (List.mem_of_mem_drop q)).1] at h; cases h
  · exact h
theorem fz_subd {m : Nat} (r : Rel W B μ S H) : Ex (fz B H (μ.drop m)) H := fun a o h => by
  unfold fz at h
  split at h
  · exact h
  · exact r.sub a o h
theorem frz_ok {m : Nat} (r : Rel W B μ S H) {d e : D} {v : V} (h : Den W B μ d v) (q : frz m S d = some e) : Den W (fz B H (μ.drop m)) [] e v :=
  frzW_ok (fz_exd r) (fun i d v => frzC_ok r (fz_exd r) 6 i d v) d e v h q
mutual
theorem den_pure {μ2 : List Addr} : ∀ (d : D) (v : V), pureD d = true → Den W B μ d v → Den W B μ2 d v
  | .non, _, _, h => by cases h; exact .non
  | .bl _, _, _, h => by cases h; exact .bl _
  | .int _, _, _, h => by cases h; exact .int _
  | .str _, _, _, h => by cases h; exact .str _
  | .tup xs, _, p, h => by cases h with | tup h r => exact .tup h (denL_pure xs _ (by simpa [pureD] using p) r)
  | .lst xs, _, p, h => by cases h with | lst h r => exact .lst h (denL_pure xs _ (by simpa [pureD] using p) r)
  | .scr xs, _, p, h => by cases h with | scr h r => exact .scr h (denL_pure xs _ (by simpa [pureD] using p) r)
  | .ins _ _ xs, _, p, h => by cases h with | ins h hl r => exact .ins h hl (denL_pure xs _ (by simpa [pureD] using p) r)
  | .obj _, _, p, _ => by simp [pureD] at p
theorem denL_pure {μ2 : List Addr} : ∀ (ds : List D) (vs : List V), pureL ds = true → DenL W B μ ds vs → DenL W B μ2 ds vs
  | [], _, _, h => by cases h; exact .nil
  | d :: ds, _, p, h => by
    simp only [pureL, Bool.and_eq_true] at p
    cases h with | cons h r => exact .cons (den_pure d _ p.1 h) (denL_pure ds _ p.2 r)
end
/-- frozen data has no cells -/
theorem den_nil {d : D} {v : V} (h : Den W B [] d v) : Den W B μ d v := Den.mono (Ex.refl _) ⟨μ, by simp⟩ _ _ h
theorem denL_nil {ds : List D} {vs : List V} (h : DenL W B [] ds vs) : DenL W B μ ds vs := DenL.mono (Ex.refl _) ⟨μ, by simp⟩ _ _ h

theorem Rel.empty (r : Rel W B μ S H) : Rel W B [] [] H := ⟨r.sub, rfl, List.nodup_nil, fun i a c h => by simp at h, r.tb, r.nt⟩
/-- an object that nobody speaks of -/
theorem Rel.loose {p : Addr} {o : HO} (r : Rel W B μ S H) (hp : H p = none) : Step B μ H B μ (upd H p o) ∧ Rel W B μ S (upd H p o) := by
  have hB : B p = none := by
    cases q : B p with
    | none => rfl
    | some x => rw [r.sub p x q] at hp; cases hp
  have hm : p ∉ μ := fun h => by
    obtain ⟨_, o, e⟩ := r.mem h
    rw [hp] at e; cases e
  refine ⟨⟨⟨[], by simp, by simp⟩, Ex.refl _, fun a x h => .inl h, fun a x h _ _ => Ex.new hp a x h, fun a h => fresh_new hp h⟩, ⟨r.sub.trans (Ex.new hp), r.len, r.nd, fun i a c h1 h2 => ?_, tabs_new r.tb hp, r.nt⟩⟩
  · obtain ⟨b, c⟩ := r.cell i a c h1 h2
    have ne : a ≠ p := fun q => hm (q ▸ List.mem_of_getElem? h1)
    exact ⟨b, c.at fun o _ h => by rw [upd_ne ne]; exact h⟩
theorem fz_nt {m : Nat} (r : Rel W B μ S H) : ∀ a ps, fz B H (μ.drop m) a ≠ some (.tbl ps) := fun a ps e => by
  unfold fz at e
  split at e
  · rename_i hm
    obtain ⟨o, h1, h2⟩ := r.memP (List.mem_of_mem_drop hm)
    rw [h1] at e; cases e; exact h2
  · exact r.nt a ps e
/-- back from a call that was given data alone: H2 the heap at its start, ν₀ its first cells -/
theorem pure_back {B1 : Hp} {H1 H2 : Hp} {ν μ1 : List Addr} {S1 : Store} (r : Rel W B μ S H) (hx : Ex H H2) (hf : ∀ a ∈ ν, Fresh H a) (s1 : Step B ν H2 B1 μ1 H1) (r1 : Rel W B1 μ1 S1 H1) :
    Step B μ H (fz B1 H1 (μ1.drop 0)) μ H1 ∧ Rel W (fz B1 H1 (μ1.drop 0)) μ S H1 := by
  have back : ∀ a, Fresh H2 a → Fresh H a := fun a h o hn e => h o hn (hx a o e)
  obtain ⟨ν', e, hν⟩ := s1.pre
  have fr : ∀ a ∈ μ1.drop 0, Fresh H a := fun a h => by
    rw [List.drop_zero, e] at h
    rcases List.mem_append.mp h with h | h
    · exact hf a h
    · exact back a (hν a h)
  have frm : ∀ a o, NoTbl o → H a = some o → H1 a = some o := fun a o hn h => s1.frame a o (hx a o h) (fun q => (hf a q).no hn h) hn
  have nw : ∀ a o, fz B1 H1 (μ1.drop 0) a = some o → B a = some o ∨ Fresh H a := fun a o h => by
    by_cases q : a ∈ μ1.drop 0
    · exact .inr (fr a q)
    · unfold fz at h
      rw [if_neg q] at h
      rcases s1.new a o h with h | h
      · exact .inl h
      · exact .inr (back a h)
  have gr : Ex B (fz B1 H1 (μ1.drop 0)) := s1.grow.trans (fz_exd r1)
  refine ⟨⟨⟨[], by simp, by simp⟩, gr, nw, fun a o h _ hn => frm a o hn h, fun a h => back a (s1.keep a h)⟩, ⟨fz_subd r1, r.len, r.nd, fun i a c h1 h2 => ?_, r1.tb, fz_nt r1⟩⟩
  · obtain ⟨b, c⟩ := r.cell i a c h1 h2
    obtain ⟨o, ho, hpl⟩ := c.plain
    refine ⟨?_, (c.mono gr (Pre.refl _)).at fun o hp => frm a o (plain_nt hp)⟩
    cases q : fz B1 H1 (μ1.drop 0) a with
    | none => rfl
    | some x =>
      rcases nw a x q with h | h
      · rw [b] at h; cases h
      · exact (h.no (plain_nt hpl) ho).elim
end LN

set_option Elab.async false
set_option linter.all false
set_option maxRecDepth 100000
set_option maxHeartbeats 1000000
namespace LN
open PySem L2

/-! ### readings from the evaluator -/
abbrev EvF (α : Type) := DEnv → Store → Option (α × Store)
def tE (W : WP) (ev : EvF D) : TE := fun σ H Q => ∃ env S B μ d S', Rel W B μ S H ∧ EnvOk W B μ env σ ∧ ev env S = some (d, S') ∧
  ∀ B' μ' H' v, Step B μ H B' μ' H' → Rel W B' μ' S' H' → Den W B' μ' d v → Q v H'
def tT (W : WP) (ev : EvF D) : TT := fun σ H Q => ∃ env S B μ b S', Rel W B μ S H ∧ EnvOk W B μ env σ ∧ ev env S = some (.bl b, S') ∧
  ∀ B' μ' H', Step B μ H B' μ' H' → Rel W B' μ' S' H' → Q b H'
def tL (W : WP) (ev : EvF (List D)) : TA := fun σ H Q => ∃ env S B μ ds S', Rel W B μ S H ∧ EnvOk W B μ env σ ∧ ev env S = some (ds, S') ∧
  ∀ B' μ' H' vs, Step B μ H B' μ' H' → Rel W B' μ' S' H' → DenL W B' μ' ds vs → Q vs H'
theorem PE.imp {X : Cx} {e : Expr} {t t' : TE} (h : PE X e t) (k : ∀ σ H Q, t' σ H Q → t σ H Q) : PE X e t' := ⟨fun pins s σ H Q I q => h.run pins s σ H Q I (k _ _ _ q)⟩
theorem PT.imp {X : Cx} {e : Expr} {t t' : TT} (h : PT X e t) (k : ∀ σ H Q, t' σ H Q → t σ H Q) : PT X e t' := ⟨fun pins s σ H Q I q => h.run pins s σ H Q I (k _ _ _ q)⟩
theorem PA.imp {X : Cx} {e : List Expr} {t t' : TA} (h : PA X e t) (k : ∀ σ H Q, t' σ H Q → t σ H Q) : PA X e t' := ⟨fun pos pins s σ H Q I q => h.run pos pins s σ H Q I (k _ _ _ q)⟩
theorem PE.or {X : Cx} {e : Expr} {t t' : TE} (h : PE X e t) (h' : PE X e t') : PE X e (fun σ H Q => t σ H Q ∨ t' σ H Q) :=
  ⟨fun pins s σ H Q I q => q.elim (h.run pins s σ H Q I) (h'.run pins s σ H Q I)⟩
theorem OpR.imp {X : Cx} {f : Value → Value → Sem Value} {r r' : R2} (h : OpR X f r) (k : ∀ x y H Q, r' x y H Q → r x y H Q) : OpR X f r' := fun pins s σ H x y v u Q I rx ry q => h pins s σ H x y v u Q I rx ry (k _ _ _ _ q)
theorem IxR.imp {X : Cx} {r r' : R2} (h : IxR X r) (k : ∀ x y H Q, r' x y H Q → r x y H Q) : IxR X r' := fun va sl pins s σ H x y v u Q I rx ry q => h va sl pins s σ H x y v u Q I rx ry (k _ _ _ _ q)
theorem PI.imp {X : Cx} {tg e : Expr} {t t' : TI} (h : PI X tg e t) (k : ∀ σ H R, t' σ H R → t σ H R) : PI X tg e t' := ⟨fun pins s σ H R I q => h.run pins s σ H R I (k _ _ _ q)⟩
theorem PI.or {X : Cx} {tg e : Expr} {t t' : TI} (h : PI X tg e t) (h' : PI X tg e t') : PI X tg e (fun σ H R => t σ H R ∨ t' σ H R) :=
  ⟨fun pins s σ H R I q => q.elim (h.run pins s σ H R I) (h'.run pins s σ H R I)⟩
theorem CallR.imp {X : Cx} {f : Value} {r r' : List V → Hp → VK → Prop} (h : CallR X f r) (k : ∀ xs H Q, r' xs H Q → r xs H Q) : CallR X f r' := fun pins s σ H xs us Q I rx q => h pins s σ H xs us Q I rx (k _ _ _ q)

/-! ### what the names of the text are -/
inductive GK where
  | fn (f np : Nat)
  | two (f g np : Nat)
  | fnk (f np : Nat) (ks : List Str) (dfl : List D)
  | gen (f np : Nat)
  | cls (c f np : Nat)
  | int (i : Int)
  | str (s : List Nat)
  | bn
structure Cn where
  N : List Str
  sc : Scope
  blk : Option Scope
  G : List (Str × GK)
  lam : Bool := false
/-- a maker of lambdas: its code object, its table -/
def LamC (W : WP) (X : Cx) : Prop := ∃ c P, X.env.code = .ref c ∧ LamX.TabB X.base X.mg c P ∧ (P, X.env.qual ++ "<lambda>") ∈ W.tbs ∧ ∀ p ∈ W.tbs, p.1 = P → p.2 = X.env.qual ++ "<lambda>"
def spS (W : WP) (F : Spc) : Sp := fun vs H Q _ => ∃ B μ S ds d S', Rel W B μ S H ∧ DenL W B μ ds vs ∧ F ds S = some (d, S') ∧
  ∀ B' μ' H' v, Step B μ H B' μ' H' → Rel W B' μ' S' H' → Den W B' μ' d v → Q v H'
/-- a def that keeps its promise; how its arguments bind -/
def FnS (W : WP) (k : Nat) (X : Cx) (a : Addr) (np : Nat) (F : Spc) : Prop := ∃ (fd : FuncData) (ps : List Str), ps.length = np ∧ Binds X.K fd ps [] ∧ FnOk X.prog X.w X.K X.mg X.base CX0 k a fd ps (spS W F)
def BindOk (W : WP) (K : PySem.W.Frag) (fd : FuncData) (ps : List Str) : BK → Prop
  | .pl => Binds K fd ps []
  | .kw ks dfl => ks.length ≤ ps.length ∧ (∃ (ds : List Value) (dvs : List V), Binds K fd ps ds ∧ Vals dvs ds ∧ ∀ B μ, DenL W B μ dfl dvs) ∧ ∃ g, KBn K fd ps (ps.length - ks.length) ks g (fun vs zs => vs ++ zs)
def FnB (W : WP) (k : Nat) (X : Cx) (a : Addr) (np : Nat) (bk : BK) (F : Spc) : Prop := ∃ (fd : FuncData) (ps : List Str), ps.length = np ∧ BindOk W X.K fd ps bk ∧ FnOk X.prog X.w X.K X.mg X.base CX0 k a fd ps (spS W F)
def spG (W : WP) (F : Spc) : SpG := fun vs H cont _ => ∃ B μ S ds ys S', Rel W B μ S H ∧ DenL W B μ ds vs ∧ F ds S = some (.lst ys, S') ∧ ∀ B' μ' H' out, Step B μ H B' μ' H' → Rel W B' μ' S' H' → DenL W B' μ' ys out → cont out H'
def GnS (W : WP) (k : Nat) (X : Cx) (a : Addr) (np : Nat) (F : Spc) : Prop := (∀ ds S, F ds S = none) ∨ (∀ ds S d S', F ds S = some (d, S') → ∃ ys, d = .lst ys) ∧ ∃ (j : Nat) (fd : FuncData) (ps : List Str), j + 3 ≤ k + 1 ∧ ps.length = np ∧ Binds X.K fd ps [] ∧ GFn X.prog X.w X.K X.mg X.base j a fd ps (spG W F)
def GOk (W : WP) (T : Tab) (k : Nat) (X : Cx) (x : Str) : GK → Prop
  | .fn f np => ∃ a, X.mg x = some (.ref a) ∧ PySem.W.keepIn X.K (.ref a) = true ∧ FnS W k X a np (T.fn f)
  | .two f g np => ∃ a, X.mg x = some (.ref a) ∧ PySem.W.keepIn X.K (.ref a) = true ∧ FnS W k X a np (T.fn f) ∧ FnS W k X a np (T.fn g)
  | .fnk f np ks dfl => ∃ a, X.mg x = some (.ref a) ∧ PySem.W.keepIn X.K (.ref a) = true ∧ FnB W k X a np (.kw ks dfl) (T.fn f)
  | .gen f np => ∃ a, X.mg x = some (.ref a) ∧ PySem.W.keepIn X.K (.ref a) = true ∧ GnS W k X a np (T.fn f)
  | .cls c f np => X.mg x = some (.ref (W.cls c)) ∧ ∃ a, Mk X.K (W.cls c) a ∧ FnS W k X a (np + 1) (T.fn f)
  | .int i => ∃ t, X.mg x = some (.int i t)
  | .str s => ∃ t, X.mg x = some (.str ⟨s.toArray⟩ t)
  | .bn => X.mg x = none
/-- what is known of the classes -/
structure KOk (W : WP) (T : Tab) (mnm : Nat → Str) (k : Nat) (X : Cx) : Prop where
  inj : ∀ f g, W.fnm f = W.fnm g → f = g
  nmf : ∀ m f, W.fnm f ≠ mnm m
  cls : ∀ c, T.ck c = true → Cls X.K (W.cls c)
  fld : ∀ c f, T.fl c f = true → NoAttr X.K (W.cls c) (W.fnm f)
  mth : ∀ c m f, T.mt c m = some f → ∃ a np, Meth X.K (W.cls c) (mnm m) a ∧ FnS W k X a np (T.fn f)
  ins : ∀ c, T.ic c = true → Cls X.K (W.cls c) ∧ PySem.W.findIn X.K (.ref (W.cls c)) "__class__" = some (some (.builtin "object.__class__")) ∧ PySem.W.specialIn X.K (.builtin "object.__class__") "__get__" = some (some (.builtin "getset_descriptor.__get__")) ∧
    PySem.W.takesIn X.K (.builtin "object.__class__") = some true ∧ PySem.W.mroIn X.K (W.cls c) (.type "object") = some true
  kit : ∀ c, T.ic c = true → PySem.W.kitOne X.K (.type "NoneType") (.ref (W.cls c)) = some false ∧ ∀ b : BTy, PySem.W.kitOne X.K (.type b.nm) (.ref (W.cls c)) = some false ∧ PySem.W.kitOne X.K (.ref (W.cls c)) (.type b.nm) = some false
  kit2 : ∀ c c', T.ic c = true → T.ic c' = true → PySem.W.kitOne X.K (.ref (W.cls c)) (.ref (W.cls c')) = some (c == c')
structure CxOk (c : Cn) (W : WP) (T : Tab) (mnm : Nat → Str) (k : Nat) (X : Cx) : Prop where
  hN : X.N = c.N
  hs : X.env.scope = c.sc
  hb : ∀ x, (match c.blk with | none => true | some s => s.names.lookup x == some .cell) = true → X.fn x = true
  nd : c.N.Nodup
  calm : X.calm = true
  room : Room (k + 1) X.A
  hK : X.K = W.K
  xe : X.xe = fun _ _ => False
  gl : ∀ x g, c.G.lookup x = some g → GOk W T k X x g
  kk : KOk W T mnm k X
  lam : c.lam = true → LamC W X
end LN

set_option Elab.async false
set_option linter.all false
set_option maxRecDepth 100000
set_option maxHeartbeats 1000000
namespace LN
open PySem L2
variable {W : WP} {B B' : Hp} {μ μ' : List Addr} {S S' : Store} {H H' : Hp} {c : Cn} {T : Tab} {mnm : Nat → Str} {k : Nat} {X : Cx}

theorem CxOk.hu (ok : CxOk c W T mnm k X) : X.A.units + 64 < cLine := ok.room.units
theorem CxOk.hu65 (ok : CxOk c W T mnm k X) : X.A.units + 65 < cLine := by have := ok.room.un; omega
theorem CxOk.r0 (ok : CxOk c W T mnm k X) : Room k X.A := ok.room.mono (Nat.le_succ k)
theorem sz {n : Nat} (h : szOk n = true) : n ≤ sizeLine := Nat.le_trans (of_decide_eq_true h) (by decide)

/-- two values under an operation: what is asked -/
def r2 (W : WP) (p : P2) : R2 := fun x y H Q => ∃ B μ S a b d, Rel W B μ S H ∧ Den W B μ a x ∧ Den W B μ b y ∧ p2 p a b S = some d ∧
  ∀ B' H' v, Step B μ H B' μ H' → Rel W B' μ S H' → Den W B' μ d v → Q v H'
theorem den_int {i : Int} {v : V} (h : Den W B μ (.int i) v) : v = .int i := by cases h; rfl
theorem den_bl {i : Bool} {v : V} (h : Den W B μ (.bl i) v) : v = .bl i := by cases h; rfl
theorem den_str {s : List Nat} {v : V} (h : Den W B μ (.str s) v) : v = .str ⟨s.toArray⟩ := by cases h; rfl
theorem den_non {v : V} (h : Den W B μ .non v) : v = .non := by cases h; rfl
theorem den_isN {a : D} {v : V} (h : Den W B μ a v) : decide (v = .non) = isNone a := by
  cases a <;> cases h <;> simp [isNone]
theorem ix_at {xs : List D} {vs : List V} {i : Int} {d : D} (r : DenL W B μ xs vs) (e : ixD xs i = some d) : ∃ v, atI vs i = some v ∧ Den W B μ d v := by
  unfold ixD at e
  have hl := r.length
  split at e
  · rename_i h0
    obtain ⟨v, h1, h2⟩ := r.at e
    have hlt : i.toNat < vs.length := (List.getElem?_eq_some_iff.mp h1).1
    refine ⟨v, ?_, h2⟩
    unfold atI ixN
    rw [if_pos h0, if_pos (by omega)]
    simpa using h1
  · split at e
    · rename_i h0 h1
      obtain ⟨v, g1, g2⟩ := r.at e
      refine ⟨v, ?_, g2⟩
      unfold atI ixN
      rw [if_neg h0, if_pos (by omega), ← hl]
      simpa using g1
    · cases e
theorem ixc_at {xs : List Nat} {i : Int} {d : Nat} (e : ixC xs i = some d) : atI xs i = some d := by
  unfold ixC at e
  unfold atI ixN
  split at e
  · rename_i h0
    have hlt : i.toNat < xs.length := (List.getElem?_eq_some_iff.mp e).1
    rw [if_pos h0, if_pos (by omega)]
    simpa using e
  · split at e
    · rename_i h0 h1
      rw [if_neg h0, if_pos h1]
      simpa using e
    · cases e
theorem op_in_dict {X : Cx} (hu : X.A.units + 1 < cLine) : OpR X (compareOp .In) (fun y x H Q => ∃ a o, x = .ref a ∧ DGet H a y o ∧ Q (.bl o.isSome) H) := by
  intro pins s σ H y x u v Q I ry rx h
  obtain ⟨a, o, rfl, g, q⟩ := h
  cases (show v = Value.ref a from rx)
  exact d_in hu I g ry fun s' I' => ⟨.bl _, H, I', rfl, q⟩
theorem op_notin_dict {X : Cx} (hu : X.A.units + 1 < cLine) : OpR X (compareOp .NotIn) (fun y x H Q => ∃ a o, x = .ref a ∧ DGet H a y o ∧ Q (.bl (!o.isSome)) H) := by
  intro pins s σ H y x u v Q I ry rx h
  obtain ⟨a, o, rfl, g, q⟩ := h
  cases (show v = Value.ref a from rx)
  exact d_notIn hu I g ry fun s' I' => ⟨.bl _, H, I', rfl, q⟩
theorem getK_val : ∀ {ks : List DK} {xs : List D} {vs : List V} {j : DK}, ks.length = xs.length → DenL W B μ xs vs →
    (∀ d, getK ks xs j = some d → ∃ v, valV ((ks.map kC).zip vs) (kC j) = some v ∧ Den W B μ d v) ∧ (getK ks xs j = none → valV ((ks.map kC).zip vs) (kC j) = none)
  | [], [], _, j, _, h => by cases h; exact ⟨fun d e => by simp [getK] at e, fun _ => rfl⟩
  | [], _ :: _, _, _, h, _ => by simp at h
  | _ :: _, [], _, _, h, _ => by simp at h
  | k :: ks, x :: xs, _, j, hl, h => by
    cases h with | cons h r => 
      have ih := getK_val (j := j) (by simpa using hl) r
      simp only [getK, List.map_cons, List.zip_cons_cons]
      by_cases e : k = j
      · subst e
        rw [if_pos rfl, valV_pos rfl]
        exact ⟨fun d e => by cases e; exact ⟨_, rfl, h⟩, fun e => by cases e⟩
      · rw [if_neg e, valV_neg (fun z => e (kC_inj z))]
        exact ih
theorem kV_of {a : D} {j : DK} {v : V} (h : Den W B μ a v) (e : keyD a = some j) : v = kV (kC j) := by
  cases a <;> simp [keyD] at e
  · cases h; subst e; rfl
  · cases h; subst e; rfl

theorem op_p2 (ok : CxOk c W T mnm k X) : 
    OpR X (binaryOp .Add) (r2 W .add) ∧ OpR X (binaryOp .Sub) (r2 W .sub) ∧ OpR X (binaryOp .Mult) (r2 W .mul) ∧ OpR X (binaryOp .FloorDiv) (r2 W .fdiv) ∧ OpR X (binaryOp .Mod) (r2 W .mod) ∧ OpR X (binaryOp .Pow) (r2 W .pow) := by
  refine ⟨?_, ?_, ?_, ?_, ?_, ?_⟩
  · refine OpR.imp (op_add.or (op_add_str.or op_cat)) ?_
    rintro x y H Q ⟨B, μ, S, a, b, d, r, ha, hb, e, q⟩
    simp only [p2] at e
    split at e
    · cases e
      exact .inl ⟨_, _, den_int ha, den_int hb, q _ _ _ (Step.refl ..) r (.int _)⟩
    · split at e
      · rename_i hz
        cases e
        refine .inr (.inl ⟨_, _, den_str ha, den_str hb, ?_, ?_⟩)
        · have := sz hz
          simpa [Str.length] using this
        · refine q _ _ _ (Step.refl ..) r ?_
          have : ∀ s t : List Nat, (⟨s.toArray⟩ : Str) ++ ⟨t.toArray⟩ = ⟨(s ++ t).toArray⟩ := fun s t => by
            show Str.append _ _ = _
            simp [Str.append]
          rw [this]
          exact .str _
      · cases e
    · split at e
      · rename_i xs ys q1 q2
        split at e
        · rename_i hz
          cases e
          obtain ⟨p1, vs, rfl, h1, d1⟩ := lst_ok r ha q1
          obtain ⟨p2, ws, rfl, h2, d2⟩ := lst_ok r hb q2
          refine .inr (.inr ⟨_, _, _, _, rfl, rfl, h1, h2, by rw [← d1.length, ← d2.length]; exact sz hz, fun p hp => ?_⟩)
          obtain ⟨s1, r1⟩ := r.data (o := .lst (vs ++ ws)) hp
          exact q _ _ _ s1 r1 (.lst upd_same (DenL.mono s1.grow s1.p _ _ (d1.append d2)))
        · cases e
      · cases e
  · refine OpR.imp op_sub ?_
    rintro x y H Q ⟨B, μ, S, a, b, d, r, ha, hb, e, q⟩
    simp only [p2] at e
    split at e
    · cases e
      exact ⟨_, _, den_int ha, den_int hb, q _ _ _ (Step.refl ..) r (.int _)⟩
    · cases e
  · refine OpR.imp op_mul ?_
    rintro x y H Q ⟨B, μ, S, a, b, d, r, ha, hb, e, q⟩
    simp only [p2] at e
    split at e
    · split at e
      · rename_i hc
        cases e
        refine ⟨_, _, den_int ha, den_int hb, ?_, q _ _ _ (Step.refl ..) r (.int _)⟩
        unfold cmulB at hc
        rw [Bool.or_eq_true, decide_eq_true_eq, decide_eq_true_eq] at hc
        exact hc
      · cases e
    · cases e
  · refine OpR.imp op_fdiv ?_
    rintro x y H Q ⟨B, μ, S, a, b, d, r, ha, hb, e, q⟩
    simp only [p2] at e
    split at e
    · split at e
      · rename_i hc
        cases e
        exact ⟨_, _, den_int ha, den_int hb, hc, q _ _ _ (Step.refl ..) r (.int _)⟩
      · cases e
    · cases e
  · refine OpR.imp op_mod ?_
    rintro x y H Q ⟨B, μ, S, a, b, d, r, ha, hb, e, q⟩
    simp only [p2] at e
    split at e
    · split at e
      · rename_i hc
        cases e
        exact ⟨_, _, den_int ha, den_int hb, hc, q _ _ _ (Step.refl ..) r (.int _)⟩
      · cases e
    · cases e
  · refine OpR.imp op_pow ?_
    rintro x y H Q ⟨B, μ, S, a, b, d, r, ha, hb, e, q⟩
    simp only [p2] at e
    split at e
    · split at e
      · rename_i hc
        cases e
        exact ⟨_, _, den_int ha, den_int hb, ⟨hc.1, by omega, hc.2.2⟩, q _ _ _ (Step.refl ..) r (.int _)⟩
      · cases e
    · cases e
theorem eqS_ok (r : Rel W B μ S H) {a b : D} {x y : V} {z : Bool} (ha : Den W B μ a x) (hb : Den W B μ b y) (e : eqS S a b = some z) :
    ∃ p q, Dp W.K H x p ∧ Dp W.K H y q ∧ SeqAt.shaped p = true ∧ SeqAt.shaped q = true ∧ z = PyData.eqv p q := by
  unfold eqS at e
  split at e
  · rename_i p q h1 h2
    split at e
    · rename_i hs
      cases e
      have hs : (SeqAt.shaped p && SeqAt.shaped q) = true := hs
      rw [Bool.and_eq_true] at hs
      exact ⟨p, q, pyS_ok r ha h1, pyS_ok r hb h2, hs.1, hs.2, rfl⟩
    · cases e
  · cases e
/-- what «in» asks: the three ways -/
theorem flV_of {d : D} {v : V} (h : Den W B μ d v) (f : flatD d = true) : v = flV d := by
  cases d <;> first | (cases f; done) | (cases h; rfl)
theorem flV_flat (d : D) : flatV (flV d) = true := by cases d <;> rfl
theorem flVs_of : ∀ {ds : List D} {vs : List V}, DenL W B μ ds vs → ds.all flatD = true → vs = ds.map flV ∧ vs.all flatV = true
  | [], _, h, _ => by cases h; exact ⟨rfl, rfl⟩
  | d :: ds, _, h, f => by
    cases h with | cons h1 h2 =>
      rw [List.all_cons, Bool.and_eq_true] at f
      obtain ⟨g1, g2⟩ := flVs_of h2 f.2
      have := flV_of h1 f.1
      subst this g1
      exact ⟨rfl, by rw [List.all_cons, flV_flat, g2]; rfl⟩
theorem inS_ok (r : Rel W B μ S H) {a b : D} {x y : V} {z : Bool} (ha : Den W B μ a x) (hb : Den W B μ b y) (e : inS S a b = some z) :
    (∃ (c : Nat) (t : Str), x = .str ⟨#[c]⟩ ∧ y = .str t ∧ z = decide (c ∈ t.cps.toList)) ∨
    (∃ d ds, Dp W.K H x d ∧ Dp W.K H y (.list ds) ∧ SeqAt.shaped d = true ∧ SeqAt.shaped (.list ds) = true ∧ z = ds.any fun w => PyData.eqv w d) ∨
    (∃ p o, y = .ref p ∧ DGet H p x o ∧ z = o.isSome) ∨
    (∃ p vs, y = .ref p ∧ SqT W.K H p vs ∧ flatV x = true ∧ vs.all flatV = true ∧ z = inV x vs) := by
  unfold inS at e
  split at e
  · rename_i t
    split at e
    · rename_i c
      cases e
      refine .inl ⟨c, ⟨t.toArray⟩, den_str ha, den_str hb, ?_⟩
      simp
    · cases e
  · split at e
    · rename_i xs hf
      cases e
      rw [Bool.and_eq_true] at hf
      cases hb with | tup h1 h2 =>
        have hx := flV_of ha hf.1
        obtain ⟨g1, g2⟩ := flVs_of h2 hf.2
        refine .inr (.inr (.inr ⟨_, _, rfl, ex_t r.sub h1, ?_, g2, ?_⟩))
        · rw [hx]; exact flV_flat _
        · rw [hx, g1]
    · cases e
  · split at e
    · rename_i p ys h1 h2
      split at e
      · rename_i hs
        cases e
        have hs : (SeqAt.shaped p && SeqAt.shaped (.list ys)) = true := hs
        rw [Bool.and_eq_true] at hs
        exact .inr (.inl ⟨p, ys, pyS_ok r ha h1, pyS_ok r hb h2, hs.1, hs.2, rfl⟩)
      · cases e
    · split at e
      · rename_i kk hk _ _ _
        split at e
        · rename_i ks xs hS
          cases e
          obtain ⟨p, rfl, hm, vs, h1, hl, h2⟩ := r.get hb hS
          have g := getK_val (j := kk) hl h2
          refine .inr (.inr (.inl ⟨p, valV ((ks.map kC).zip vs) (kC kk), rfl, ?_, ?_⟩))
          · rw [kV_of ha hk]
            exact DGet.k h1
          · cases q : getK ks xs kk with
            | none => rw [g.2 q]; rfl
            | some d => obtain ⟨v, e1, _⟩ := g.1 d q; rw [e1]; simp
        · cases e
      · cases e
theorem op_c2 (ok : CxOk c W T mnm k X) : 
    OpR X (compareOp .Eq) (r2 W .eq) ∧ OpR X (compareOp .NotEq) (r2 W .ne) ∧ OpR X (compareOp .Lt) (r2 W .lt) ∧ OpR X (compareOp .LtE) (r2 W .le) ∧ OpR X (compareOp .Gt) (r2 W .gt) ∧ OpR X (compareOp .GtE) (r2 W .ge) ∧
    OpR X (compareOp .Is) (r2 W .isN) ∧ OpR X (compareOp .IsNot) (r2 W .notN) ∧ OpR X (compareOp .In) (r2 W .inn) ∧ OpR X (compareOp .NotIn) (r2 W .notin) := by
  refine ⟨?_, ?_, ?_, ?_, ?_, ?_, ?_, ?_, ?_, ?_⟩
  · refine OpR.imp (op_eqD ok.hu) ?_
    rintro x y H Q ⟨B, μ, S, a, b, d, r, ha, hb, e, q⟩
    simp only [p2] at e
    cases h : eqS S a b with
    | none => rw [h] at e; cases e
    | some z =>
      rw [h] at e; cases e
      obtain ⟨p, p', h1, h2, s1, s2, rfl⟩ := eqS_ok r ha hb h
      rw [ok.hK]
      exact ⟨p, p', h1, h2, s1, s2, q _ _ _ (Step.refl ..) r (.bl _)⟩
  · refine OpR.imp (op_neD ok.hu) ?_
    rintro x y H Q ⟨B, μ, S, a, b, d, r, ha, hb, e, q⟩
    simp only [p2] at e
    cases h : eqS S a b with
    | none => rw [h] at e; cases e
    | some z =>
      rw [h] at e; cases e
      obtain ⟨p, p', h1, h2, s1, s2, rfl⟩ := eqS_ok r ha hb h
      rw [ok.hK]
      exact ⟨p, p', h1, h2, s1, s2, q _ _ _ (Step.refl ..) r (.bl _)⟩
  · refine OpR.imp op_lt ?_
    rintro x y H Q ⟨B, μ, S, a, b, d, r, ha, hb, e, q⟩
    simp only [p2] at e
    split at e
    · cases e
      exact ⟨_, _, den_int ha, den_int hb, q _ _ _ (Step.refl ..) r (.bl _)⟩
    · cases e
  · refine OpR.imp op_le ?_
    rintro x y H Q ⟨B, μ, S, a, b, d, r, ha, hb, e, q⟩
    simp only [p2] at e
    split at e
    · cases e
      exact ⟨_, _, den_int ha, den_int hb, q _ _ _ (Step.refl ..) r (.bl _)⟩
    · cases e
  · refine OpR.imp op_gt ?_
    rintro x y H Q ⟨B, μ, S, a, b, d, r, ha, hb, e, q⟩
    simp only [p2] at e
    split at e
    · cases e
      exact ⟨_, _, den_int ha, den_int hb, q _ _ _ (Step.refl ..) r (.bl _)⟩
    · cases e
  · refine OpR.imp op_ge ?_
    rintro x y H Q ⟨B, μ, S, a, b, d, r, ha, hb, e, q⟩
    simp only [p2] at e
    split at e
    · cases e
      exact ⟨_, _, den_int ha, den_int hb, q _ _ _ (Step.refl ..) r (.bl _)⟩
    · cases e
  · refine OpR.imp op_isN ?_
    rintro x y H Q ⟨B, μ, S, a, b, d, r, ha, hb, e, q⟩
    simp only [p2] at e
    split at e
    · cases e
      refine ⟨den_non hb, ?_⟩
      rw [den_isN ha]
      exact q _ _ _ (Step.refl ..) r (.bl _)
    · cases e
  · refine OpR.imp op_notN ?_
    rintro x y H Q ⟨B, μ, S, a, b, d, r, ha, hb, e, q⟩
    simp only [p2] at e
    split at e
    · cases e
      refine ⟨den_non hb, ?_⟩
      rw [den_isN ha]
      exact q _ _ _ (Step.refl ..) r (.bl _)
    · cases e
  · refine OpR.imp (op_in_sign.or ((op_inD ok.hu65).or ((op_in_dict (by have := ok.hu; omega)).or op_in_seq))) ?_
    rintro x y H Q ⟨B, μ, S, a, b, d, r, ha, hb, e, q⟩
    simp only [p2] at e
    cases h : inS S a b with
    | none => rw [h] at e; cases e
    | some z =>
      rw [h] at e; cases e
      have fin := q _ _ _ (Step.refl ..) r (.bl z)
      rcases inS_ok r ha hb h with ⟨c, t, h1, h2, rfl⟩ | ⟨d, ds, h1, h2, h3, h4, rfl⟩ | ⟨p, o, h1, h2, rfl⟩ | ⟨p, vs, h1, h2, h3, h4, rfl⟩
      · exact .inl ⟨c, t, h1, h2, fin⟩
      · exact .inr (.inl (by rw [ok.hK]; exact ⟨d, ds, h1, h2, h3, h4, fin⟩))
      · exact .inr (.inr (.inl ⟨p, o, h1, h2, fin⟩))
      · exact .inr (.inr (.inr (by rw [ok.hK]; exact ⟨p, vs, h1, .inr h2, h3, h4, fin⟩)))
  · refine OpR.imp (op_notIn_sign.or ((op_notInD ok.hu65).or ((op_notin_dict (by have := ok.hu; omega)).or op_notIn_seq))) ?_
    rintro x y H Q ⟨B, μ, S, a, b, d, r, ha, hb, e, q⟩
    simp only [p2] at e
    cases h : inS S a b with
    | none => rw [h] at e; cases e
    | some z =>
      rw [h] at e; cases e
      have fin := q _ _ _ (Step.refl ..) r (.bl (!z))
      rcases inS_ok r ha hb h with ⟨c, t, h1, h2, rfl⟩ | ⟨d, ds, h1, h2, h3, h4, rfl⟩ | ⟨p, o, h1, h2, rfl⟩ | ⟨p, vs, h1, h2, h3, h4, rfl⟩
      · exact .inl ⟨c, t, h1, h2, fin⟩
      · exact .inr (.inl (by rw [ok.hK]; exact ⟨d, ds, h1, h2, h3, h4, fin⟩))
      · exact .inr (.inr (.inl ⟨p, o, h1, h2, fin⟩))
      · exact .inr (.inr (.inr (by rw [ok.hK]; exact ⟨p, vs, h1, .inr h2, h3, h4, fin⟩)))
theorem ix_p2 (ok : CxOk c W T mnm k X) : IxR X (r2 W .idx) := by
  refine IxR.imp ix_seq ?_
  rintro x y H Q ⟨B, μ, S, a, b, d, r, ha, hb, e, q⟩
  simp only [p2] at e
  split at e
  · rename_i i
    have hy := den_int hb
    split at e
    · rename_i s
      split at e
      · rename_i hz
        cases h : ixC s i with
        | none => rw [h] at e; cases e
        | some z =>
          rw [h] at e; cases e
          refine .inr (.inr ⟨⟨s.toArray⟩, i, z, den_str ha, hy, ?_, by simpa using ixc_at h, ?_⟩)
          · have := sz hz
            simpa [Str.length] using this
          · exact q _ _ _ (Step.refl ..) r (.str [z])
      · cases e
    · split at e
      · rename_i xs hq
        obtain ⟨p, vs, rfl, h1, h2⟩ := seq_ok r ha hq
        obtain ⟨v, h3, h4⟩ := ix_at h2 e
        rw [ok.hK]
        rcases h1 with h1 | h1
        · exact .inl ⟨p, vs, i, v, rfl, hy, h1, h3, q _ _ _ (Step.refl ..) r h4⟩
        · exact .inr (.inl ⟨p, vs, i, v, rfl, hy, h1, h3, q _ _ _ (Step.refl ..) r h4⟩)
      · cases e
  · cases e
end LN

set_option Elab.async false
set_option linter.all false
set_option maxRecDepth 100000
set_option maxHeartbeats 1000000
namespace LN
open PySem L2
variable {W : WP} {B B' : Hp} {μ μ' : List Addr} {S S' : Store} {H H' : Hp} {c : Cn} {T : Tab} {mnm : Nat → Str} {k : Nat} {X : Cx}

/-! ### numbers in lists -/
theorem ints_of : ∀ {xs : List D} {is : List Int} {vs : List V}, intsD xs = some is → DenL W B μ xs vs → vs = is.map V.int
  | [], is, vs, e, h => by cases h; simp [intsD] at e; subst e; rfl
  | x :: xs, is, vs, e, h => by
    cases h with | cons h r =>
      cases x with
      | int i =>
        simp only [intsD] at e
        cases q : intsD xs with
        | none => rw [q] at e; cases e
        | some js =>
          rw [q] at e; cases e
          rw [den_int h, ints_of q r]; rfl
      | _ => simp [intsD] at e
theorem bls_of : ∀ {xs : List D} {is : List Bool} {vs : List V}, blsD xs = some is → DenL W B μ xs vs → vs = is.map V.bl
  | [], is, vs, e, h => by cases h; simp [blsD] at e; subst e; rfl
  | x :: xs, is, vs, e, h => by
    cases h with | cons h r =>
      cases x with
      | bl i =>
        simp only [blsD] at e
        cases q : blsD xs with
        | none => rw [q] at e; cases e
        | some js =>
          rw [q] at e; cases e
          rw [den_bl h, bls_of q r]; rfl
      | _ => simp [blsD] at e
theorem denL_ints : ∀ is : List Int, DenL W B μ (is.map D.int) (is.map V.int)
  | [] => .nil
  | i :: is => .cons (.int i) (denL_ints is)
theorem intsD_len : ∀ {xs : List D} {is : List Int}, intsD xs = some is → is.length = xs.length
  | [], is, e => by simp [intsD] at e; subst e; rfl
  | x :: xs, is, e => by
    cases x with
    | int i =>
      simp only [intsD] at e
      cases q : intsD xs with
      | none => rw [q] at e; cases e
      | some js => rw [q] at e; cases e; simp [intsD_len q]
    | _ => simp [intsD] at e
theorem maxI_mem : ∀ {is : List Int}, is ≠ [] → maxI is ∈ is ∧ ∀ y ∈ is, y ≤ maxI is
  | [], h => absurd rfl h
  | [i], _ => ⟨by simp [maxI], by simp [maxI]⟩
  | i :: j :: is, _ => by
    have ih := maxI_mem (is := j :: is) (by simp)
    simp only [maxI]
    split
    · rename_i hlt
      exact ⟨by simp, fun y hy => by
        rcases List.mem_cons.mp hy with e | hy
        · omega
        · have := ih.2 y hy; omega⟩
    · rename_i hlt
      refine ⟨List.mem_cons_of_mem _ ih.1, fun y hy => ?_⟩
      rcases List.mem_cons.mp hy with e | hy
      · omega
      · exact ih.2 y hy
theorem minI_mem : ∀ {is : List Int}, is ≠ [] → minI is ∈ is ∧ ∀ y ∈ is, minI is ≤ y
  | [], h => absurd rfl h
  | [i], _ => ⟨by simp [minI], by simp [minI]⟩
  | i :: j :: is, _ => by
    have ih := minI_mem (is := j :: is) (by simp)
    simp only [minI]
    split
    · rename_i hlt
      exact ⟨by simp, fun y hy => by
        rcases List.mem_cons.mp hy with e | hy
        · omega
        · have := ih.2 y hy; omega⟩
    · rename_i hlt
      refine ⟨List.mem_cons_of_mem _ ih.1, fun y hy => ?_⟩
      rcases List.mem_cons.mp hy with e | hy
      · omega
      · exact ih.2 y hy
theorem insI_perm (i : Int) : ∀ js : List Int, (insI i js).Perm (i :: js)
  | [] => .refl _
  | j :: js => by
    simp only [insI]
    split
    · exact .refl _
    · exact ((insI_perm i js).cons j).trans (List.Perm.swap i j js)
theorem insI_sorted (i : Int) : ∀ {js : List Int}, js.Pairwise (· ≤ ·) → (insI i js).Pairwise (· ≤ ·)
  | [], _ => by simp [insI]
  | j :: js, h => by
    simp only [insI]
    rw [List.pairwise_cons] at h
    split
    · rename_i hij
      rw [List.pairwise_cons, List.pairwise_cons]
      refine ⟨fun y hy => ?_, h⟩
      rcases List.mem_cons.mp hy with e | hy
      · omega
      · have := h.1 y hy; omega
    · rename_i hij
      rw [List.pairwise_cons]
      refine ⟨fun y hy => ?_, insI_sorted i h.2⟩
      rcases List.mem_cons.mp ((insI_perm i js).mem_iff.mp hy) with e | hy
      · omega
      · exact h.1 y hy
theorem sortI_perm : ∀ is : List Int, (sortI is).Perm is
  | [] => .refl _
  | i :: is => (insI_perm i (sortI is)).trans ((sortI_perm is).cons i)
theorem sortI_sorted : ∀ is : List Int, (sortI is).Pairwise (· ≤ ·)
  | [] => .nil
  | i :: is => insI_sorted i (sortI_sorted is)
theorem sorted_unique : ∀ {a b : List Int}, a.Perm b → a.Pairwise (· ≤ ·) → b.Pairwise (· ≤ ·) → a = b
  | [], b, p, _, _ => (List.nil_perm.mp p).symm
  | x :: a, [], p, _, _ => by have := p.length_eq; simp at this
  | x :: a, y :: b, p, ha, hb => by
    rw [List.pairwise_cons] at ha hb
    have e : x = y := by
      have h1 : x ∈ y :: b := p.mem_iff.mp (by simp)
      have h2 : y ∈ x :: a := p.mem_iff.mpr (by simp)
      rcases List.mem_cons.mp h1 with e | h1
      · exact e
      · rcases List.mem_cons.mp h2 with e | h2
        · exact e.symm
        · have := ha.1 y h2; have := hb.1 x h1; omega
    subst e
    rw [sorted_unique (List.Perm.cons_inv p) ha.2 hb.2]

/-! ### a new list -/
theorem newL_ok (r : Rel W B μ S H) {xs : List D} {vs : List V} {p : Addr} (cell : Bool) (hp : H p = none) (h : DenL W B μ xs vs) :
    ∃ B' μ', Step B μ H B' μ' (upd H p (.lst vs)) ∧ Rel W B' μ' (newL cell xs S).2 (upd H p (.lst vs)) ∧ Den W B' μ' (newL cell xs S).1 (.ref p) := by
  cases cell with
  | false =>
    obtain ⟨s1, r1⟩ := r.data (o := .lst vs) hp
    exact ⟨_, _, s1, r1, .lst upd_same (DenL.mono s1.grow s1.p _ _ h)⟩
  | true =>
    have hm : DenL W B (μ ++ [p]) xs vs := DenL.mono (Ex.refl _) ⟨[p], rfl⟩ _ _ h
    obtain ⟨s1, r1⟩ := r.newc (o := .lst vs) (c := .lst xs) hp ⟨vs, upd_same, hm⟩
    refine ⟨_, _, s1, r1, .obj ?_⟩
    show (μ ++ [p])[S.length]? = some p
    rw [← r.len]
    simp
theorem newT_ok (r : Rel W B μ S H) {xs : List D} {vs : List V} {p : Addr} (hp : H p = none) (h : DenL W B μ xs vs) :
    ∃ B', Step B μ H B' μ (upd H p (.tup vs)) ∧ Rel W B' μ S (upd H p (.tup vs)) ∧ Den W B' μ (.tup xs) (.ref p) := by
  obtain ⟨s1, r1⟩ := r.data (o := .tup vs) hp
  exact ⟨_, s1, r1, .tup (.inl (.inl upd_same)) (DenL.mono s1.grow s1.p _ _ h)⟩

/-! ### built-ins -/
def outB (cell : Bool) (nv : NV) (S : Store) : D × Store := match nv with
  | .v d => (d, S)
  | .l xs => newL cell xs S
  | .t xs => (.tup xs, S)
def rB (W : WP) (p : PB) (cell : Bool) : List V → Hp → VK → Prop := fun vs H Q => ∃ B μ S ds nv, Rel W B μ S H ∧ DenL W B μ ds vs ∧ pb p ds S = some nv ∧
  ∀ B' μ' H' v, Step B μ H B' μ' H' → Rel W B' μ' (outB cell nv S).2 H' → Den W B' μ' (outB cell nv S).1 v → Q v H'
def PB.fv : PB → Value
  | .len => .builtin "len"
  | .list => .type "list"
  | .tuple => .type "tuple"
  | .max => .builtin "max"
  | .min => .builtin "min"
  | .sum => .builtin "sum"
  | .all => .builtin "all"
  | .any => .builtin "any"
  | .int => .type "int"
  | .abs => .builtin "abs"
  | .sorted => .builtin "sorted"
  | .sortLN => .none
  | .str => .type "str"
theorem cr_never {X : Cx} {f : Value} : CallR X f (fun _ _ _ => False) := fun _ _ _ _ _ _ _ _ _ h => h.elim
theorem den_dk (j : DK) : Den W B μ (dkD j) (kV (kC j)) := by
  cases j with
  | inl i => exact .int i
  | inr s => exact .str s
theorem denL_dk : ∀ {ks : List DK} {vs : List V}, ks.length = vs.length → DenL W B μ (ks.map dkD) (((ks.map kC).zip vs).map fun kv => kV kv.1)
  | [], _, _ => .nil
  | k :: ks, [], h => by simp at h
  | k :: ks, v :: vs, h => .cons (den_dk k) (denL_dk (ks := ks) (vs := vs) (by simpa using h))
theorem cr_pb (ok : CxOk c W T mnm k X) (p : PB) (cell : Bool) (hnn : p.fv ≠ .none) : CallR X p.fv (rB W p cell) := by
  cases p with
  | len =>
    refine CallR.imp (CallR.or call_len call_lenD) ?_
    rintro vs H Q ⟨B, μ, S, ds, nv, r, h, e, q⟩
    unfold pb at e
    split at e <;> first | contradiction | skip
    · rename_i s _
      split at e
      · rename_i hz
        cases e
        cases h with | cons h r0 => cases r0 with | nil => 
          have hx := den_str h
          subst hx
          refine .inl ⟨_, s.length, rfl, ⟨by simpa [Str.length] using sz hz, by simp [Str.length]⟩, ?_⟩
          exact q _ _ _ _ (Step.refl ..) r (.int _)
      · cases e
    · rename_i a _ _
      cases hs : seqD S a with
      | none =>
        rw [hs] at e
        dsimp only at e
        split at e
        · split at e
          · rename_i ks xs hS
            cases e
            cases h with | cons h r0 => cases r0 with | nil =>
              obtain ⟨p, rfl, hm, ws, h1, h2, h3⟩ := r.get h hS
              refine .inr ⟨p, _, rfl, h1, ?_⟩
              rw [List.length_zip, List.length_map, Nat.min_eq_left (by rw [← h3.length, h2]; exact Nat.le_refl _)]
              exact q _ _ _ _ (Step.refl ..) r (.int _)
          · cases e
        · cases e
      | some xs =>
        rw [hs] at e; cases e
        cases h with | cons h r0 => cases r0 with | nil => 
          obtain ⟨p, ws, rfl, h1, h2⟩ := seq_ok r h hs
          rw [ok.hK]
          refine .inl ⟨_, xs.length, rfl, ?_, ?_⟩
          · rcases h1 with h1 | h1
            · exact .inl ⟨ws, h1, h2.length⟩
            · exact .inr ⟨ws, h1, h2.length⟩
          · exact q _ _ _ _ (Step.refl ..) r (.int _)
  | list =>
    refine CallR.imp (CallR.or call_list_of (call_list_dK ok.calm)) ?_
    rintro vs H Q ⟨B, μ, S, ds, nv, r, h, e, q⟩
    unfold pb at e
    split at e <;> first | contradiction | skip
    rename_i a _
    cases hs : seqD S a with
    | none =>
      rw [hs] at e
      dsimp only at e
      split at e
      · split at e
        · rename_i ks xs hS
          cases e
          cases h with | cons h r0 => cases r0 with | nil =>
            obtain ⟨p, rfl, hm, ws, h1, h2, h3⟩ := r.get h hS
            refine .inr ⟨p, _, rfl, h1, fun l hl => ?_⟩
            obtain ⟨B', μ', s1, r1, d1⟩ := newL_ok r cell hl (denL_dk (W := W) (B := B) (μ := μ) (ks := ks) (vs := ws) (h2.trans h3.length))
            exact q _ _ _ _ s1 r1 d1
        · cases e
      · cases e
    | some xs =>
      rw [hs] at e; cases e
      cases h with | cons h r0 => cases r0 with | nil => 
        obtain ⟨p, ws, rfl, h1, h2⟩ := seq_ok r h hs
        rw [ok.hK]
        refine .inl ⟨p, ws, rfl, h1, fun l hl => ?_⟩
        obtain ⟨B', μ', s1, r1, d1⟩ := newL_ok r cell hl h2
        exact q _ _ _ _ s1 r1 d1
  | tuple =>
    refine CallR.imp call_tuple_of ?_
    rintro vs H Q ⟨B, μ, S, ds, nv, r, h, e, q⟩
    unfold pb at e
    split at e <;> first | contradiction | skip
    · cases e
      rw [ok.hK]
      cases h with | cons h r0 => cases r0 with | nil => 
        have h' := h
        cases h' with | tup h1 h2 => 
          exact ⟨_, _, rfl, .inr ⟨ex_t r.sub h1, q _ _ _ _ (Step.refl ..) r h⟩⟩
    · rename_i a hne _
      cases hs : seqD S a with
      | none => rw [hs] at e; cases e
      | some xs =>
        rw [hs] at e; cases e
        cases h with | cons h r0 => cases r0 with | nil => 
          rw [ok.hK]
          have fin : ∀ {p : Addr} {ws : List V}, SqL W.K H p ws → DenL W B μ xs ws → ∃ (a : Addr) (ys : List V), [V.ref p] = [V.ref a] ∧ ((SqL W.K H a ys ∧ ∀ l, H l = none → Q (.ref l) (upd H l (.tup ys))) ∨ (SqT W.K H a ys ∧ Q (.ref a) H)) := fun {p ws} h1 h2 =>
            ⟨p, ws, rfl, .inl ⟨h1, fun l hl => by
              obtain ⟨B', s1, r1, d1⟩ := newT_ok r hl h2
              exact q _ _ _ _ s1 r1 d1⟩⟩
          cases a with
          | tup ys => exact absurd rfl (hne ys)
          | lst ys => cases h with | lst h1 h2 => simp [seqD] at hs; subst hs; exact fin (SqL.of (r.sub _ _ h1)) h2
          | scr ys => cases h with | scr h1 h2 => simp [seqD] at hs; subst hs; exact fin (ex_l r.sub h1) h2
          | obj i =>
            simp only [seqD] at hs
            split at hs
            · rename_i ys hq
              cases hs
              obtain ⟨a, rfl, hm, ws, h1, h2⟩ := r.get h hq
              exact fin (SqL.of h1) h2
            · cases hs
          | _ => simp [seqD] at hs
  | max =>
    refine CallR.imp (CallR.or (call_max2 ok.calm) (cr_max ok.calm)) ?_
    rintro vs H Q ⟨B, μ, S, ds, nv, r, h, e, q⟩
    unfold pb at e
    split at e <;> first | contradiction | skip
    · cases e
      cases h with | cons h r0 => cases r0 with | cons h' r0 => cases r0 with | nil => 
        have e1 := den_int h
        have e2 := den_int h'
        subst e1 e2
        exact .inl ⟨_, _, rfl, q _ _ _ _ (Step.refl ..) r (.int _)⟩
    · split at e
      · rename_i x xs hq
        cases hi : intsD (x :: xs) with
        | none => rw [hi] at e; cases e
        | some is =>
          rw [hi] at e; cases e
          cases h with | cons h r0 => cases r0 with | nil => 
            obtain ⟨p, ws, rfl, h1, h2⟩ := lst_ok r h hq
            have ew := ints_of hi h2
            subst ew
            have hl := intsD_len hi
            refine .inr ⟨p, is, rfl, by rw [ok.hK]; exact SqL.of h1, by rw [hl]; simp, fun m hm hle => ?_⟩
            have g := maxI_mem (is := is) (by intro z; rw [z] at hl; simp at hl)
            have em : m = maxI is := by have := hle _ g.1; have := g.2 _ hm; omega
            subst em
            exact q _ _ _ _ (Step.refl ..) r (.int _)
      · cases e
  | min =>
    refine CallR.imp (CallR.or (call_min2 ok.calm) (cr_min ok.calm)) ?_
    rintro vs H Q ⟨B, μ, S, ds, nv, r, h, e, q⟩
    unfold pb at e
    split at e <;> first | contradiction | skip
    · cases e
      cases h with | cons h r0 => cases r0 with | cons h' r0 => cases r0 with | nil => 
        have e1 := den_int h
        have e2 := den_int h'
        subst e1 e2
        exact .inl ⟨_, _, rfl, q _ _ _ _ (Step.refl ..) r (.int _)⟩
    · split at e
      · rename_i x xs hq
        cases hi : intsD (x :: xs) with
        | none => rw [hi] at e; cases e
        | some is =>
          rw [hi] at e; cases e
          cases h with | cons h r0 => cases r0 with | nil => 
            obtain ⟨p, ws, rfl, h1, h2⟩ := lst_ok r h hq
            have ew := ints_of hi h2
            subst ew
            have hl := intsD_len hi
            refine .inr ⟨p, is, rfl, by rw [ok.hK]; exact SqL.of h1, by rw [hl]; simp, fun m hm hle => ?_⟩
            have g := minI_mem (is := is) (by intro z; rw [z] at hl; simp at hl)
            have em : m = minI is := by have := hle _ g.1; have := g.2 _ hm; omega
            subst em
            exact q _ _ _ _ (Step.refl ..) r (.int _)
      · cases e
  | sum =>
    refine CallR.imp (cr_sum ok.calm) ?_
    rintro vs H Q ⟨B, μ, S, ds, nv, r, h, e, q⟩
    unfold pb at e
    split at e <;> first | contradiction | skip
    split at e
    · rename_i xs hq
      cases hi : intsD xs with
      | none => rw [hi] at e; cases e
      | some is =>
        rw [hi] at e; cases e
        cases h with | cons h r0 => cases r0 with | nil => 
          obtain ⟨p, ws, rfl, h1, h2⟩ := lst_ok r h hq
          have ew := ints_of hi h2
          subst ew
          exact ⟨p, is, rfl, by rw [ok.hK]; exact SqL.of h1, q _ _ _ _ (Step.refl ..) r (.int _)⟩
    · cases e
  | all =>
    refine CallR.imp (cr_all ok.calm) ?_
    rintro vs H Q ⟨B, μ, S, ds, nv, r, h, e, q⟩
    unfold pb at e
    split at e <;> first | contradiction | skip
    split at e
    · rename_i xs hq
      cases hi : blsD xs with
      | none => rw [hi] at e; cases e
      | some is =>
        rw [hi] at e; cases e
        cases h with | cons h r0 => cases r0 with | nil => 
          obtain ⟨p, ws, rfl, h1, h2⟩ := lst_ok r h hq
          have ew := bls_of hi h2
          subst ew
          exact ⟨p, is, rfl, by rw [ok.hK]; exact SqL.of h1, q _ _ _ _ (Step.refl ..) r (.bl _)⟩
    · cases e
  | any =>
    refine CallR.imp (cr_any ok.calm) ?_
    rintro vs H Q ⟨B, μ, S, ds, nv, r, h, e, q⟩
    unfold pb at e
    split at e <;> first | contradiction | skip
    split at e
    · rename_i xs hq
      cases hi : blsD xs with
      | none => rw [hi] at e; cases e
      | some is =>
        rw [hi] at e; cases e
        cases h with | cons h r0 => cases r0 with | nil => 
          obtain ⟨p, ws, rfl, h1, h2⟩ := lst_ok r h hq
          have ew := bls_of hi h2
          subst ew
          exact ⟨p, is, rfl, by rw [ok.hK]; exact SqL.of h1, q _ _ _ _ (Step.refl ..) r (.bl _)⟩
    · cases e
  | int =>
    refine CallR.imp call_int1 ?_
    rintro vs H Q ⟨B, μ, S, ds, nv, r, h, e, q⟩
    unfold pb at e
    split at e <;> first | contradiction | skip
    · cases e
      cases h with | cons h r0 => cases r0 with | nil => 
        have e1 := den_int h
        subst e1
        exact .inl ⟨_, rfl, q _ _ _ _ (Step.refl ..) r (.int _)⟩
    · cases e
      cases h with | cons h r0 => cases r0 with | nil => 
        have e1 := den_bl h
        subst e1
        exact .inr ⟨_, rfl, q _ _ _ _ (Step.refl ..) r (.int _)⟩
  | abs =>
    refine CallR.imp call_abs ?_
    rintro vs H Q ⟨B, μ, S, ds, nv, r, h, e, q⟩
    unfold pb at e
    split at e <;> first | contradiction | skip
    cases e
    cases h with | cons h r0 => cases r0 with | nil => 
      have e1 := den_int h
      subst e1
      exact ⟨_, rfl, q _ _ _ _ (Step.refl ..) r (.int _)⟩
  | sorted =>
    refine CallR.imp cr_sorted ?_
    rintro vs H Q ⟨B, μ, S, ds, nv, r, h, e, q⟩
    unfold pb at e
    split at e <;> first | contradiction | skip
    split at e
    · rename_i xs hq
      split at e
      · rename_i hlt
        cases hi : intsD xs with
        | none => rw [hi] at e; cases e
        | some is =>
          rw [hi] at e; cases e
          cases h with | cons h r0 => cases r0 with | nil => 
            obtain ⟨p, ws, rfl, h1, h2⟩ := lst_ok r h hq
            have ew := ints_of hi h2
            subst ew
            refine ⟨p, is, rfl, by rw [ok.hK]; exact SqL.of h1, by rw [intsD_len hi]; exact hlt, fun ns' l hp hs hl => ?_⟩
            have en : ns' = sortI is := sorted_unique (hp.trans (sortI_perm is).symm) hs (sortI_sorted is)
            subst en
            obtain ⟨B', μ', s1, r1, d1⟩ := newL_ok r cell hl (denL_ints (W := W) (B := B) (μ := μ) (sortI is))
            exact q _ _ _ _ s1 r1 d1
      · cases e
    · cases e
  | sortLN => exact (hnn rfl).elim
  | str =>
    refine CallR.imp cr_never ?_
    rintro vs H Q ⟨B, μ, S, ds, nv, r, h, e, q⟩
    unfold pb at e
    split at e <;> contradiction
end LN

set_option Elab.async false
set_option linter.all false
set_option maxRecDepth 100000
set_option maxHeartbeats 1000000
namespace LN
open PySem L2
variable {W : WP} {B B' : Hp} {μ μ' : List Addr} {S S' : Store} {H H' : Hp} {c : Cn} {T : Tab} {mnm : Nat → Str} {k : Nat} {X : Cx}

/-! ### what is shown of an expression -/
def SndE (c : Cn) (W : WP) (T : Tab) (mnm : Nat → Str) (k : Nat) (e : Expr) (ie : IE) : Prop := ∀ X, CxOk c W T mnm k X → PE X e (tE W (evE T ie)) ∧ PT X e (tT W (evE T ie))
def nstar : Expr → Bool
  | .Starred _ _ => false
  | _ => true
def SndL (c : Cn) (W : WP) (T : Tab) (mnm : Nat → Str) (k : Nat) (es : List Expr) (ies : List IE) : Prop := (∀ X, CxOk c W T mnm k X → PA X es (tL W (evL T ies))) ∧ es.all nstar = true
theorem star_cons {e : Expr} {es : List Expr} {env : Env} (h : nstar e = true) : starEach (e :: es) env = (false, eval e env) :: starEach es env := by
  cases e <;> first | rfl | cases h
theorem star_any {es : List Expr} {env : Env} {pos : Pos} (h : es.all nstar = true) : (backTo pos (starEach es env)).any (·.1) = false := by
  induction es with
  | nil => rfl
  | cons e es ih =>
    rw [List.all_cons, Bool.and_eq_true] at h
    rw [star_cons h.1]
    show ((false : Bool) || (backTo pos (starEach es env)).any (·.1)) = false
    rw [ih h.2]; rfl
/-- plainly tested -/
def plainT (e : Expr) : Prop := ∀ (env : Env) (whole : Sem Value), isTrue e env whole = (do let v ← whole; standAt e.pos; holding [v] (truthy v))
theorem pt_ev {e : Expr} {ev : EvF D} (h : PE X e (tE W ev)) (he : plainT e) : PT X e (tT W ev) := by
  refine PT.imp (pt_val h (he X.env)) ?_
  rintro σ H Q ⟨env, S, B, μ, b, S', r, eo, ee, q⟩
  exact ⟨env, S, B, μ, .bl b, S', r, eo, ee, fun B' μ' H' v s1 r1 d1 => ⟨b, den_bl d1, q B' μ' H' s1 r1⟩⟩
theorem snd_of {e : Expr} {ie : IE} (h : ∀ X, CxOk c W T mnm k X → PE X e (tE W (evE T ie))) (he : plainT e) : SndE c W T mnm k e ie := fun X ok => ⟨h X ok, pt_ev (h X ok) he⟩

/-! ### names and constants -/
def visB (sc : Scope) (x : Str) : Bool := match sc.names.lookup x with
  | some .local => true
  | some .cell => true
  | some .free => true
  | _ => false
theorem vis_of {sc : Scope} {x : Str} (h : visB sc x = true) : Vis sc x := by
  unfold visB at h
  split at h
  · exact .inl (by assumption)
  · exact .inr (.inl (by assumption))
  · exact .inr (.inr (by assumption))
  · cases h
def plainN (x : Str) : Bool := !(x == ("__debug__" : Str)) && !(x == ("__classdict__" : Str)) && decide (x ≠ "__name__")
theorem plainN_of {x : Str} (h : plainN x = true) : (x == ("__debug__" : Str)) = false ∧ (x == ("__classdict__" : Str)) = false ∧ x ≠ "__name__" := by
  unfold plainN at h
  rw [Bool.and_eq_true, Bool.and_eq_true, Bool.not_eq_true', Bool.not_eq_true', decide_eq_true_eq] at h
  exact ⟨h.1.1, h.1.2, h.2⟩
theorem snd_var {x : Str} {pos : Pos} {i : Nat} (hi : c.N[i]? = some x) (hv : visB c.sc x = true) (hp : plainN x = true) : SndE c W T mnm k (.Name x pos) (.var i) := by
  refine snd_of (fun X ok => ?_) fun _ _ => rfl
  obtain ⟨p1, p2, _⟩ := plainN_of hp
  refine PE.imp (pe_var (i := i) (by rw [ok.hN]; exact hi) (by rw [ok.hs]; exact vis_of hv) p1 p2) ?_
  rintro σ H Q ⟨env, S, B, μ, d, S', r, eo, ee, q⟩
  simp only [evE] at ee
  split at ee
  · rename_i d' hd
    cases ee
    obtain ⟨v, h1, h2⟩ := eo.2 i _ hd
    exact ⟨v, h1, q _ _ _ _ (Step.refl ..) r h2⟩
  · cases ee
theorem con_of {d : D} {v : V} {t : TE} {e : Expr} (h : PE X e (tC v)) (hd : ∀ B μ, Den W B μ d v) : PE X e (tE W (evE T (.con d))) := by
  refine PE.imp h ?_
  rintro σ H Q ⟨env, S, B, μ, d', S', r, eo, ee, q⟩
  simp only [evE] at ee
  cases ee
  exact q _ _ _ _ (Step.refl ..) r (hd _ _)
theorem snd_int {i : Int} {j : Nat} {pos : Pos} : SndE c W T mnm k (.Constant (.int i) j pos) (.con (.int i)) := snd_of (fun X ok => con_of (t := tC (.int i)) pe_int fun _ _ => .int i) fun _ _ => rfl
theorem snd_bl {b : Bool} {j : Nat} {pos : Pos} : SndE c W T mnm k (.Constant (.bool b) j pos) (.con (.bl b)) := snd_of (fun X ok => con_of (t := tC (.bl b)) pe_bl fun _ _ => .bl b) fun _ _ => rfl
theorem snd_non {j : Nat} {pos : Pos} : SndE c W T mnm k (.Constant .none j pos) (.con .non) := snd_of (fun X ok => con_of (t := tC .non) pe_non fun _ _ => .non) fun _ _ => rfl
theorem snd_str {s : Str} {l : List Nat} {j : Nat} {pos : Pos} (h : s = ⟨l.toArray⟩) : SndE c W T mnm k (.Constant (.str s) j pos) (.con (.str l)) := by
  subst h
  exact snd_of (fun X ok => con_of (t := tC (.str ⟨l.toArray⟩)) pe_str fun _ _ => .str l) fun _ _ => rfl
def glB (sc : Scope) (x : Str) : Bool := match sc.names.lookup x with
  | some .globalImplicit => true
  | _ => false
theorem gl_of {x : Str} (ok : CxOk c W T mnm k X) (h : glB c.sc x = true) : Gl X x := by
  unfold Gl Env.kindOf
  rw [ok.hs]
  unfold glB at h
  split at h
  · assumption
  · cases h
theorem snd_gint {x : Str} {pos : Pos} {i : Int} (hg : glB c.sc x = true) (hl : c.G.lookup x = some (.int i)) (hp : plainN x = true) : SndE c W T mnm k (.Name x pos) (.con (.int i)) := by
  refine snd_of (fun X ok => ?_) fun _ _ => rfl
  obtain ⟨t, e⟩ := ok.gl x _ hl
  exact con_of (t := tC (.int i)) (pe_glob (v := .int i) (gl_of ok hg) e ⟨t, rfl⟩ (plainN_of hp).1) fun _ _ => .int i
theorem snd_gstr {x : Str} {pos : Pos} {s : List Nat} (hg : glB c.sc x = true) (hl : c.G.lookup x = some (.str s)) (hp : plainN x = true) : SndE c W T mnm k (.Name x pos) (.con (.str s)) := by
  refine snd_of (fun X ok => ?_) fun _ _ => rfl
  obtain ⟨t, e⟩ := ok.gl x _ hl
  exact con_of (t := tC (.str ⟨s.toArray⟩)) (pe_glob (v := .str ⟨s.toArray⟩) (gl_of ok hg) e ⟨t, rfl⟩ (plainN_of hp).1) fun _ _ => .str s

/-! ### one after the other -/
theorem run2 {a b : IE} {p : P2} {σ : L2.St} {H : Hp} {Q : VK} (h : tE W (evE T (.p2 p a b)) σ H Q) : tOp (r2 W p) (tE W (evE T a)) (tE W (evE T b)) σ H Q := by
  obtain ⟨env, S, B, μ, d, S', r, eo, ee, q⟩ := h
  simp only [evE] at ee
  split at ee
  · rename_i x S1 e1
    split at ee
    · rename_i y S2 e2
      split at ee
      · rename_i z e3
        cases ee
        refine ⟨env, S, B, μ, x, S1, r, eo, e1, fun B1 μ1 H1 v s1 r1 d1 => ?_⟩
        refine ⟨env, S1, B1, μ1, y, _, r1, eo.step s1, e2, fun B2 μ2 H2 w s2 r2 d2 => ?_⟩
        exact ⟨B2, μ2, _, x, y, _, r2, Den.mono s2.grow s2.p _ _ d1, d2, e3, fun B' H' v s3 r3 d3 => q _ _ _ _ ((s1.trans s2).trans s3) r3 d3⟩
      · cases ee
    · cases ee
  · cases ee
theorem snd_bin {op : Operator} {p : P2} {a b : Expr} {ia ib : IE} {pos : Pos} (ho : ∀ X, CxOk c W T mnm k X → OpR X (binaryOp op) (r2 W p)) (ha : SndE c W T mnm k a ia) (hb : SndE c W T mnm k b ib) : SndE c W T mnm k (.BinOp a op b pos) (.p2 p ia ib) :=
  snd_of (fun X ok => PE.imp (pe_op (ho X ok) (ha X ok).1 (hb X ok).1) fun σ H Q h => run2 h) fun _ _ => rfl
def notSet : Expr → Bool
  | .Set .. => false
  | _ => true
theorem nomark_of {op : CmpOp} {b : Expr} (h : notSet b = true) : behindInMarks op b = false := by
  cases b <;> first | rfl | cases h
theorem tT_bl {ie : IE} {σ : L2.St} {H : Hp} {Q : Bool → Hp → Prop} (h : tT W (evE T ie) σ H Q) : tE W (evE T ie) σ H fun x H1 => ∃ b, x = .bl b ∧ Q b H1 := by
  obtain ⟨env, S, B, μ, b, S', r, eo, ee, q⟩ := h
  exact ⟨env, S, B, μ, .bl b, S', r, eo, ee, fun B' μ' H' v s1 r1 d1 => ⟨b, den_bl d1, q B' μ' H' s1 r1⟩⟩
theorem snd_cmp {op : CmpOp} {p : P2} {a b : Expr} {ia ib : IE} {pos : Pos} (ho : ∀ X, CxOk c W T mnm k X → OpR X (compareOp op) (r2 W p)) (hn : notSet b = true) (ha : SndE c W T mnm k a ia) (hb : SndE c W T mnm k b ib) : SndE c W T mnm k (.Compare a [op] [b] pos) (.p2 p ia ib) := fun X ok =>
  ⟨PE.imp (pe_cmpR (ho X ok) (ha X ok).1 (hb X ok).1 (nomark_of hn)) fun σ H Q h => run2 h,
   PT.imp (pt_cmpR (ho X ok) (ha X ok).1 (hb X ok).1 (nomark_of hn)) fun σ H Q h => run2 (tT_bl h)⟩
def notSlice : Expr → Bool
  | .Slice .. => false
  | _ => true
theorem plainIx_of {b : Expr} (h : notSlice b = true) : PlainIx b := fun o i => by
  cases b <;> first | rfl | cases h
theorem snd_idx {a b : Expr} {ia ib : IE} {pos : Pos} (hn : notSlice b = true) (ha : SndE c W T mnm k a ia) (hb : SndE c W T mnm k b ib) : SndE c W T mnm k (.Subscript a b pos) (.p2 .idx ia ib) :=
  snd_of (fun X ok => PE.imp (pe_ix (ix_p2 ok) (ha X ok).1 (hb X ok).1 (plainIx_of hn)) fun σ H Q h => run2 h) fun _ _ => rfl
theorem snd_neg {a : Expr} {ia : IE} {pos : Pos} (ha : SndE c W T mnm k a ia) : SndE c W T mnm k (.UnaryOp .USub a pos) (.neg ia) := by
  refine snd_of (fun X ok => PE.imp (pe_un un_neg (ha X ok).1) ?_) fun _ _ => rfl
  rintro σ H Q ⟨env, S, B, μ, d, S', r, eo, ee, q⟩
  simp only [evE] at ee
  split at ee
  · rename_i i S1 e1
    cases ee
    exact ⟨env, S, B, μ, .int i, _, r, eo, e1, fun B1 μ1 H1 v s1 r1 d1 => ⟨i, den_int d1, q _ _ _ _ s1 r1 (.int _)⟩⟩
  · cases ee
theorem run_chain {a b d : IE} {p p' : P2} {σ : L2.St} {H : Hp} {Q : VK} (h : tE W (evE T (.chain p p' a b d)) σ H Q) : tChain (r2 W p) (r2 W p') (tE W (evE T a)) (tE W (evE T b)) (tE W (evE T d)) σ H Q := by
  obtain ⟨env, S, B, μ, dd, S', r, eo, ee, q⟩ := h
  simp only [evE] at ee
  split at ee
  · rename_i x S1 e1
    split at ee
    · rename_i y S2 e2
      refine ⟨env, S, B, μ, x, S1, r, eo, e1, fun B1 μ1 H1 v s1 r1 d1 => ?_⟩
      refine ⟨env, S1, B1, μ1, y, _, r1, eo.step s1, e2, fun B2 μ2 H2 w s2 r2 d2 => ?_⟩
      split at ee
      · rename_i e3
        refine ⟨B2, μ2, _, x, y, _, r2, Den.mono s2.grow s2.p _ _ d1, d2, e3, fun B' H' z s3 r3 d3 => ⟨true, den_bl d3, ?_⟩⟩
        split at ee
        · rename_i z S3 e4
          split at ee
          · rename_i kk e5
            cases ee
            refine iteT ?_
            refine ⟨env, _, B', μ2, z, _, r3, ((eo.step s1).step s2).step s3, e4, fun B4 μ4 H4 w4 s4 r4 d4 => ?_⟩
            exact ⟨B4, μ4, _, y, z, _, r4, Den.mono s4.grow s4.p _ _ (Den.mono s3.grow s3.p _ _ d2), d4, e5, fun B5 H5 z5 s5 r5 d5 => q _ _ _ _ ((((s1.trans s2).trans s3).trans s4).trans s5) r5 d5⟩
          · cases ee
        · cases ee
      · rename_i e3
        cases ee
        refine ⟨B2, μ2, _, x, y, _, r2, Den.mono s2.grow s2.p _ _ d1, d2, e3, fun B' H' z s3 r3 d3 => ⟨false, den_bl d3, ?_⟩⟩
        refine iteF ?_
        exact q _ _ _ _ ((s1.trans s2).trans s3) r3 (.bl false)
      · cases ee
    · cases ee
  · cases ee

theorem marks2 {op op' : CmpOp} {a b : Expr} (h : notSet b = true) : lastMarks [op, op'] [a, b] = false := nomark_of h
theorem snd_chain {op op' : CmpOp} {p p' : P2} {a b d : Expr} {ia ib id : IE} {pos : Pos} (ho : ∀ X, CxOk c W T mnm k X → OpR X (compareOp op) (r2 W p)) (ho' : ∀ X, CxOk c W T mnm k X → OpR X (compareOp op') (r2 W p')) (hn : notSet d = true)
    (ha : SndE c W T mnm k a ia) (hb : SndE c W T mnm k b ib) (hd : SndE c W T mnm k d id) : SndE c W T mnm k (.Compare a [op, op'] [b, d] pos) (.chain p p' ia ib id) := fun X ok =>
  ⟨PE.imp (pe_chain (ho X ok) (ho' X ok) (ha X ok).1 (hb X ok).1 (hd X ok).1 (marks2 hn)) fun σ H Q h => run_chain h,
   PT.imp (pt_chain (ho X ok) (ho' X ok) (ha X ok).1 (hb X ok).1 (hd X ok).1 (marks2 hn)) fun σ H Q h => run_chain (tT_bl h)⟩

/-! ### and, or, not, if -/
theorem run_and {a b : IE} {σ : L2.St} {H : Hp} {Q : VK} (h : tE W (evE T (.and a b)) σ H Q) : tAndV (tE W (evE T a)) (tE W (evE T b)) σ H Q := by
  obtain ⟨env, S, B, μ, d, S', r, eo, ee, q⟩ := h
  simp only [evE] at ee
  split at ee
  · rename_i S1 e1
    refine ⟨env, S, B, μ, _, _, r, eo, e1, fun B1 μ1 H1 v s1 r1 d1 => ⟨true, den_bl d1, ?_⟩⟩
    refine iteT ?_
    split at ee
    · rename_i kk S2 e2
      cases ee
      exact ⟨env, _, B1, μ1, _, _, r1, eo.step s1, e2, fun B2 μ2 H2 w s2 r2 d2 => q _ _ _ _ (s1.trans s2) r2 d2⟩
    · cases ee
  · rename_i S1 e1
    cases ee
    refine ⟨env, S, B, μ, _, _, r, eo, e1, fun B1 μ1 H1 v s1 r1 d1 => ⟨false, den_bl d1, ?_⟩⟩
    refine iteF ?_
    exact q _ _ _ _ s1 r1 (.bl false)
  · cases ee
theorem run_or {a b : IE} {σ : L2.St} {H : Hp} {Q : VK} (h : tE W (evE T (.or a b)) σ H Q) : tOrV (tE W (evE T a)) (tE W (evE T b)) σ H Q := by
  obtain ⟨env, S, B, μ, d, S', r, eo, ee, q⟩ := h
  simp only [evE] at ee
  split at ee
  · rename_i S1 e1
    cases ee
    refine ⟨env, S, B, μ, _, _, r, eo, e1, fun B1 μ1 H1 v s1 r1 d1 => ⟨true, den_bl d1, ?_⟩⟩
    refine iteT ?_
    exact q _ _ _ _ s1 r1 (.bl true)
  · rename_i S1 e1
    refine ⟨env, S, B, μ, _, _, r, eo, e1, fun B1 μ1 H1 v s1 r1 d1 => ⟨false, den_bl d1, ?_⟩⟩
    refine iteF ?_
    split at ee
    · rename_i kk S2 e2
      cases ee
      exact ⟨env, _, B1, μ1, _, _, r1, eo.step s1, e2, fun B2 μ2 H2 w s2 r2 d2 => q _ _ _ _ (s1.trans s2) r2 d2⟩
    · cases ee
  · cases ee
theorem runT_and {a b : IE} {σ : L2.St} {H : Hp} {Q : Bool → Hp → Prop} (h : tT W (evE T (.and a b)) σ H Q) : tAnd (tT W (evE T a)) (tT W (evE T b)) σ H Q := by
  obtain ⟨env, S, B, μ, d, S', r, eo, ee, q⟩ := h
  simp only [evE] at ee
  split at ee
  · rename_i S1 e1
    refine ⟨env, S, B, μ, _, _, r, eo, e1, fun B1 μ1 H1 s1 r1 => ?_⟩
    refine iteT ?_
    split at ee
    · rename_i kk S2 e2
      cases ee
      exact ⟨env, _, B1, μ1, _, _, r1, eo.step s1, e2, fun B2 μ2 H2 s2 r2 => q _ _ _ (s1.trans s2) r2⟩
    · cases ee
  · rename_i S1 e1
    cases ee
    refine ⟨env, S, B, μ, _, _, r, eo, e1, fun B1 μ1 H1 s1 r1 => ?_⟩
    refine iteF ?_
    exact q _ _ _ s1 r1
  · cases ee
theorem runT_or {a b : IE} {σ : L2.St} {H : Hp} {Q : Bool → Hp → Prop} (h : tT W (evE T (.or a b)) σ H Q) : tOr (tT W (evE T a)) (tT W (evE T b)) σ H Q := by
  obtain ⟨env, S, B, μ, d, S', r, eo, ee, q⟩ := h
  simp only [evE] at ee
  split at ee
  · rename_i S1 e1
    cases ee
    refine ⟨env, S, B, μ, _, _, r, eo, e1, fun B1 μ1 H1 s1 r1 => ?_⟩
    refine iteT ?_
    exact q _ _ _ s1 r1
  · rename_i S1 e1
    refine ⟨env, S, B, μ, _, _, r, eo, e1, fun B1 μ1 H1 s1 r1 => ?_⟩
    refine iteF ?_
    split at ee
    · rename_i kk S2 e2
      cases ee
      exact ⟨env, _, B1, μ1, _, _, r1, eo.step s1, e2, fun B2 μ2 H2 s2 r2 => q _ _ _ (s1.trans s2) r2⟩
    · cases ee
  · cases ee
/-- a chain of and, of or: as values and as tests -/
def SndB (c : Cn) (W : WP) (T : Tab) (mnm : Nat → Str) (k : Nat) (op : BoolOp) (es : List Expr) (ie : IE) : Prop := ∀ X, CxOk c W T mnm k X → ∀ pos, PE X (.BoolOp op es pos) (tE W (evE T ie)) ∧ PW X (.BoolOp op es pos) (tT W (evE T ie))
theorem PW.imp {X : Cx} {e : Expr} {t t' : TT} (h : PW X e t) (kk : ∀ σ H Q, t' σ H Q → t σ H Q) : PW X e t' := ⟨fun wh pins s σ H Q I q => h.run wh pins s σ H Q I (kk _ _ _ q)⟩
theorem sndB_and1 {a : Expr} {ia : IE} (ha : SndE c W T mnm k a ia) : SndB c W T mnm k .And [a] ia := fun X ok pos => ⟨pe_one (ha X ok).1, pw_and1 (ha X ok).2⟩
theorem sndB_or1 {a : Expr} {ia : IE} (ha : SndE c W T mnm k a ia) : SndB c W T mnm k .Or [a] ia := fun X ok pos => ⟨pe_one (ha X ok).1, pw_or1 (ha X ok).2⟩
theorem sndB_and {a b : Expr} {r : List Expr} {ia ib : IE} (ha : SndE c W T mnm k a ia) (hb : SndB c W T mnm k .And (b :: r) ib) : SndB c W T mnm k .And (a :: b :: r) (.and ia ib) := fun X ok pos =>
  ⟨PE.imp (pe_and (ha X ok).1 (hb X ok pos).1) fun σ H Q h => run_and h, PW.imp (pw_and (ha X ok).2 (hb X ok pos).2) fun σ H Q h => runT_and h⟩
theorem sndB_or {a b : Expr} {r : List Expr} {ia ib : IE} (ha : SndE c W T mnm k a ia) (hb : SndB c W T mnm k .Or (b :: r) ib) : SndB c W T mnm k .Or (a :: b :: r) (.or ia ib) := fun X ok pos =>
  ⟨PE.imp (pe_or (ha X ok).1 (hb X ok pos).1) fun σ H Q h => run_or h, PW.imp (pw_or (ha X ok).2 (hb X ok pos).2) fun σ H Q h => runT_or h⟩
theorem snd_bool {op : BoolOp} {es : List Expr} {ie : IE} {pos : Pos} (h : SndB c W T mnm k op es ie) : SndE c W T mnm k (.BoolOp op es pos) ie := fun X ok => ⟨(h X ok pos).1, (h X ok pos).2.pt⟩
theorem snd_not {a : Expr} {ia : IE} {pos : Pos} (ha : SndE c W T mnm k a ia) : SndE c W T mnm k (.UnaryOp .Not a pos) (.not ia) := fun X ok => by
  refine ⟨PE.imp (pe_not (ha X ok).1) ?_, PT.imp (pt_not (ha X ok).2) ?_⟩
  · rintro σ H Q ⟨env, S, B, μ, d, S', r, eo, ee, q⟩
    simp only [evE] at ee
    split at ee
    · rename_i kk S1 e1
      cases ee
      exact ⟨env, S, B, μ, _, _, r, eo, e1, fun B1 μ1 H1 v s1 r1 d1 => ⟨kk, den_bl d1, q _ _ _ _ s1 r1 (.bl _)⟩⟩
    · cases ee
  · rintro σ H Q ⟨env, S, B, μ, d, S', r, eo, ee, q⟩
    simp only [evE] at ee
    split at ee
    · rename_i kk S1 e1
      cases ee
      exact ⟨env, S, B, μ, _, _, r, eo, e1, fun B1 μ1 H1 s1 r1 => q _ _ _ s1 r1⟩
    · cases ee
theorem run_ite {f a b : IE} {σ : L2.St} {H : Hp} {Q : VK} (h : tE W (evE T (.ite f a b)) σ H Q) : tIf (tT W (evE T f)) (tE W (evE T a)) (tE W (evE T b)) σ H Q := by
  obtain ⟨env, S, B, μ, d, S', r, eo, ee, q⟩ := h
  simp only [evE] at ee
  split at ee
  · rename_i S1 e1
    refine ⟨env, S, B, μ, _, _, r, eo, e1, fun B1 μ1 H1 s1 r1 => ?_⟩
    refine iteT ?_
    exact ⟨env, _, B1, μ1, _, _, r1, eo.step s1, ee, fun B2 μ2 H2 w s2 r2 d2 => q _ _ _ _ (s1.trans s2) r2 d2⟩
  · rename_i S1 e1
    refine ⟨env, S, B, μ, _, _, r, eo, e1, fun B1 μ1 H1 s1 r1 => ?_⟩
    refine iteF ?_
    exact ⟨env, _, B1, μ1, _, _, r1, eo.step s1, ee, fun B2 μ2 H2 w s2 r2 d2 => q _ _ _ _ (s1.trans s2) r2 d2⟩
  · cases ee
/-- a conditional expression as a test: isTrue goes into its branches -/
theorem pt_ifExp {X : Cx} {f a b : Expr} {pos : Pos} {tf ta tb : TT} (hf : PT X f tf) (ha : PT X a ta) (hb : PT X b tb) : PT X (.IfExp f a b pos) (fun σ H Q => tf σ H fun d H1 => if d = true then ta σ H1 Q else tb σ H1 Q) := by
  refine ⟨fun pins s σ H Q I h => ?_⟩
  show wpAny _ _ (do if ← isTrue f X.env (eval f X.env) then isTrue a X.env (eval a X.env) else isTrue b X.env (eval b X.env)) _ _ s
  refine wpAny_bind (thn (hf.run pins s σ H _ I h) fun d s1 ⟨H1, I1, q1⟩ => ?_)
  cases d with
  | true => exact ha.run pins s1 σ H1 Q I1 q1
  | false => exact hb.run pins s1 σ H1 Q I1 q1
theorem snd_ite {f a b : Expr} {jf ia ib : IE} {pos : Pos} (hf : SndE c W T mnm k f jf) (ha : SndE c W T mnm k a ia) (hb : SndE c W T mnm k b ib) : SndE c W T mnm k (.IfExp f a b pos) (.ite jf ia ib) := fun X ok => by
  refine ⟨PE.imp (pe_ifExp (hf X ok).2 (ha X ok).1 (hb X ok).1) fun σ H Q h => run_ite h, PT.imp (pt_ifExp (hf X ok).2 (ha X ok).2 (hb X ok).2) ?_⟩
  rintro σ H Q ⟨env, S, B, μ, d, S', r, eo, ee, q⟩
  simp only [evE] at ee
  split at ee
  · rename_i S1 e1
    refine ⟨env, S, B, μ, _, _, r, eo, e1, fun B1 μ1 H1 s1 r1 => ?_⟩
    refine iteT ?_
    exact ⟨env, _, B1, μ1, _, _, r1, eo.step s1, ee, fun B2 μ2 H2 s2 r2 => q _ _ _ (s1.trans s2) r2⟩
  · rename_i S1 e1
    refine ⟨env, S, B, μ, _, _, r, eo, e1, fun B1 μ1 H1 s1 r1 => ?_⟩
    refine iteF ?_
    exact ⟨env, _, B1, μ1, _, _, r1, eo.step s1, ee, fun B2 μ2 H2 s2 r2 => q _ _ _ (s1.trans s2) r2⟩
  · cases ee
end LN

set_option Elab.async false
set_option linter.all false
set_option maxRecDepth 100000
set_option maxHeartbeats 1000000
namespace LN
open PySem L2
variable {W : WP} {B B' : Hp} {μ μ' : List Addr} {S S' : Store} {H H' : Hp} {c : Cn} {T : Tab} {mnm : Nat → Str} {k : Nat} {X : Cx}

/-! ### arguments -/
theorem sndL_nil : SndL c W T mnm k [] [] := ⟨fun X ok => PA.imp pa_nil (by
  rintro σ H Q ⟨env, S, B, μ, ds, S', r, eo, ee, q⟩
  simp only [evL] at ee
  cases ee
  exact q _ _ _ _ (Step.refl ..) r .nil), rfl⟩
theorem sndL_cons {e : Expr} {es : List Expr} {ie : IE} {ies : List IE} (hn : nstar e = true) (h : SndE c W T mnm k e ie) (hs : SndL c W T mnm k es ies) : SndL c W T mnm k (e :: es) (ie :: ies) := by
  refine ⟨fun X ok => PA.imp (pa_cons (h X ok).1 (hs.1 X ok) (star_cons hn)) ?_, by rw [List.all_cons, hn, hs.2]; rfl⟩
  rintro σ H Q ⟨env, S, B, μ, ds, S', r, eo, ee, q⟩
  simp only [evL] at ee
  split at ee
  · rename_i d S1 e1
    split at ee
    · rename_i ds' S2 e2
      cases ee
      refine ⟨env, S, B, μ, d, S1, r, eo, e1, fun B1 μ1 H1 v s1 r1 d1 => ?_⟩
      exact ⟨env, S1, B1, μ1, _, _, r1, eo.step s1, e2, fun B2 μ2 H2 vs s2 r2 d2 => q _ _ _ _ (s1.trans s2) r2 (.cons (Den.mono s2.grow s2.p _ _ d1) d2)⟩
    · cases ee
  · cases ee
/-- with stars -/
def SndP (c : Cn) (W : WP) (T : Tab) (mnm : Nat → Str) (k : Nat) (es : List Expr) (st : List Bool) (ies : List IE) : Prop := ∀ X, CxOk c W T mnm k X → PA X es (tL W (evP T st ies))
theorem sndP_nil {st : List Bool} : SndP c W T mnm k [] st [] := fun X ok => PA.imp pa_nil (by
  rintro σ H Q ⟨env, S, B, μ, ds, S', r, eo, ee, q⟩
  simp only [evP] at ee
  cases ee
  exact q _ _ _ _ (Step.refl ..) r .nil)
theorem sndP_cons {e : Expr} {es : List Expr} {st : List Bool} {ie : IE} {ies : List IE} (hn : nstar e = true) (h : SndE c W T mnm k e ie) (hs : SndP c W T mnm k es st ies) : SndP c W T mnm k (e :: es) (false :: st) (ie :: ies) := by
  refine fun X ok => PA.imp (pa_cons (h X ok).1 (hs X ok) (star_cons hn)) ?_
  rintro σ H Q ⟨env, S, B, μ, ds, S', r, eo, ee, q⟩
  simp only [evP, List.headD_cons, List.tail_cons, Bool.false_eq_true, if_false] at ee
  split at ee
  · rename_i d S1 e1
    split at ee
    · rename_i ds' S2 e2
      cases ee
      refine ⟨env, S, B, μ, d, S1, r, eo, e1, fun B1 μ1 H1 v s1 r1 d1 => ?_⟩
      exact ⟨env, S1, B1, μ1, _, _, r1, eo.step s1, e2, fun B2 μ2 H2 vs s2 r2 d2 => q _ _ _ _ (s1.trans s2) r2 (.cons (Den.mono s2.grow s2.p _ _ d1) d2)⟩
    · cases ee
  · cases ee
theorem sndP_star {e : Expr} {p : Pos} {es : List Expr} {st : List Bool} {ie : IE} {ies : List IE} (h : SndE c W T mnm k e ie) (hs : SndP c W T mnm k es st ies) : SndP c W T mnm k (.Starred e p :: es) (true :: st) (ie :: ies) := by
  refine fun X ok => PA.imp (StX.pa_star (h X ok).1 (hs X ok)) ?_
  rintro σ H Q ⟨env, S, B, μ, ds, S', r, eo, ee, q⟩
  simp only [evP, List.headD_cons, List.tail_cons, if_true] at ee
  split at ee
  · rename_i d S1 e1
    split at ee
    · rename_i xs e0
      split at ee
      · rename_i ds' S2 e2
        cases ee
        refine ⟨env, S, B, μ, d, S1, r, eo, e1, fun B1 μ1 H1 v s1 r1 d1 => ?_⟩
        obtain ⟨a, vs, rfl, h1, h2⟩ := seq_ok r1 d1 e0
        refine ⟨a, vs, rfl, ?_, ?_⟩
        · rw [ok.hK]; exact h1.symm
        · exact ⟨env, S1, B1, μ1, _, _, r1, eo.step s1, e2, fun B2 μ2 H2 ws s2 r2 d2 => q _ _ _ _ (s1.trans s2) r2 ((DenL.mono s2.grow s2.p _ _ h2).append d2)⟩
      · cases ee
    · cases ee
  · cases ee

/-! ### displays -/
theorem run_disp {kd : DK2} {st : List Bool} {ies : List IE} {σ : L2.St} {H : Hp} {Q : VK} (h : tE W (evE T (.disp kd st ies)) σ H Q) :
    tL W (evP T st ies) σ H fun vs H1 => vs.length ≤ sizeLine ∧ ∀ p, H1 p = none → match kd with
      | .tup => Q (.ref p) (upd H1 p (.tup vs))
      | _ => Q (.ref p) (upd H1 p (.lst vs)) := by
  obtain ⟨env, S, B, μ, d, S', r, eo, ee, q⟩ := h
  simp only [evE] at ee
  split at ee
  · rename_i xs S1 e1
    split at ee
    · rename_i hz
      refine ⟨env, S, B, μ, xs, S1, r, eo, e1, fun B1 μ1 H1 vs s1 r1 d1 => ⟨by rw [← d1.length]; exact sz hz, fun p hp => ?_⟩⟩
      cases kd with
      | tup =>
        cases ee
        obtain ⟨B2, s2, r2, d2⟩ := newT_ok r1 hp d1
        exact q _ _ _ _ (s1.trans s2) r2 d2
      | lst =>
        cases ee
        obtain ⟨B2, μ2, s2, r2, d2⟩ := newL_ok r1 false hp d1
        exact q _ _ _ _ (s1.trans s2) r2 d2
      | cell =>
        cases ee
        obtain ⟨B2, μ2, s2, r2, d2⟩ := newL_ok r1 true hp d1
        exact q _ _ _ _ (s1.trans s2) r2 d2
    · cases ee
  · cases ee
theorem snd_tup {es : List Expr} {st : List Bool} {ies : List IE} {x1 : Nat} {pos : Pos} (h : SndP c W T mnm k es st ies) : SndE c W T mnm k (.Tuple es x1 pos) (.disp .tup st ies) :=
  snd_of (fun X ok => PE.imp (pe_tup (h X ok)) fun σ H Q q => run_disp q) fun _ _ => rfl
theorem snd_lst {es : List Expr} {st : List Bool} {ies : List IE} {pos : Pos} (cell : Bool) (h : SndP c W T mnm k es st ies) : SndE c W T mnm k (.List es pos) (.disp (if cell then .cell else .lst) st ies) := by
  refine snd_of (fun X ok => PE.imp (pe_lst (h X ok)) fun σ H Q q => ?_) fun _ _ => rfl
  have := run_disp q
  cases cell <;> exact this
theorem snd_dict {pos : Pos} : SndE c W T mnm k (.Dict [] [] pos) (.dict []) := by
  refine snd_of (fun X ok => PE.imp pe_dnewK ?_) fun _ _ => rfl
  rintro σ H Q ⟨env, S, B, μ, d, S', r, eo, ee, q⟩ p hp
  simp only [evE] at ee
  cases ee
  obtain ⟨s1, r1⟩ := r.newc (o := .dK []) (c := .dct [] []) hp ⟨[], by rw [upd_same]; rfl, rfl, .nil⟩
  refine q _ _ _ _ s1 r1 (.obj ?_)
  rw [← r.len]; simp

/-! ### built-ins by name -/
theorem run_pb {p : PB} {cell : Bool} {ies : List IE} {σ : L2.St} {H : Hp} {Q : VK} (h : tE W (evE T (.pb p cell ies)) σ H Q) : tCB (rB W p cell) (tL W (evL T ies)) σ H Q := by
  obtain ⟨env, S, B, μ, d, S', r, eo, ee, q⟩ := h
  simp only [evE] at ee
  split at ee
  · rename_i ds S1 e1
    refine ⟨env, S, B, μ, ds, S1, r, eo, e1, fun B1 μ1 H1 vs s1 r1 d1 => ?_⟩
    have key : ∃ nv, pb p ds S1 = some nv ∧ outB cell nv S1 = (d, S') := by
      split at ee
      · rename_i e2; exact ⟨_, e2, Option.some.inj ee⟩
      · rename_i e2; exact ⟨_, e2, Option.some.inj ee⟩
      · rename_i e2; exact ⟨_, e2, Option.some.inj ee⟩
      · cases ee
    obtain ⟨nv, e2, e3⟩ := key
    refine ⟨B1, μ1, S1, ds, nv, r1, d1, e2, fun B2 μ2 H2 v s2 r2 d2 => ?_⟩
    rw [e3] at r2 d2
    exact q _ _ _ _ (s1.trans s2) r2 d2
  · cases ee
theorem snd_pbB {x : Str} {p : PB} {cell : Bool} {id : String} {e : Expr} {es : List Expr} {ies : List IE} {p1 pos : Pos} (hf : p.fv = .builtin id) (hg : glB c.sc x = true) (hl : c.G.lookup x = some .bn) (hp : plainN x = true) (hv : bootBuiltins x = some (.builtin id))
    (ha : SndL c W T mnm k (e :: es) ies) : SndE c W T mnm k (.Call (.Name x p1) (e :: es) [] pos) (.pb p cell ies) := by
  refine snd_of (fun X ok => ?_) fun _ _ => rfl
  have hs := ha.2
  rw [List.all_cons, Bool.and_eq_true] at hs
  have hc := cr_pb ok p cell (by rw [hf]; intro z; cases z)
  rw [hf] at hc
  exact PE.imp (pe_callB hc (gl_of ok hg) (ok.gl x _ hl) hv (ha.1 X ok) (plainN_of hp).2.2 (plainN_of hp).1 (star_cons hs.1) (star_any hs.2)) fun σ H Q q => run_pb q
theorem snd_pbT {x : Str} {p : PB} {cell : Bool} {id : String} {e : Expr} {es : List Expr} {ies : List IE} {p1 pos : Pos} (hf : p.fv = .type id) (hg : glB c.sc x = true) (hl : c.G.lookup x = some .bn) (hp : plainN x = true) (hv : bootBuiltins x = some (.type id))
    (ha : SndL c W T mnm k (e :: es) ies) : SndE c W T mnm k (.Call (.Name x p1) (e :: es) [] pos) (.pb p cell ies) := by
  refine snd_of (fun X ok => ?_) fun _ _ => rfl
  have hs := ha.2
  rw [List.all_cons, Bool.and_eq_true] at hs
  have hc := cr_pb ok p cell (by rw [hf]; intro z; cases z)
  rw [hf] at hc
  exact PE.imp (pe_callTy hc (gl_of ok hg) (ok.gl x _ hl) hv (ha.1 X ok) (plainN_of hp).2.2 (plainN_of hp).1 (star_cons hs.1) (star_any hs.2)) fun σ H Q q => run_pb q

/-! ### defs of the text -/
theorem run_call {f : Nat} {ies : List IE} {σ : L2.St} {H : Hp} {Q : VK} {E : XK} (h : tE W (evE T (.call f ies)) σ H Q) : tCall (spS W (T.fn f)) [] E (tL W (evL T ies)) σ H Q := by
  obtain ⟨env, S, B, μ, d, S', r, eo, ee, q⟩ := h
  simp only [evE] at ee
  split at ee
  · rename_i ds S1 e1
    refine ⟨env, S, B, μ, ds, S1, r, eo, e1, fun B1 μ1 H1 vs s1 r1 d1 => ?_⟩
    show spS W (T.fn f) (vs ++ []) H1 Q E
    rw [List.append_nil]
    exact ⟨B1, μ1, S1, ds, d, S', r1, d1, ee, fun B2 μ2 H2 v s2 r2 d2 => q _ _ _ _ (s1.trans s2) r2 d2⟩
  · cases ee
theorem snd_call {x : Str} {f np : Nat} {e : Expr} {es : List Expr} {ies : List IE} {p1 pos : Pos} (hg : glB c.sc x = true) (hl : c.G.lookup x = some (.fn f np)) (hp : plainN x = true)
    (ha : SndL c W T mnm k (e :: es) ies) : SndE c W T mnm k (.Call (.Name x p1) (e :: es) [] pos) (.call f ies) := by
  refine snd_of (fun X ok => ?_) fun _ _ => rfl
  obtain ⟨a, hm, hk, fd, ps, hps, hb, F⟩ := ok.gl x _ hl
  have hs := ha.2
  rw [List.all_cons, Bool.and_eq_true] at hs
  exact PE.imp (pe_call F ok.r0 (gl_of ok hg) hm hk hb .nil pass0 (ha.1 X ok) (plainN_of hp).1 (star_cons hs.1) (star_any hs.2)) fun σ H Q q => run_call q
theorem snd_call0 {x : Str} {f np : Nat} {p1 pos : Pos} (hg : glB c.sc x = true) (hl : c.G.lookup x = some (.fn f np)) (hp : plainN x = true) : SndE c W T mnm k (.Call (.Name x p1) [] [] pos) (.call f []) := by
  refine snd_of (fun X ok => ?_) fun _ _ => rfl
  obtain ⟨a, hm, hk, fd, ps, hps, hb, F⟩ := ok.gl x _ hl
  refine PE.imp (pe_call0 F ok.r0 (gl_of ok hg) hm hk hb .nil pass0 (plainN_of hp).1) fun σ H Q q => ?_
  obtain ⟨env, S, B, μ, d, S', r, eo, ee, q⟩ := q
  simp only [evE, evL] at ee
  exact ⟨B, μ, S, [], d, S', r, .nil, ee, q⟩

/-! ### instances -/
theorem run_make {cc f : Nat} {fr : Bool} {ies : List IE} {σ : L2.St} {H : Hp} {Q : VK} {E : XK} (h : tE W (evE T (.make cc f fr ies)) σ H Q) : tMake (W.cls cc) (spS W (T.fn f)) [] E (tL W (evL T ies)) σ H Q := by
  obtain ⟨env, S, B, μ, d, S', r, eo, ee, q⟩ := h
  simp only [evE] at ee
  split at ee
  · rename_i ds S1 e1
    refine ⟨env, S, B, μ, ds, S1, r, eo, e1, fun B1 μ1 H1 vs s1 r1 d1 x dx hx hdx hne => ?_⟩
    show spS W (T.fn f) (.ref x :: (vs ++ [])) _ _ E
    rw [List.append_nil]
    have hx2 : (upd H1 dx (.own x)) x = none := by rw [upd_ne (Ne.symm hne)]; exact hx
    have hcell : ∀ (μ0 : List Addr), COk W B1 μ0 (upd (upd H1 dx (.own x)) x (.ins (W.cls cc) dx [])) x (.ins cc [] []) := fun μ0 => ⟨dx, [], by rw [upd_same]; rfl, rfl, .nil⟩
    split at ee
    · split at ee
      · rename_i hpl
        split at ee
        · rename_i S2 e2
          split at ee
          · rename_i dd e3
            cases ee
            obtain ⟨t1, q1⟩ := r1.empty.loose (o := .own x) hdx
            obtain ⟨t2, q2⟩ := q1.newc (o := .ins (W.cls cc) dx []) (c := .ins cc [] []) hx2 (hcell _)
            refine ⟨B1, [x], [.ins cc [] []], .obj 0 :: ds, .non, S2, q2, .cons (.obj rfl) (denL_pure _ _ hpl d1), e2, fun B3 μ3 H3 v s3 r3 d3 => ⟨den_non d3, ?_⟩⟩
            have hex : Ex H1 (upd (upd H1 dx (.own x)) x (.ins (W.cls cc) dx [])) := (Ex.new hdx).trans (Ex.new hx2)
            obtain ⟨s4, r4⟩ := pure_back r1 hex (fun a ha => by simp at ha; subst ha; exact fresh_of hx) s3 r3
            have d4 : Den W (fz B3 H3 (μ3.drop 0)) [] d (.ref x) := by
              refine frz_ok r3 (m := 0) (.obj ?_) e3
              exact Pre.at s3.p rfl
            exact q _ _ _ _ (s1.trans s4) r4 (den_nil d4)
          · cases ee
        · cases ee
      · cases ee
    · split at ee
      · rename_i S2 e2
        cases ee
        obtain ⟨t1, q1⟩ := r1.loose (o := .own x) hdx
        obtain ⟨t2, q2⟩ := q1.newc (o := .ins (W.cls cc) dx []) (c := .ins cc [] []) hx2 (hcell _)
        have hix : (μ1 ++ [x])[S1.length]? = some x := by rw [← r1.len]; simp
        refine ⟨B1, μ1 ++ [x], S1 ++ [.ins cc [] []], .obj S1.length :: ds, .non, _, q2, .cons (.obj hix) (DenL.mono (Ex.refl _) ⟨[x], rfl⟩ _ _ d1), e2, fun B3 μ3 H3 v s3 r3 d3 => ⟨den_non d3, ?_⟩⟩
        exact q _ _ _ _ (((s1.trans t1).trans t2).trans s3) r3 (.obj (Pre.at s3.p hix))
      · cases ee
  · cases ee
theorem snd_make {x : Str} {cc f np : Nat} {fz : Bool} {e : Expr} {es : List Expr} {ies : List IE} {p1 pos : Pos} (hg : glB c.sc x = true) (hl : c.G.lookup x = some (.cls cc f np)) (hp : plainN x = true)
    (ha : SndL c W T mnm k (e :: es) ies) : SndE c W T mnm k (.Call (.Name x p1) (e :: es) [] pos) (.make cc f fz ies) := by
  refine snd_of (fun X ok => ?_) fun _ _ => rfl
  obtain ⟨hm, a, M, fd, ps, hps, hb, F⟩ := ok.gl x _ hl
  have hs := ha.2
  rw [List.all_cons, Bool.and_eq_true] at hs
  exact PE.imp (pe_make M F ok.room (gl_of ok hg) hm hb .nil pass0 (ha.1 X ok) (plainN_of hp).1 (star_cons hs.1) (star_any hs.2)) fun σ H Q q => run_make q
theorem snd_make0 {x : Str} {cc f np : Nat} {fz : Bool} {p1 pos : Pos} (hg : glB c.sc x = true) (hl : c.G.lookup x = some (.cls cc f np)) (hp : plainN x = true) : SndE c W T mnm k (.Call (.Name x p1) [] [] pos) (.make cc f fz []) := by
  refine snd_of (fun X ok => ?_) fun _ _ => rfl
  obtain ⟨hm, a, M, fd, ps, hps, hb, F⟩ := ok.gl x _ hl
  refine PE.imp (pe_make0 M F ok.room (gl_of ok hg) hm hb .nil pass0 (plainN_of hp).1) fun σ H Q q => ?_
  obtain ⟨env, S, B, μ, d, S', r, eo, ee, q1⟩ := run_make (E := E0) q
  simp only [evL] at ee
  cases ee
  exact q1 _ _ _ _ (Step.refl ..) r .nil
/-- an attribute's value -/
theorem fldL_ok (hinj : ∀ f g, W.fnm f = W.fnm g → f = g) : ∀ {ks : List Nat} {xs : List D} {vs : List V} {f : Nat} {d : D}, DenL W B μ xs vs → fldL ks xs f = some d → ∃ v, ((ks.map W.fnm).zip vs).lookup (W.fnm f) = some v ∧ Den W B μ d v
  | [], _, _, _, _, _, e => by simp [fldL] at e
  | _ :: _, [], _, _, _, _, e => by simp [fldL] at e
  | k :: ks, x :: xs, _, f, d, h, e => by
    cases h with | cons h r =>
      simp only [fldL] at e
      split at e
      · rename_i q
        cases e
        subst q
        exact ⟨_, by simp, h⟩
      · rename_i q
        obtain ⟨v, h1, h2⟩ := fldL_ok hinj r e
        refine ⟨v, ?_, h2⟩
        simp only [List.map_cons, List.zip_cons_cons, List.lookup_cons]
        have : (W.fnm f == W.fnm k) = false := by
          rw [beq_eq_false_iff_ne]
          exact fun z => q (hinj _ _ z).symm
        rw [this]
        exact h1
theorem ins_at (r : Rel W B μ S H) {d : D} {v : V} {cc f : Nat} {x : D} (hinj : ∀ f g, W.fnm f = W.fnm g → f = g) (h : Den W B μ d v) (e : clsD S d = some cc) (ef : fldD S f d = some x) :
    ∃ a dx fs w, v = .ref a ∧ H a = some (.ins (W.cls cc) dx fs) ∧ fs.lookup (W.fnm f) = some w ∧ Den W B μ x w := by
  cases d with
  | ins c' ks xs =>
    simp only [clsD] at e
    cases e
    simp only [fldD] at ef
    cases h with | ins h1 hl h2 =>
      obtain ⟨w, g1, g2⟩ := fldL_ok hinj h2 ef
      exact ⟨_, _, _, w, rfl, r.sub _ _ h1, g1, g2⟩
  | obj i =>
    simp only [clsD] at e
    split at e
    · rename_i c' ks xs q
      cases e
      simp only [fldD, q] at ef
      obtain ⟨a, rfl, hm, dx, vs, h1, hl, h2⟩ := r.get h q
      obtain ⟨w, g1, g2⟩ := fldL_ok hinj h2 ef
      exact ⟨_, _, _, w, rfl, h1, g1, g2⟩
    · cases e
  | _ => simp [clsD] at e
/-- what is no call of super -/
def noSuper : Expr → Bool
  | .Call (.Name id _) [] [] _ => id != ("super" : Str)
  | _ => true
theorem base_of {o : Expr} {attr : Str} {env : Env} {whole : Sem Value} (h : noSuper o = true) : attributeBase o attr env whole = whole := by
  unfold attributeBase
  split
  · rename_i id p1 pos
    have h : (id != ("super" : Str)) = true := h
    rw [if_pos (by rw [h]; rfl)]
  · rfl
theorem snd_attr {o : Expr} {io : IE} {f : Nat} {attr : Str} {pos : Pos} (hn : noSuper o = true) (hf : W.fnm f = attr) (ho : SndE c W T mnm k o io) : SndE c W T mnm k (.Attribute o attr pos) (.attr f io) := by
  refine snd_of (fun X ok => PE.imp (pe_fld (f := attr) (ho X ok).1 (base_of hn)) ?_) fun _ _ => rfl
  rintro σ H Q ⟨env, S, B, μ, d, S', r, eo, ee, q⟩
  simp only [evE] at ee
  split at ee
  · rename_i x S1 e1
    split at ee
    · rename_i cc e2
      split at ee
      · rename_i hc
        rw [Bool.and_eq_true] at hc
        split at ee
        · rename_i y e3
          cases ee
          refine ⟨env, S, B, μ, x, _, r, eo, e1, fun B1 μ1 H1 v s1 r1 d1 => ?_⟩
          obtain ⟨a, dx, fs, w, e5, h1, h2, h3⟩ := ins_at r1 ok.kk.inj d1 e2 e3
          subst hf
          exact ⟨a, _, dx, fs, w, e5, h1, ok.hK ▸ ok.kk.cls _ hc.1, ok.hK ▸ ok.kk.fld _ _ hc.2, h2, q _ _ _ _ s1 r1 h3⟩
        · cases ee
      · cases ee
    · cases ee
  · cases ee
end LN

set_option Elab.async false
set_option linter.all false
set_option maxRecDepth 100000
set_option maxHeartbeats 1000000
namespace LN
open PySem L2
variable {W : WP} {B B' : Hp} {μ μ' : List Addr} {S S' : Store} {H H' : Hp} {c : Cn} {T : Tab} {mnm : Nat → Str} {k : Nat} {X : Cx}

/-! ### methods of built-in types -/
def rM (W : WP) (p : PM) : V → List V → Hp → VK → Prop := fun x vs H Q => ∃ B μ S d ds res S', Rel W B μ S H ∧ Den W B μ d x ∧ DenL W B μ ds vs ∧ pm p d ds S = some (res, S') ∧
  ∀ B' H' v, Step B μ H B' μ H' → Rel W B' μ S' H' → Den W B' μ res v → Q v H'
theorem MtR.imp {X : Cx} {id : String} {r r' : V → List V → Hp → VK → Prop} (h : MtR X id r) (kk : ∀ x xs H Q, r' x xs H Q → r x xs H Q) : MtR X id r' := fun pins s σ H x xs v us Q I rx rs q => h pins s σ H x xs v us Q I rx rs (kk _ _ _ _ q)
theorem denL_dropLast {xs : List D} {vs : List V} (h : DenL W B μ xs vs) : DenL W B μ xs.dropLast vs.dropLast := by
  rw [List.dropLast_eq_take, List.dropLast_eq_take, h.length]
  exact h.take _
theorem denL_erase : ∀ {xs : List D} {vs : List V} (i : Nat), DenL W B μ xs vs → DenL W B μ (xs.eraseIdx i) (vs.eraseIdx i)
  | [], _, _, h => by cases h; exact .nil
  | _ :: _, _, 0, h => by cases h with | cons h r => exact r
  | _ :: _, _, i + 1, h => by cases h with | cons h r => exact .cons h (denL_erase i r)
theorem denL_one {y : D} {vs : List V} (h : DenL W B μ [y] vs) : ∃ v, vs = [v] ∧ Den W B μ y v := by
  cases h with | cons h r => cases r with | nil => exact ⟨_, rfl, h⟩
theorem m_append : MtR X "list.append" (rM W .append) := by
  refine MtR.imp mt_append ?_
  rintro x vs H Q ⟨B, μ, S, d, ds, res, S', r, hd, hs, e, q⟩
  cases d with
  | obj i =>
    cases ds with
    | nil => simp [pm] at e
    | cons y ys =>
      cases ys with
      | cons _ _ => simp [pm] at e
      | nil =>
        simp only [pm] at e
        split at e
        · rename_i xs hS
          split at e
          · rename_i hlt
            cases e
            obtain ⟨vy, rfl, hy⟩ := denL_one hs
            obtain ⟨a, rfl, hm, ws, h1, h2⟩ := r.get hd hS
            obtain ⟨s1, r1⟩ := r.write (o := .lst (ws ++ [_])) (c := .lst (xs ++ [y])) hm ⟨_, upd_same, h2.append (.cons hy .nil)⟩
            exact ⟨a, ws, _, rfl, rfl, h1, by rw [← h2.length]; exact Nat.lt_of_lt_of_le hlt (by decide), q _ _ _ s1 r1 .non⟩
          · cases e
        · cases e
  | _ => simp [pm] at e
theorem m_extend : MtR X "list.extend" (rM W .extend) := by
  refine MtR.imp mt_extend ?_
  rintro x vs H Q ⟨B, μ, S, d, ds, res, S', r, hd, hs, e, q⟩
  cases d with
  | obj i =>
    cases ds with
    | nil => simp [pm] at e
    | cons y ys =>
      cases ys with
      | cons _ _ => simp [pm] at e
      | nil =>
        simp only [pm] at e
        split at e
        · rename_i xs zs hS hz
          split at e
          · rename_i hlt
            cases e
            obtain ⟨vy, rfl, hy⟩ := denL_one hs
            obtain ⟨a, rfl, hm, ws, h1, h2⟩ := r.get hd hS
            obtain ⟨b, us, rfl, g1, g2⟩ := lst_ok r hy hz
            obtain ⟨s1, r1⟩ := r.write (o := .lst (ws ++ us)) (c := .lst (xs ++ zs)) hm ⟨_, upd_same, h2.append g2⟩
            exact ⟨a, b, ws, us, rfl, rfl, h1, g1, by rw [← h2.length, ← g2.length]; exact sz hlt, q _ _ _ s1 r1 .non⟩
          · cases e
        · cases e
  | _ => simp [pm] at e
theorem m_pop : MtR X "list.pop" (fun x vs H Q => rM W .pop x vs H Q ∨ rM W .popAt x vs H Q) := by
  refine MtR.imp (MtR.or mt_pop mt_popAt) ?_
  rintro x vs H Q (h | h)
  · obtain ⟨B, μ, S, d, ds, res, S', r, hd, hs, e, q⟩ := h
    cases d with
    | obj i =>
      cases ds with
      | cons _ _ => simp [pm] at e
      | nil =>
        simp only [pm] at e
        split at e
        · rename_i xs hS
          split at e
          · rename_i y hy
            cases e
            cases hs
            obtain ⟨a, rfl, hm, ws, h1, h2⟩ := r.get hd hS
            obtain ⟨v, g1, g2⟩ := h2.at hy
            obtain ⟨s1, r1⟩ := r.write (o := .lst ws.dropLast) (c := .lst xs.dropLast) hm ⟨_, upd_same, denL_dropLast h2⟩
            exact .inl ⟨a, ws, v, rfl, rfl, h1, by rw [← h2.length]; exact g1, q _ _ _ s1 r1 g2⟩
          · cases e
        · cases e
    | _ => simp [pm] at e
  · obtain ⟨B, μ, S, d, ds, res, S', r, hd, hs, e, q⟩ := h
    cases d with
    | obj i =>
      cases ds with
      | nil => simp [pm] at e
      | cons y ys =>
        cases y with
        | int j =>
          cases ys with
          | cons _ _ => simp [pm] at e
          | nil =>
            simp only [pm] at e
            split at e
            · rename_i xs hS
              split at e
              · rename_i hb
                split at e
                · rename_i z hz
                  cases e
                  obtain ⟨vy, rfl, hy⟩ := denL_one hs
                  have ej := den_int hy
                  subst ej
                  obtain ⟨a, rfl, hm, ws, h1, h2⟩ := r.get hd hS
                  obtain ⟨v, g1, g2⟩ := h2.at hz
                  obtain ⟨s1, r1⟩ := r.write (o := .lst (ws.eraseIdx j.toNat)) (c := .lst (xs.eraseIdx j.toNat)) hm ⟨_, upd_same, denL_erase _ h2⟩
                  refine .inr ⟨a, ws, j, j.toNat, v, rfl, rfl, h1, by omega, by omega, ?_, g1, q _ _ _ s1 r1 g2⟩
                  have e1 : atI ws j = some v := by
                    have := atI_nat (j := j.toNat) g1
                    rwa [show ((j.toNat : Nat) : Int) = j by omega] at this
                  obtain ⟨jj, k1, k2, k3, _⟩ := atI_get e1
                  have : ixN ws.length j = some j.toNat := by
                    unfold ixN
                    rw [if_pos (by omega), if_pos (by have := h2.length; omega)]
                  exact (ixN_seq this).1
                · cases e
              · cases e
            · cases e
        | _ => simp [pm] at e
    | _ => simp [pm] at e
theorem dp_ref {x : V} {ps : List PyData} (h : Dp W.K H x (.list ps)) : ∃ a, x = .ref a := by cases h; exact ⟨_, rfl⟩
theorem m_index (ok : CxOk c W T mnm k X) : MtR X "list.index" (rM W .index) := by
  refine MtR.imp (mt_indexD ok.hu65) ?_
  rintro x vs H Q ⟨B, μ, S, d, ds, res, S', r, hd, hs, e, q⟩
  unfold pm at e
  split at e <;> first | contradiction | skip
  rename_i b _
  split at e
  · rename_i ps p h1 h2
    split at e
    · rename_i hz
      split at e
      · rename_i j hj
        cases e
        obtain ⟨vy, rfl, hy⟩ := denL_one hs
        have hz : (SeqAt.shaped (.list ps) && SeqAt.shaped p) = true := hz
        rw [Bool.and_eq_true] at hz
        have k1 := pyS_ok r hd h1
        obtain ⟨a, rfl⟩ := dp_ref k1
        rw [List.findIdx?_eq_some_iff_getElem] at hj
        obtain ⟨hlt, g1, g2⟩ := hj
        refine ⟨a, _, p, ps, j, ps[j], rfl, rfl, ok.hK ▸ k1, ok.hK ▸ pyS_ok r hy h2, hz.1, hz.2, by simp [hlt], g1, fun m z' hm hz' => ?_, q _ _ _ (Step.refl ..) r (.int _)⟩
        have := g2 m hm
        obtain ⟨hl, e1⟩ := List.getElem?_eq_some_iff.mp hz'
        rw [← e1]
        simpa using this
      · cases e
    · cases e
  · cases e
theorem recv_ty (r : Rel W B μ S H) {p : PM} {d : D} {v : V} (h : Den W B μ d v) (e : recvOk p d S = true) : tyV W.K "list" v H := by
  unfold recvOk at e
  split at e
  · rename_i xs hx
    obtain ⟨a, vs, rfl, h1, h2⟩ := lst_ok r h hx
    exact .inl ⟨rfl, vs, SqL.of h1⟩
  · cases e
theorem run_pm {p : PM} {io : IE} {ies : List IE} {σ : L2.St} {H : Hp} {Q : VK} (h : tE W (evE T (.pm p io ies)) σ H Q) : tBM W.K "list" (rM W p) (tE W (evE T io)) (tL W (evL T ies)) σ H Q := by
  obtain ⟨env, S, B, μ, d, S', r, eo, ee, q⟩ := h
  simp only [evE] at ee
  split at ee
  · rename_i x S1 e1
    split at ee
    · rename_i hr
      split at ee
      · rename_i ds S2 e2
        refine ⟨env, S, B, μ, x, S1, r, eo, e1, fun B1 μ1 H1 v s1 r1 d1 => ⟨recv_ty r1 d1 hr, ?_⟩⟩
        refine ⟨env, S1, B1, μ1, ds, S2, r1, eo.step s1, e2, fun B2 μ2 H2 vs s2 r2 d2 => ?_⟩
        exact ⟨B2, μ2, S2, x, ds, d, S', r2, Den.mono s2.grow s2.p _ _ d1, d2, ee, fun B3 H3 w s3 r3 d3 => q _ _ _ _ ((s1.trans s2).trans s3) r3 d3⟩
      · cases ee
    · cases ee
  · cases ee
theorem few_of {es : List Expr} {env : Env} {pos : Pos} (h : es.all nstar = true) (hl : es.length < 20) : ((backTo pos (starEach es env)).all (fun x => !x.1) && (backToKw pos (keywordEach [] env)).all (fun x => x.1.isSome)
      && decide (es.length + ([] : List Keyword).length + (if ([] : List Keyword).isEmpty then 0 else 1) < 30)) = true := by
  have h1 : (backTo pos (starEach es env)).all (fun x => !x.1) = true := by
    have := star_any (env := env) (pos := pos) h
    rw [List.all_eq_true]
    intro x hx
    rw [List.any_eq_false] at this
    have := this x hx
    simpa using this
  rw [h1]
  simp [keywordEach, backToKw]
  omega
theorem snd_pm {o e : Expr} {es : List Expr} {io : IE} {ies : List IE} {p : PM} {name : Str} {id : String} {apos pos : Pos} (slot : Slot "list" name id) (hty : typeOf (.builtin id) = pure (.type "method_descriptor")) (hm : ∀ X, CxOk c W T mnm k X → MtR X id (rM W p))
    (hn : noSuper o = true) (hl : (apos.endLine == pos.line) = true) (hlen : (e :: es).length < 20) (ho : SndE c W T mnm k o io) (ha : SndL c W T mnm k (e :: es) ies) : SndE c W T mnm k (.Call (.Attribute o name apos) (e :: es) [] pos) (.pm p io ies) := by
  refine snd_of (fun X ok => ?_) fun _ _ => rfl
  have hs := ha.2
  have hs2 := ha.2
  rw [List.all_cons, Bool.and_eq_true] at hs
  have := pe_bm (X := X) (r := rM W p) PySem.F.plainAttrs_list slot hty (hm X ok) (ho X ok).1 (ha.1 X ok) (base_of hn) (few_of hs2 hlen) hl (star_cons hs.1) (star_any hs.2)
  rw [ok.hK] at this
  exact PE.imp this fun σ H Q q => run_pm q
theorem snd_pm0 {o : Expr} {io : IE} {p : PM} {name : Str} {id : String} {apos pos : Pos} (slot : Slot "list" name id) (hty : typeOf (.builtin id) = pure (.type "method_descriptor")) (hm : ∀ X, CxOk c W T mnm k X → MtR X id (rM W p))
    (hn : noSuper o = true) (hl : (apos.endLine == pos.line) = true) (ho : SndE c W T mnm k o io) : SndE c W T mnm k (.Call (.Attribute o name apos) [] [] pos) (.pm p io []) := by
  refine snd_of (fun X ok => ?_) fun _ _ => rfl
  have := pe_bm0 (X := X) (r := rM W p) PySem.F.plainAttrs_list slot hty (hm X ok) (ho X ok).1 (base_of hn) hl
  rw [ok.hK] at this
  refine PE.imp this fun σ H Q q => ?_
  obtain ⟨env, S, B, μ, d, S', r, eo, ee, q1⟩ := run_pm q
  refine ⟨env, S, B, μ, d, S', r, eo, ee, fun B1 μ1 H1 v s1 r1 d1 => ?_⟩
  obtain ⟨t1, q2⟩ := q1 B1 μ1 H1 v s1 r1 d1
  obtain ⟨env2, S2, B2, μ2, ds2, S3, r2, eo2, ee2, q3⟩ := q2
  simp only [evL] at ee2
  cases ee2
  exact ⟨t1, q3 _ _ _ _ (Step.refl ..) r2 .nil⟩

/-! ### own methods -/
theorem few2 {es : List Expr} {env : Env} {pos : Pos} {n : Nat} (h : es.all nstar = true) (hl : n < 20) : methodCallForm n (backTo pos (starEach es env)) (backToKw pos (keywordEach [] env)) = true := by
  have h1 : (backTo pos (starEach es env)).all (fun x => !x.1) = true := by
    have := star_any (env := env) (pos := pos) h
    rw [List.all_eq_true]
    intro x hx
    rw [List.any_eq_false] at this
    have := this x hx
    simpa using this
  unfold methodCallForm
  rw [h1]
  simp [keywordEach, backToKw]
  omega
theorem ht_of {o : Expr} {m : Str} {apos pos : Pos} {es : List Expr} {env : Env} (hn : noSuper o = true) (hl : (apos.endLine == pos.line) = true) (hs : es.all nstar = true) (hlen : es.length < 20) :
    eval (.Call (.Attribute o m apos) es [] pos) env = (do
      let ov ← eval o env
      standAt apos.atName
      let (f, first) ← holding [ov] (getMethod ov m (do return (← importBound o env).getD true))
      callWith pos f first (backTo pos (starEach es env)) (backToKw pos (keywordEach [] env))) := by
  have e1 : eval (.Call (.Attribute o m apos) es [] pos) env = (do
      let ov ← attributeBase o m env (eval o env)
      standAt apos.atName
      methodCall o m apos pos env ov (es.length + ([] : List Keyword).length) (backTo pos (starEach es env)) (backToKw pos (keywordEach [] env))) := rfl
  rw [e1, base_of hn]
  have e2 := few2 (es := es) (env := env) (pos := pos) (n := es.length + ([] : List Keyword).length) hs (by simpa using hlen)
  unfold methodCall calleeOf methodCallPos
  simp only [e2, hl, if_true, Bool.not_true, Bool.false_or, pure_bind]
theorem no_field (hk : KOk W T mnm k X) {m : Nat} : ∀ (ks : List Nat) (vs : List V), ((ks.map W.fnm).zip vs).lookup (mnm m) = none
  | [], _ => rfl
  | _ :: _, [] => rfl
  | f :: ks, v :: vs => by
    simp only [List.map_cons, List.zip_cons_cons, List.lookup_cons]
    have : (mnm m == W.fnm f) = false := by
      rw [beq_eq_false_iff_ne]
      exact fun z => hk.nmf m f z.symm
    rw [this]
    exact no_field hk ks vs
theorem cls_at (r : Rel W B μ S H) (hk : KOk W T mnm k X) {m : Nat} {d : D} {v : V} {cc : Nat} (h : Den W B μ d v) (e : clsD S d = some cc) : ∃ a dx fs, v = .ref a ∧ H a = some (.ins (W.cls cc) dx fs) ∧ fs.lookup (mnm m) = none := by
  cases d with
  | ins c' ks xs =>
    simp only [clsD] at e
    cases e
    cases h with | ins h1 hl h2 => exact ⟨_, _, _, rfl, r.sub _ _ h1, no_field hk _ _⟩
  | obj i =>
    simp only [clsD] at e
    split at e
    · rename_i c' ks xs q
      cases e
      obtain ⟨a, rfl, hm, dx, vs, h1, hl, h2⟩ := r.get h q
      exact ⟨_, _, _, rfl, h1, no_field hk _ _⟩
    · cases e
  | _ => simp [clsD] at e
/-- a method's call, whatever the class is -/
def tMA (k : Nat) (X : Cx) (m : Str) (to : TE) (t : TA) : TE := fun σ H Q => to σ H fun x H1 => ∃ a C dx fs f fd ps sp, x = .ref a ∧ H1 a = some (.ins C dx fs) ∧ fs.lookup m = none ∧ Cls X.K C ∧ Meth X.K C m f ∧ Binds X.K fd ps [] ∧ FnOk X.prog X.w X.K X.mg X.base CX0 k f fd ps sp ∧
      t σ H1 fun vs H2 => sp (x :: vs) H2 Q E0
theorem pe_methAny {o e : Expr} {to : TE} {m : Str} {es : List Expr} {t : TA} {apos pos : Pos} (hr : Room k X.A) (he : PE X o to) (ha : PA X (e :: es) t) (hn : noSuper o = true) (hl : (apos.endLine == pos.line) = true) (hs : (e :: es).all nstar = true) (hlen : (e :: es).length < 20) :
    PE X (.Call (.Attribute o m apos) (e :: es) [] pos) (tMA k X m to t) := by
  refine ⟨fun pins s σ H Q I h => ?_⟩
  refine PySem.W.methodCall_KW (thn (he.run pins s σ H _ I h) fun u s1 ⟨x, H1, I1, rx, a, C, dx, fs, f, fd, ps, sp, ex, ea, l, hc, hm, hb, F, q⟩ => ?_) (ht_of hn hl hs hlen)
  subst ex
  obtain rfl : u = Value.ref a := rx
  refine getmeth_ok I1 ea hc hm l ?_
  rw [List.all_cons, Bool.and_eq_true] at hs
  refine PySem.W.callWith_K (first := [.ref a]) (h₀ := X.base) I.ok.mod.kin hm.kp (thn (ha.run pos pins s1 σ H1 _ I1 q) fun us s2 ⟨vs, H2, I2, r, q2⟩ => ⟨I2.kIn, ?_⟩) (star_cons hs.1) (star_any hs.2)
  exact run_fn (us := .ref a :: us) (vs := .ref a :: vs) F hr hb .nil pass0 I2 (.cons rfl r) (by rw [List.append_nil]; exact q2)
theorem pe_methAny0 {o : Expr} {to : TE} {m : Str} {apos pos : Pos} (hr : Room k X.A) (he : PE X o to) (hn : noSuper o = true) (hl : (apos.endLine == pos.line) = true) :
    PE X (.Call (.Attribute o m apos) [] [] pos) (tMA k X m to tNil) := by
  refine ⟨fun pins s σ H Q I h => ?_⟩
  refine PySem.W.methodCall_KW (thn (he.run pins s σ H _ I h) fun u s1 ⟨x, H1, I1, rx, a, C, dx, fs, f, fd, ps, sp, ex, ea, l, hc, hm, hb, F, q⟩ => ?_) (ht_of hn hl rfl (by simp))
  subst ex
  obtain rfl : u = Value.ref a := rx
  refine getmeth_ok I1 ea hc hm l ?_
  exact PySem.W.callWith_K0 (first := [.ref a]) I1.kIn hm.kp (run_fn (us := [.ref a]) (vs := [.ref a]) F hr hb .nil pass0 I1 (.cons rfl .nil) (by rw [List.append_nil]; exact q))
theorem run_meth (ok : CxOk c W T mnm k X) {m : Nat} {io : IE} {ies : List IE} {σ : L2.St} {H : Hp} {Q : VK} (h : tE W (evE T (.meth m io ies)) σ H Q) : tMA k X (mnm m) (tE W (evE T io)) (tL W (evL T ies)) σ H Q := by
  obtain ⟨env, S, B, μ, d, S', r, eo, ee, q⟩ := h
  simp only [evE] at ee
  split at ee
  · rename_i x S1 e1
    split at ee
    · rename_i cc e2
      split at ee
      · rename_i hc
        split at ee
        · rename_i f e3
          split at ee
          · rename_i ds S2 e4
            refine ⟨env, S, B, μ, x, S1, r, eo, e1, fun B1 μ1 H1 v s1 r1 d1 => ?_⟩
            obtain ⟨a, dx, fs, rfl, h1, h2⟩ := cls_at (m := m) r1 ok.kk d1 e2
            obtain ⟨fa, np, hm, fd, ps, hps, hb, F⟩ := ok.kk.mth _ _ _ e3
            refine ⟨a, _, dx, fs, fa, fd, ps, _, rfl, h1, h2, ok.kk.cls _ hc, hm, hb, F, ?_⟩
            refine ⟨env, S1, B1, μ1, ds, S2, r1, eo.step s1, e4, fun B2 μ2 H2 vs s2 r2 d2 => ?_⟩
            exact ⟨B2, μ2, S2, x :: ds, d, S', r2, .cons (Den.mono s2.grow s2.p _ _ d1) d2, ee, fun B3 μ3 H3 w s3 r3 d3 => q _ _ _ _ ((s1.trans s2).trans s3) r3 d3⟩
          · cases ee
        · cases ee
      · cases ee
    · cases ee
  · cases ee
theorem snd_meth {o e : Expr} {es : List Expr} {io : IE} {ies : List IE} {m : Nat} {name : Str} {apos pos : Pos} (hm : mnm m = name) (hn : noSuper o = true) (hl : (apos.endLine == pos.line) = true) (hlen : (e :: es).length < 20) (ho : SndE c W T mnm k o io) (ha : SndL c W T mnm k (e :: es) ies) :
    SndE c W T mnm k (.Call (.Attribute o name apos) (e :: es) [] pos) (.meth m io ies) := by
  subst hm
  exact snd_of (fun X ok => PE.imp (pe_methAny ok.r0 (ho X ok).1 (ha.1 X ok) hn hl ha.2 hlen) fun σ H Q q => run_meth ok q) fun _ _ => rfl
theorem snd_meth0 {o : Expr} {io : IE} {m : Nat} {name : Str} {apos pos : Pos} (hm : mnm m = name) (hn : noSuper o = true) (hl : (apos.endLine == pos.line) = true) (ho : SndE c W T mnm k o io) :
    SndE c W T mnm k (.Call (.Attribute o name apos) [] [] pos) (.meth m io []) := by
  subst hm
  refine snd_of (fun X ok => PE.imp (pe_methAny0 ok.r0 (ho X ok).1 hn hl) fun σ H Q q => ?_) fun _ _ => rfl
  obtain ⟨env, S, B, μ, d, S', r, eo, ee, q1⟩ := run_meth ok q
  refine ⟨env, S, B, μ, d, S', r, eo, ee, fun B1 μ1 H1 v s1 r1 d1 => ?_⟩
  obtain ⟨a, C, dx, fs, f, fd, ps, sp, k1, k2, k3, k4, k5, k6, k7, q2⟩ := q1 B1 μ1 H1 v s1 r1 d1
  refine ⟨a, C, dx, fs, f, fd, ps, sp, k1, k2, k3, k4, k5, k6, k7, ?_⟩
  obtain ⟨env2, S2, B2, μ2, ds2, S3, r2, eo2, ee2, q3⟩ := q2
  simp only [evL] at ee2
  cases ee2
  exact q3 _ _ _ _ (Step.refl ..) r2 .nil

/-! ### slices -/
def tO (W : WP) (ev : EvF (Option Int)) : TO := fun σ H Q => ∃ env S B μ o S', Rel W B μ S H ∧ EnvOk W B μ env σ ∧ ev env S = some (o, S') ∧
  ∀ B' μ' H', Step B μ H B' μ' H' → Rel W B' μ' S' H' → Q o H'
def SndO (c : Cn) (W : WP) (T : Tab) (mnm : Nat → Str) (k : Nat) (e : Option Expr) (ie : Option IE) : Prop := ∀ X, CxOk c W T mnm k X → PO X e (tO W (evO T ie))
theorem PO.imp {X : Cx} {e : Option Expr} {t t' : TO} (h : PO X e t) (kk : ∀ σ H Q, t' σ H Q → t σ H Q) : PO X e t' := ⟨fun pins s σ H Q I q => h.run pins s σ H Q I (kk _ _ _ q)⟩
theorem sndO_none : SndO c W T mnm k none none := fun X ok => PO.imp po_none (by
  rintro σ H Q ⟨env, S, B, μ, o, S', r, eo, ee, q⟩
  simp only [evO] at ee
  cases ee
  exact q _ _ _ (Step.refl ..) r)
theorem sndO_some {e : Expr} {ie : IE} (h : SndE c W T mnm k e ie) : SndO c W T mnm k (some e) (some ie) := fun X ok => PO.imp (po_some (h X ok).1) (by
  rintro σ H Q ⟨env, S, B, μ, o, S', r, eo, ee, q⟩
  simp only [evO] at ee
  split at ee
  · rename_i i S1 e1
    cases ee
    exact ⟨env, S, B, μ, .int i, _, r, eo, e1, fun B1 μ1 H1 v s1 r1 d1 => ⟨i, den_int d1, q _ _ _ s1 r1⟩⟩
  · cases ee)
theorem cutD_ok {xs : List D} {vs : List V} {lo hi : Option Int} (h : DenL W B μ xs vs) : DenL W B μ (cutD xs lo hi) (cutV vs lo hi) := by
  unfold cutD cutV
  rw [h.length]
  exact (h.drop _).take _
theorem snd_slice {a : Expr} {lo hi : Option Expr} {ia : IE} {il ih : Option IE} {cell : Bool} {p2 pos : Pos} (ha : SndE c W T mnm k a ia) (hl : SndO c W T mnm k lo il) (hh : SndO c W T mnm k hi ih) : SndE c W T mnm k (.Subscript a (.Slice lo hi none p2) pos) (.slice ia il ih cell) := by
  refine snd_of (fun X ok => PE.imp (pe_slice (SlR.or sl_list (SlR.or sl_tup sl_str)) (ha X ok).1 (hl X ok) (hh X ok)) ?_) fun _ _ => rfl
  rintro σ H Q ⟨env, S, B, μ, d, S', r, eo, ee, q⟩
  simp only [evE] at ee
  split at ee
  · rename_i x S1 e1
    split at ee
    · rename_i l S2 e2
      split at ee
      · rename_i h S3 e3
        refine ⟨env, S, B, μ, x, S1, r, eo, e1, fun B1 μ1 H1 v s1 r1 d1 => ?_⟩
        refine ⟨env, S1, B1, μ1, l, S2, r1, eo.step s1, e2, fun B2 μ2 H2 s2 r2 => ?_⟩
        refine ⟨env, S2, B2, μ2, h, S3, r2, (eo.step s1).step s2, e3, fun B3 μ3 H3 s3 r3 => ?_⟩
        have d3 : Den W B3 μ3 x v := Den.mono s3.grow s3.p _ _ (Den.mono s2.grow s2.p _ _ d1)
        have st := (s1.trans s2).trans s3
        rw [ok.hK]
        split at ee
        · rename_i s
          split at ee
          · rename_i hz
            cases ee
            refine .inr (.inr ⟨_, den_str d3, by simpa [Str.length] using sz hz, q _ _ _ _ st r3 ?_⟩)
            have : cutS ⟨s.toArray⟩ l h = ⟨(cutD s l h).toArray⟩ := by
              unfold cutS cutD
              simp [Str.length]
            rw [this]
            exact .str _
          · cases ee
        · rename_i xs
          split at ee
          · cases ee
          · rename_i hw
            cases ee
            cases d3 with | tup h1 h2 =>
              refine .inr (.inl ⟨_, _, rfl, ex_t r3.sub h1, by rw [← h2.length]; exact hw, fun p hp => ?_⟩)
              obtain ⟨B4, s4, r4, d4⟩ := newT_ok r3 hp (cutD_ok (lo := l) (hi := h) h2)
              exact q _ _ _ _ (st.trans s4) r4 d4
        · split at ee
          · rename_i xs e4
            have ee := Option.some.inj ee
            obtain ⟨p, vs, rfl, h1, h2⟩ := lst_ok r3 d3 e4
            refine .inl ⟨p, vs, rfl, SqL.of h1, fun p hp => ?_⟩
            obtain ⟨B4, μ4, s4, r4, d4⟩ := newL_ok r3 cell hp (cutD_ok (lo := l) (hi := h) h2)
            rw [ee] at r4 d4
            exact q _ _ _ _ (st.trans s4) r4 d4
          · cases ee
      · cases ee
    · cases ee
  · cases ee
end LN

set_option Elab.async false
set_option linter.all false
set_option maxRecDepth 100000
set_option maxHeartbeats 1000000
namespace LN
open PySem L2
variable {W : WP} {B B' : Hp} {μ μ' : List Addr} {S S' : Store} {H H' : Hp} {c : Cn} {T : Tab} {mnm : Nat → Str} {k : Nat} {X : Cx}

/-! ### isinstance -/
def TyS.v (W : WP) : TyS → V
  | .bt b => .ty b.nm
  | .cls c => .ref (W.cls c)
def TyS.u (W : WP) : TyS → Value
  | .bt b => .type b.nm
  | .cls c => .ref (W.cls c)
theorem TyS.rel (t : TyS) : ClsV (t.v W) (t.u W) := by cases t <;> constructor
def tagV (W : WP) : Tag → Value
  | .non => .type "NoneType"
  | .bl => .type "bool"
  | .b t => .type t.nm
  | .ins c => .ref (W.cls c)
theorem kit_bt (K : PySem.W.Frag) (g : Tag) (b : BTy) (hg : ∀ c, g ≠ .ins c) : PySem.W.kitOne K (tagV W g) (.type b.nm) = some (isiB g b) := by
  cases g with
  | ins c => exact absurd rfl (hg c)
  | non => cases b <;> exact kit_ty (a := "NoneType") (by decide +kernel)
  | bl => cases b <;> exact kit_ty (a := "bool") (by decide +kernel)
  | b t => cases t <;> cases b <;> exact kit_ty (by decide +kernel)
theorem tag_ty (ok : CxOk c W T mnm k X) (r : Rel W B μ S H) {d : D} {v : V} {g : Tag} (h : Den W B μ d v) (e : tagD S d = some g) (hi : ∀ c, g = .ins c → T.ic c = true) : TyX X.K H v (tagV W g) := by
  have insT : ∀ {a dx : Addr} {cc : Nat} {fs : List (Str × V)}, H a = some (.ins (W.cls cc) dx fs) → T.ic cc = true → TyX X.K H (.ref a) (tagV W (.ins cc)) := fun {a dx cc fs} h1 h2 => by
    obtain ⟨k0, k1, k2, k3, k4⟩ := ok.kk.ins cc h2
    exact .base (.ins h1 k0 k1 k2 k3 k4)
  cases d with
  | non => cases h; simp only [tagD] at e; cases e; exact .base .non
  | bl b => cases h; simp only [tagD] at e; cases e; exact .base (.bl _)
  | int i => cases h; simp only [tagD] at e; cases e; exact .base (.int _)
  | str s => cases h; simp only [tagD] at e; cases e; exact .base (.str _)
  | tup xs =>
    simp only [tagD] at e; cases e
    cases h with | tup h1 h2 =>
      rcases ex_t r.sub h1 with (h1 | ⟨o, h1⟩) | ⟨o, its, n, h1, hc, _⟩
      · exact .base (.tup h1)
      · exact .fTuple h1
      · rw [← ok.hK] at h1; exact .kTuple h1 hc
  | lst xs => simp only [tagD] at e; cases e; cases h with | lst h1 h2 => exact .base (.lst (r.sub _ _ h1))
  | scr xs =>
    simp only [tagD] at e; cases e
    cases h with | scr h1 h2 =>
      rcases ex_l r.sub h1 with (h1 | ⟨o, h1⟩) | ⟨o, its, n, h1, hc, _⟩
      · exact .base (.lst h1)
      · exact .base (.frz h1)
      · rw [← ok.hK] at h1; exact .kList h1 hc
  | ins cc ks xs => simp only [tagD] at e; cases e; cases h with | ins h1 hl h2 => exact insT (r.sub _ _ h1) (hi _ rfl)
  | obj i =>
    simp only [tagD] at e
    split at e
    · rename_i xs hS
      cases e
      obtain ⟨a, rfl, hm, vs, h1, h2⟩ := r.get h hS
      exact .base (.lst h1)
    · rename_i ks xs hS
      cases e
      obtain ⟨a, rfl, hm, vs, h1, hl, h2⟩ := r.get h hS
      exact .base (.dK h1)
    · rename_i cc ks xs hS
      cases e
      obtain ⟨a, rfl, hm, dx, vs, h1, hl, h2⟩ := r.get h hS
      exact insT h1 (hi _ rfl)
    · cases e
theorem isi1_ok (ok : CxOk c W T mnm k X) {t : TyS} {g : Tag} {b : Bool} (e : isi1 T t g = some b) : PySem.W.kitOne X.K (tagV W g) (t.u W) = some b ∧ ∀ c, g = .ins c → T.ic c = true := by
  cases t with
  | bt t =>
    cases g with
    | ins cc =>
      simp only [isi1] at e
      split at e
      · rename_i hc
        cases e
        exact ⟨((ok.kk.kit cc hc).2 t).2, fun c h => by cases h; exact hc⟩
      · cases e
    | non => simp only [isi1] at e; cases e; exact ⟨kit_bt _ _ t (fun _ h => by cases h), fun c h => by cases h⟩
    | bl => simp only [isi1] at e; cases e; exact ⟨kit_bt _ _ t (fun _ h => by cases h), fun c h => by cases h⟩
    | b t' => simp only [isi1] at e; cases e; exact ⟨kit_bt _ _ t (fun _ h => by cases h), fun c h => by cases h⟩
  | cls cc =>
    cases g with
    | ins c' =>
      simp only [isi1] at e
      split at e
      · rename_i hc
        rw [Bool.and_eq_true] at hc
        cases e
        exact ⟨ok.kk.kit2 c' cc hc.2 hc.1, fun c h => by cases h; exact hc.2⟩
      · cases e
    | non =>
      simp only [isi1] at e
      split at e
      · rename_i hc; cases e; exact ⟨(ok.kk.kit cc hc).1, fun c h => by cases h⟩
      · cases e
    | bl =>
      simp only [isi1] at e
      split at e
      · rename_i hc; cases e; exact ⟨((ok.kk.kit cc hc).2 .bool).1, fun c h => by cases h⟩
      · cases e
    | b t' =>
      simp only [isi1] at e
      split at e
      · rename_i hc; cases e; exact ⟨((ok.kk.kit cc hc).2 t').1, fun c h => by cases h⟩
      · cases e
theorem isiL_ok (ok : CxOk c W T mnm k X) {g : Tag} : ∀ {ts : List TyS} {b : Bool}, isiL T g ts = some b → PySem.W.kitAny X.K (tagV W g) (ts.map (TyS.u W)) = some b ∧ (ts ≠ [] → ∀ c, g = .ins c → T.ic c = true)
  | [], b, e => by simp only [isiL] at e; cases e; exact ⟨rfl, fun h => absurd rfl h⟩
  | t :: ts, b, e => by
    simp only [isiL] at e
    split at e
    · rename_i h
      cases e
      have := isi1_ok ok h
      exact ⟨kitAny_cons (r := true) this.1 (fun z => by cases z) fun _ => rfl, fun _ => this.2⟩
    · rename_i h
      have := isi1_ok ok h
      have ih := isiL_ok ok e
      exact ⟨kitAny_cons this.1 (fun _ => ih.1) (fun z => by cases z), fun _ => this.2⟩
    · cases e
/-- an expression that is a class -/
def SndT (c : Cn) (W : WP) (T : Tab) (mnm : Nat → Str) (k : Nat) (e : Expr) (t : TyS) : Prop := (∀ X, CxOk c W T mnm k X → PE X e (tC (t.v W))) ∧ nstar e = true
theorem sndT_bt {x : Str} {b : BTy} {pos : Pos} (hg : glB c.sc x = true) (hl : c.G.lookup x = some .bn) (hp : plainN x = true) (hv : bootBuiltins x = some (.type b.nm)) : SndT c W T mnm k (.Name x pos) (.bt b) :=
  ⟨fun X ok => pe_bltn (v := .ty b.nm) (gl_of ok hg) (ok.gl x _ hl) hv rfl (plainN_of hp).2.2 (plainN_of hp).1, rfl⟩
theorem sndT_cls {x : Str} {cc f np : Nat} {pos : Pos} (hg : glB c.sc x = true) (hl : c.G.lookup x = some (.cls cc f np)) (hp : plainN x = true) : SndT c W T mnm k (.Name x pos) (.cls cc) :=
  ⟨fun X ok => pe_glob (v := .ref (W.cls cc)) (gl_of ok hg) (ok.gl x _ hl).1 rfl (plainN_of hp).1, rfl⟩
def SndTs (c : Cn) (W : WP) (T : Tab) (mnm : Nat → Str) (k : Nat) (es : List Expr) (ts : List TyS) : Prop := (∀ X, CxOk c W T mnm k X → PA X es (fun _ H Q => Q (ts.map (TyS.v W)) H)) ∧ es.all nstar = true
theorem sndTs_nil : SndTs c W T mnm k [] [] := ⟨fun X ok => pa_nil, rfl⟩
theorem sndTs_cons {e : Expr} {es : List Expr} {t : TyS} {ts : List TyS} (h : SndT c W T mnm k e t) (hs : SndTs c W T mnm k es ts) : SndTs c W T mnm k (e :: es) (t :: ts) :=
  ⟨fun X ok => PA.imp (pa_cons (h.1 X ok) (hs.1 X ok) (star_cons h.2)) fun σ H Q q => q, by rw [List.all_cons, h.2, hs.2]; rfl⟩
theorem clsVs : ∀ ts : List TyS, Paired ClsV (ts.map (TyS.v W)) (ts.map (TyS.u W))
  | [] => .nil
  | t :: ts => .cons t.rel (clsVs ts)
theorem isi_common {ts : List TyS} {ia : IE} {σ : L2.St} {H : Hp} {Q : VK} (h : tE W (evE T (.isi ts ia)) σ H Q) : tE W (evE T ia) σ H fun x H1 => ∃ B μ S d g b, Rel W B μ S H1 ∧ Den W B μ d x ∧ tagD S d = some g ∧ isiL T g ts = some b ∧
    (∀ B' μ' H' v, Step B μ H1 B' μ' H' → Rel W B' μ' S H' → Den W B' μ' (.bl b) v → Q v H') := by
  obtain ⟨env, S, B, μ, d, S', r, eo, ee, q⟩ := h
  simp only [evE] at ee
  split at ee
  · rename_i x S1 e1
    split at ee
    · rename_i g e2
      split at ee
      · rename_i b e3
        cases ee
        exact ⟨env, S, B, μ, x, _, r, eo, e1, fun B1 μ1 H1 v s1 r1 d1 => ⟨B1, μ1, _, x, g, b, r1, d1, e2, e3, fun B2 μ2 H2 w s2 r2 d2 => q _ _ _ _ (s1.trans s2) r2 d2⟩⟩
      · cases ee
    · cases ee
  · cases ee
theorem snd_isi1 {a e : Expr} {ia : IE} {t : TyS} {p1 pos : Pos} (hg : glB c.sc "isinstance" = true) (hl : c.G.lookup ("isinstance" : Str) = some .bn) (hn : nstar a = true) (ha : SndE c W T mnm k a ia) (ht : SndT c W T mnm k e t) :
    SndE c W T mnm k (.Call (.Name "isinstance" p1) [a, e] [] pos) (.isi [t] ia) := by
  refine snd_of (fun X ok => PE.imp (pe_callB call_isi (gl_of ok hg) (ok.gl _ _ hl) (by decide +kernel) (pa_cons (ha X ok).1 (pa_cons (ht.1 X ok) pa_nil (star_cons ht.2)) (star_cons hn)) (by decide) (by decide) (star_cons hn) (star_any (by simp [ht.2]))) ?_) fun _ _ => rfl
  intro σ H Q h
  obtain ⟨env, S, B, μ, d, S', r, eo, ee, q⟩ := isi_common h
  refine ⟨env, S, B, μ, d, S', r, eo, ee, fun B1 μ1 H1 v s1 r1 d1 => ?_⟩
  obtain ⟨B2, μ2, S2, d2, g, b, r2, dd, e2, e3, q2⟩ := q _ _ _ _ s1 r1 d1
  have e4 : isi1 T t g = some b := by
    simp only [isiL] at e3
    split at e3 <;> first | (cases e3; assumption) | skip
    cases e3
  have i1 := isi1_ok ok e4
  exact ⟨_, _, _, _, b, rfl, t.rel, tag_ty ok r2 dd e2 i1.2, i1.1, q2 _ _ _ _ (Step.refl ..) r2 (.bl b)⟩
theorem snd_isiT {a : Expr} {es : List Expr} {ia : IE} {ts : List TyS} {p1 p2 pos : Pos} {kk : Nat} (hg : glB c.sc "isinstance" = true) (hl : c.G.lookup ("isinstance" : Str) = some .bn) (hn : nstar a = true) (h0 : ts ≠ []) (hz : ts.length < 100) (ha : SndE c W T mnm k a ia) (ht : SndTs c W T mnm k es ts) :
    SndE c W T mnm k (.Call (.Name "isinstance" p1) [a, .Tuple es kk p2] [] pos) (.isi ts ia) := by
  refine snd_of (fun X ok => PE.imp (pe_callB call_isiT (gl_of ok hg) (ok.gl _ _ hl) (by decide +kernel) (pa_cons (ha X ok).1 (pa_cons (pe_tup (ht.1 X ok)) pa_nil (star_cons rfl)) (star_cons hn)) (by decide) (by decide) (star_cons hn) (star_any rfl)) ?_) fun _ _ => rfl
  intro σ H Q h
  obtain ⟨env, S, B, μ, d, S', r, eo, ee, q⟩ := isi_common h
  refine ⟨env, S, B, μ, d, S', r, eo, ee, fun B1 μ1 H1 v s1 r1 d1 => ?_⟩
  obtain ⟨B2, μ2, S2, d2, g, b, r2, dd, e2, e3, q2⟩ := q _ _ _ _ s1 r1 d1
  have i1 := isiL_ok ok e3
  refine ⟨by rw [List.length_map]; exact Nat.le_trans (Nat.le_of_lt hz) (by decide), fun p hp => ?_⟩
  obtain ⟨s3, r3⟩ := r2.data (o := .tup (ts.map (TyS.v W))) hp
  exact ⟨_, p, _, _, _, b, rfl, upd_same, clsVs ts, tag_ty ok r3 (Den.mono s3.grow s3.p _ _ dd) e2 (i1.2 h0), i1.1, q2 _ _ _ _ s3 r3 (.bl b)⟩

/-! ### targets -/
def OffSl (sl : List Nat) (σ σ' : L2.St) : Prop := σ'.length = σ.length ∧ ∀ j, j ∉ sl → σ'[j]? = σ[j]?
theorem OffSl.refl (sl : List Nat) (σ : L2.St) : OffSl sl σ σ := ⟨rfl, fun _ _ => rfl⟩
theorem OffSl.trans {a b : List Nat} {σ σ1 σ2 : L2.St} (h : OffSl a σ σ1) (g : OffSl b σ1 σ2) : OffSl (a ++ b) σ σ2 :=
  ⟨g.1.trans h.1, fun j hj => (g.2 j fun z => hj (List.mem_append_right _ z)).trans (h.2 j fun z => hj (List.mem_append_left _ z))⟩
/-- a value stored at a target -/
def tG (W : WP) (t : Tg) : TG := fun v σ H Q => ∃ B μ S env d env', Rel W B μ S H ∧ EnvOk W B μ env σ ∧ Den W B μ d v ∧ setT S t d env = some env' ∧
  ∀ σ', EnvOk W B μ env' σ' → OffSl (slots t) σ σ' → Q σ' H
def tGs (W : WP) (ts : List Tg) : TGs := fun vs σ H Q => ∃ B μ S env ds env', Rel W B μ S H ∧ EnvOk W B μ env σ ∧ DenL W B μ ds vs ∧ setTs S ts ds env = some env' ∧
  ∀ σ', EnvOk W B μ env' σ' → OffSl (slotsL ts) σ σ' → Q σ' H
def SndG (c : Cn) (W : WP) (T : Tab) (mnm : Nat → Str) (k : Nat) (e : Expr) (t : Tg) : Prop := (∀ X, CxOk c W T mnm k X → PG X e (tG W t)) ∧ nstar e = true
def SndGs (c : Cn) (W : WP) (T : Tab) (mnm : Nat → Str) (k : Nat) (es : List Expr) (ts : List Tg) : Prop := (∀ X, CxOk c W T mnm k X → PGs X es (tGs W ts)) ∧ es.all nstar = true ∧ ts.length = es.length
theorem PG.imp {X : Cx} {e : Expr} {t t' : TG} (h : PG X e t) (kk : ∀ v σ H Q, t' v σ H Q → t v σ H Q) : PG X e t' := ⟨fun pins s σ H v u Q I r q => h.run pins s σ H v u Q I r (kk _ _ _ _ q)⟩
theorem PGs.imp {X : Cx} {e : List Expr} {t t' : TGs} (h : PGs X e t) (kk : ∀ v σ H Q, t' v σ H Q → t v σ H Q) : PGs X e t' := ⟨fun pins s σ H v u Q I r q => h.run pins s σ H v u Q I r (kk _ _ _ _ q)⟩
theorem PG.or {X : Cx} {e : Expr} {t t' : TG} (h : PG X e t) (h' : PG X e t') : PG X e (fun v σ H Q => t v σ H Q ∨ t' v σ H Q) :=
  ⟨fun pins s σ H v u Q I r q => q.elim (h.run pins s σ H v u Q I r) (h'.run pins s σ H v u Q I r)⟩
/-- a name that is stored -/
def locB (c : Cn) (x : Str) : Bool := match c.sc.names.lookup x with
  | some .local => true
  | some .cell => match c.blk with
    | none => true
    | some s => s.names.lookup x == some .cell
  | _ => false
theorem loc_of {x : Str} (ok : CxOk c W T mnm k X) (h : locB c x = true) : Loc X.env.scope x ∧ (X.fn x = true ∨ X.env.scope.names.lookup x = some .local) := by
  unfold locB at h
  rw [ok.hs]
  split at h
  · rename_i e; exact ⟨.inl e, .inr e⟩
  · rename_i e
    refine ⟨.inr e, .inl (ok.hb x ?_)⟩
    split at h
    · rename_i e2; simp [e2]
    · rename_i s e2; try simp only [e2]
      exact h
  · cases h
theorem sndG_nm {x : Str} {i : Nat} {pos : Pos} (hi : c.N[i]? = some x) (hx : locB c x = true) : SndG c W T mnm k (.Name x pos) (.nm i) := by
  refine ⟨fun X ok => PG.imp (pg_name (i := i) (by rw [ok.hN]; exact ok.nd) (by rw [ok.hN]; exact hi) (loc_of ok hx).1 (loc_of ok hx).2) ?_, rfl⟩
  rintro v σ H Q ⟨B, μ, S, env, d, env', r, eo, hd, e, q⟩
  simp only [setT] at e
  cases e
  exact q _ (eo.set hd) ⟨by simp, fun j hj => by rw [List.getElem?_set_ne]; simp [slots] at hj; exact Ne.symm hj⟩
theorem sndGs_nil : SndGs c W T mnm k [] [] := ⟨fun X ok => PGs.imp pgs_nil (by
  rintro v σ H Q ⟨B, μ, S, env, ds, env', r, eo, hd, e, q⟩
  cases ds with
  | nil => cases hd; simp only [setTs] at e; cases e; exact ⟨rfl, q _ eo (OffSl.refl ..)⟩
  | cons _ _ => simp [setTs] at e), rfl, rfl⟩
theorem astar_cons {e : Expr} {es : List Expr} {env : Env} (h : nstar e = true) : (assignEach (e :: es) env).map (·.2) = assign e env :: (assignEach es env).map (·.2) := by
  cases e <;> first | rfl | cases h
theorem sndGs_cons {e : Expr} {es : List Expr} {t : Tg} {ts : List Tg} (h : SndG c W T mnm k e t) (hs : SndGs c W T mnm k es ts) : SndGs c W T mnm k (e :: es) (t :: ts) := by
  refine ⟨fun X ok => PGs.imp (pgs_cons (h.1 X ok) (hs.1 X ok) (astar_cons h.2)) ?_, by rw [List.all_cons, h.2, hs.2.1]; rfl, by simp [hs.2.2]⟩
  rintro v σ H Q ⟨B, μ, S, env, ds, env', r, eo, hd, e, q⟩
  cases ds with
  | nil => simp [setTs] at e
  | cons d ds =>
    simp only [setTs] at e
    split at e
    · rename_i env1 e1
      cases hd with | cons h1 h2 =>
        refine ⟨_, _, rfl, B, μ, S, env, d, env1, r, eo, h1, e1, fun σ1 eo1 o1 => ?_⟩
        exact ⟨B, μ, S, env1, ds, env', r, eo1, h2, e, fun σ2 eo2 o2 => q _ eo2 (o1.trans o2)⟩
    · cases e
theorem alen {es : List Expr} {env : Env} (h : es.all nstar = true) : (assignEach es env).length = es.length ∧ (assignEach es env).findIdx? (·.1) = none := by
  induction es with
  | nil => exact ⟨rfl, rfl⟩
  | cons e es ih =>
    rw [List.all_cons, Bool.and_eq_true] at h
    obtain ⟨i1, i2⟩ := ih h.2
    have hc : assignEach (e :: es) env = (false, assign e env) :: assignEach es env := by
      cases e <;> first | rfl | cases h.1
    rw [hc]
    exact ⟨by simp [i1], by rw [List.findIdx?_cons]; simp [i2]⟩
theorem setTs_len {S : Store} : ∀ {ts : List Tg} {ds : List D} {env env' : DEnv}, setTs S ts ds env = some env' → ds.length = ts.length
  | [], [], _, _, _ => rfl
  | [], _ :: _, _, _, e => by simp [setTs] at e
  | _ :: _, [], _, _, e => by simp [setTs] at e
  | t :: ts, d :: ds, env, env', e => by
    simp only [setTs] at e
    split at e
    · simp [setTs_len e]
    · cases e
theorem sndG_tup {es : List Expr} {ts : List Tg} {kk : Nat} {pos : Pos} (h : SndGs c W T mnm k es ts) : SndG c W T mnm k (.Tuple es kk pos) (.tup ts) := by
  refine ⟨fun X ok => PG.imp (PG.or (pg_tup ok.calm (h.1 X ok) (alen h.2.1).1 (alen h.2.1).2) (pg_unl ok.calm (h.1 X ok) (alen h.2.1).1 (alen h.2.1).2)) ?_, rfl⟩
  rintro v σ H Q ⟨B, μ, S, env, d, env', r, eo, hd, e, q⟩
  simp only [setT] at e
  split at e
  · rename_i xs hx
    obtain ⟨a, vs, rfl, h1, h2⟩ := seq_ok r hd hx
    have hl : vs.length = es.length := by rw [← h2.length, setTs_len e, h.2.2]
    have fin : tGs W ts vs σ H Q := ⟨B, μ, S, env, xs, env', r, eo, h2, e, fun σ' eo' o' => q _ eo' (by simpa [slots] using o')⟩
    rcases h1 with h1 | h1
    · exact .inr ⟨a, vs, rfl, by rw [ok.hK]; exact h1, hl, fin⟩
    · exact .inl ⟨a, vs, rfl, by rw [ok.hK]; exact h1, hl, fin⟩
  · cases e
end LN

set_option Elab.async false
set_option linter.all false
set_option maxRecDepth 100000
set_option maxHeartbeats 1000000
namespace LN
open PySem L2
variable {W : WP} {B B' : Hp} {μ μ' : List Addr} {S S' : Store} {H H' : Hp} {c : Cn} {T : Tab} {mnm : Nat → Str} {k : Nat} {X : Cx}

/-! ### what is walked -/
def cur (s : Src) (S : Store) : Option (List D) := match s with
  | .items xs => some xs
  | .cell i => match S[i]? with
    | some (.lst xs) => some xs
    | _ => none
def SrcOk (W : WP) (B : Hp) (μ : List Addr) (s : Src) (J : It) : Prop := ∀ B1 μ1 S1 H1 xs, Ex B B1 → Pre μ μ1 → Rel W B1 μ1 S1 H1 → cur s S1 = some xs → ∀ i : Nat,
  (∀ x, xs[i]? = some x → J.go i H1 ∧ ∀ v H2, J.yld i H1 v H2 → ∃ B2, Step B1 μ1 H1 B2 μ1 H2 ∧ Rel W B2 μ1 S1 H2 ∧ Den W B2 μ1 x v) ∧ (xs[i]? = none → J.stop i H1)
def tI (W : WP) (kd : Nat) (ev : EvF (List D)) : TI := fun σ H R => ∃ env S B μ ds S' s, Rel W B μ S H ∧ EnvOk W B μ env σ ∧ ev env S = some (ds, S') ∧ srcD kd ds S' = some s ∧
  ∀ B' μ' H' J, Step B μ H B' μ' H' → Rel W B' μ' S' H' → SrcOk W B' μ' s J → R J H'
def SndI (c : Cn) (W : WP) (T : Tab) (mnm : Nat → Str) (k : Nat) (tg e : Expr) (kd : Nat) (ies : List IE) : Prop := (∀ X, CxOk c W T mnm k X → PI X tg e (tI W kd (evL T ies))) ∧ notSet e = true
theorem fold_of {e : Expr} {env : Env} (h : notSet e = true) (x : Value) : foldedSetIterable e env x = pure x := by
  cases e <;> first | rfl | cases h
theorem src_list (h : ∀ B1 μ1 S1 H1 xs, Ex B B1 → Pre μ μ1 → Rel W B1 μ1 S1 H1 → cur s S1 = some xs → ∃ vs, SqL W.K H1 a vs ∧ DenL W B1 μ1 xs vs) : SrcOk W B μ s (Itl W.K a) := by
  intro B1 μ1 S1 H1 xs hB hμ r1 hc i
  obtain ⟨vs, h1, h2⟩ := h B1 μ1 S1 H1 xs hB hμ r1 hc
  refine ⟨fun x hx => ?_, fun hx => ?_⟩
  · obtain ⟨v, g1, g2⟩ := h2.at hx
    refine ⟨⟨vs, v, h1, g1⟩, fun w H2 hy => ?_⟩
    obtain ⟨e, hy⟩ := hy
    subst e
    have := hy vs h1
    rw [g1] at this
    cases this
    exact ⟨B1, Step.refl .., r1, g2⟩
  · exact ⟨vs, h1, by rw [← h2.length]; exact List.getElem?_eq_none_iff.mp hx⟩
theorem src_tup {xs0 : List D} (h : ∀ B1 μ1 S1 H1 xs, Ex B B1 → Pre μ μ1 → Rel W B1 μ1 S1 H1 → cur s S1 = some xs → ∃ vs, SqT W.K H1 a vs ∧ DenL W B1 μ1 xs vs) : SrcOk W B μ s (Itt W.K a) := by
  intro B1 μ1 S1 H1 xs hB hμ r1 hc i
  obtain ⟨vs, h1, h2⟩ := h B1 μ1 S1 H1 xs hB hμ r1 hc
  refine ⟨fun x hx => ?_, fun hx => ?_⟩
  · obtain ⟨v, g1, g2⟩ := h2.at hx
    refine ⟨⟨vs, v, h1, g1⟩, fun w H2 hy => ?_⟩
    obtain ⟨e, hy⟩ := hy
    subst e
    have := hy vs h1
    rw [g1] at this
    cases this
    exact ⟨B1, Step.refl .., r1, g2⟩
  · exact ⟨vs, h1, by rw [← h2.length]; exact List.getElem?_eq_none_iff.mp hx⟩
theorem sndI_seq {tg e : Expr} {ie : IE} (hn : notSet e = true) (h : SndE c W T mnm k e ie) : SndI c W T mnm k tg e 0 [ie] := by
  refine ⟨fun X ok => PI.imp (PI.or (pi_list (h X ok).1) (PI.or (pi_tup (h X ok).1) (pi_str (h X ok).1))) ?_, hn⟩
  rintro σ H R ⟨env, S, B, μ, ds, S', s, r, eo, ee, es, q⟩
  simp only [evL] at ee
  split at ee
  · rename_i d S1 e1
    cases ee
    rw [ok.hK]
    cases d with
    | lst xs =>
      simp only [srcD] at es; cases es
      refine .inl ⟨env, S, B, μ, _, _, r, eo, e1, fun B1 μ1 H1 v s1 r1 d1 => ?_⟩
      cases d1 with | lst h1 h2 =>
        refine ⟨_, rfl, ⟨_, SqL.of (r1.sub _ _ h1)⟩, q _ _ _ _ s1 r1 (src_list fun B2 μ2 S2 H2 xs' hB hμ r2 hc => ?_)⟩
        simp only [cur] at hc; cases hc
        exact ⟨_, SqL.of (r2.sub _ _ (hB _ _ h1)), DenL.mono hB hμ _ _ h2⟩
    | scr xs =>
      simp only [srcD] at es; cases es
      refine .inl ⟨env, S, B, μ, _, _, r, eo, e1, fun B1 μ1 H1 v s1 r1 d1 => ?_⟩
      cases d1 with | scr h1 h2 =>
        refine ⟨_, rfl, ⟨_, ex_l r1.sub h1⟩, q _ _ _ _ s1 r1 (src_list fun B2 μ2 S2 H2 xs' hB hμ r2 hc => ?_)⟩
        simp only [cur] at hc; cases hc
        exact ⟨_, ex_l r2.sub (ex_l hB h1), DenL.mono hB hμ _ _ h2⟩
    | obj i =>
      simp only [srcD] at es
      split at es
      · rename_i xs hS
        cases es
        refine .inl ⟨env, S, B, μ, _, _, r, eo, e1, fun B1 μ1 H1 v s1 r1 d1 => ?_⟩
        obtain ⟨a, rfl, hm, vs, h1, h2⟩ := r1.get d1 hS
        refine ⟨_, rfl, ⟨_, SqL.of h1⟩, q _ _ _ _ s1 r1 (src_list fun B2 μ2 S2 H2 xs' hB hμ r2 hc => ?_)⟩
        simp only [cur] at hc
        split at hc
        · rename_i ys hS2
          cases hc
          obtain ⟨ws, g1, g2⟩ := r2.at (hμ.at hm) hS2
          exact ⟨ws, SqL.of g1, g2⟩
        · cases hc
      · cases es
    | tup xs =>
      simp only [srcD] at es; cases es
      refine .inr (.inl ⟨env, S, B, μ, _, _, r, eo, e1, fun B1 μ1 H1 v s1 r1 d1 => ?_⟩)
      cases d1 with | tup h1 h2 =>
        refine ⟨_, rfl, ⟨_, ex_t r1.sub h1⟩, q _ _ _ _ s1 r1 (src_tup (xs0 := xs) fun B2 μ2 S2 H2 xs' hB hμ r2 hc => ?_)⟩
        simp only [cur] at hc; cases hc
        exact ⟨_, ex_t r2.sub (ex_t hB h1), DenL.mono hB hμ _ _ h2⟩
    | str t =>
      simp only [srcD] at es
      split at es
      · cases es
        refine .inr (.inr ⟨env, S, B, μ, _, _, r, eo, e1, fun B1 μ1 H1 v s1 r1 d1 => ⟨_, den_str d1, q _ _ _ _ s1 r1 ?_⟩⟩)
        intro B2 μ2 S2 H2 xs hB hμ r2 hc i
        simp only [cur] at hc; cases hc
        refine ⟨fun x hx => ?_, fun hx => ?_⟩
        · rw [List.getElem?_map] at hx
          cases ht : t[i]? with
          | none => rw [ht] at hx; cases hx
          | some z =>
            rw [ht] at hx; cases hx
            have hlt : i < t.length := (List.getElem?_eq_some_iff.mp ht).1
            refine ⟨by show i < t.toArray.size; simpa using hlt, fun w H3 hy => ?_⟩
            obtain ⟨e, cc, hcx, hv⟩ := hy
            subst e hv
            have : cc = z := by
              have : t.toArray[i]? = some cc := hcx
              rw [List.getElem?_toArray, ht] at this
              cases this; rfl
            subst this
            exact ⟨B2, Step.refl .., r2, .str [cc]⟩
        · show t.toArray.size ≤ i
          simp only [List.getElem?_eq_none_iff, List.length_map] at hx
          simpa using hx
      · cases es
    | _ => simp [srcD] at es
  · cases ee
theorem rngD_at (a : Int) : ∀ (n i : Nat), (rngD a n)[i]? = if i < n then some (.int (a + i)) else none
  | 0, i => by simp [rngD]
  | n + 1, 0 => by simp [rngD]
  | n + 1, i + 1 => by
    simp only [rngD, List.getElem?_cons_succ]
    rw [rngD_at (a + 1) n i]
    by_cases h : i < n
    · rw [if_pos h, if_pos (by omega)]
      congr 2
      omega
    · rw [if_neg h, if_neg (by omega)]
theorem src_rng {lo : Int} {n : Nat} : SrcOk W B μ (.items (rngD lo n)) (Itr lo n) := by
  intro B2 μ2 S2 H2 xs hB hμ r2 hc i
  simp only [cur] at hc; cases hc
  rw [rngD_at]
  refine ⟨fun x hx => ?_, fun hx => ?_⟩
  · split at hx
    · rename_i hlt
      cases hx
      refine ⟨hlt, fun w H3 hy => ?_⟩
      obtain ⟨e, hv⟩ := hy
      subst e hv
      exact ⟨B2, Step.refl .., r2, .int _⟩
    · cases hx
  · split at hx
    · cases hx
    · rename_i hlt; exact Nat.le_of_not_lt hlt
theorem denL_1 {d : D} {vs : List V} (h : DenL W B μ [d] vs) : ∃ v, vs = [v] ∧ Den W B μ d v := denL_one h
theorem denL_2 {d e : D} {vs : List V} (h : DenL W B μ [d, e] vs) : ∃ v w, vs = [v, w] ∧ Den W B μ d v ∧ Den W B μ e w := by
  cases h with | cons h r => obtain ⟨w, rfl, q⟩ := denL_one r; exact ⟨_, w, rfl, h, q⟩
theorem sndI_rng1 {tg a : Expr} {ia : IE} {p pos : Pos} (hg : glB c.sc "range" = true) (hl : c.G.lookup ("range" : Str) = some .bn) (ha : SndL c W T mnm k [a] [ia]) : SndI c W T mnm k tg (.Call (.Name "range" p) [a] [] pos) 1 [ia] := by
  have hs := ha.2
  simp only [List.all_cons, List.all_nil, Bool.and_true] at hs
  refine ⟨fun X ok => PI.imp (pi_range1 (gl_of ok hg) (ok.gl _ _ hl) (ha.1 X ok) (star_cons hs)) ?_, rfl⟩
  rintro σ H R ⟨env, S, B, μ, ds, S', s, r, eo, ee, es, q⟩
  refine ⟨env, S, B, μ, ds, S', r, eo, ee, fun B1 μ1 H1 vs s1 r1 d1 => ?_⟩
  cases ds with
  | nil => simp [srcD] at es
  | cons d ds =>
    cases ds with
    | cons d' ds =>
      exfalso
      simp only [evL] at ee
      split at ee <;> simp at ee
    | nil =>
      cases d with
      | int j =>
        simp only [srcD] at es
        split at es
        · rename_i hj
          cases es
          obtain ⟨v, rfl, dv⟩ := denL_one d1
          have := den_int dv
          subst this
          exact ⟨j, rfl, by omega, by omega, q _ _ _ _ s1 r1 src_rng⟩
        · cases es
      | _ => simp [srcD] at es
theorem evL_len : ∀ {ies : List IE} {env : DEnv} {S S' : Store} {ds : List D}, evL T ies env S = some (ds, S') → ds.length = ies.length
  | [], _, _, _, _, e => by simp only [evL] at e; cases e; rfl
  | i :: is, _, _, _, _, e => by
    simp only [evL] at e
    split at e
    · split at e
      · rename_i h; cases e; simp [evL_len h]
      · cases e
    · cases e
theorem sndI_rng2 {tg a b : Expr} {ia ib : IE} {p pos : Pos} (hg : glB c.sc "range" = true) (hl : c.G.lookup ("range" : Str) = some .bn) (ha : SndL c W T mnm k [a, b] [ia, ib]) : SndI c W T mnm k tg (.Call (.Name "range" p) [a, b] [] pos) 1 [ia, ib] := by
  have hs := ha.2
  simp only [List.all_cons, List.all_nil, Bool.and_true, Bool.and_eq_true] at hs
  refine ⟨fun X ok => PI.imp (pi_range2 (gl_of ok hg) (ok.gl _ _ hl) (ha.1 X ok) (by rw [star_cons hs.1, star_cons hs.2]; rfl) (star_cons hs.2)) ?_, rfl⟩
  rintro σ H R ⟨env, S, B, μ, ds, S', s, r, eo, ee, es, q⟩
  refine ⟨env, S, B, μ, ds, S', r, eo, ee, fun B1 μ1 H1 vs s1 r1 d1 => ?_⟩
  have hl2 := evL_len ee
  match ds, es, d1, hl2 with
  | [d, e], es, d1, _ =>
    obtain ⟨v, w, rfl, dv, dw⟩ := denL_2 d1
    cases d with
    | int i =>
      cases e with
      | int j =>
        simp only [srcD] at es
        split at es
        · rename_i hj
          cases es
          have e1 := den_int dv
          have e2 := den_int dw
          subst e1 e2
          exact ⟨i, j, rfl, ⟨by omega, by omega, by omega, by omega⟩, q _ _ _ _ s1 r1 src_rng⟩
        · cases es
      | _ => simp [srcD] at es
    | _ => simp [srcD] at es
theorem enumD_at : ∀ (xs : List D) (n i : Nat), (enumD (n : Int) xs)[i]? = (xs[i]?).map fun x => .tup [.int ((n + i : Nat) : Int), x]
  | [], n, i => by simp [enumD]
  | x :: xs, n, 0 => by simp [enumD]
  | x :: xs, n, i + 1 => by
    simp only [enumD, List.getElem?_cons_succ]
    have := enumD_at xs (n + 1) i
    rw [show ((n : Int) + 1) = ((n + 1 : Nat) : Int) by omega, this]
    rw [show n + 1 + i = n + (i + 1) by omega]
theorem zipD_at : ∀ (xs ys : List D) (i : Nat), (zipD xs ys)[i]? = match xs[i]?, ys[i]? with
    | some x, some y => some (.tup [x, y])
    | _, _ => none
  | [], ys, i => by simp [zipD]
  | x :: xs, [], i => by
    simp only [zipD, List.getElem?_nil]
    split <;> simp_all
  | x :: xs, y :: ys, 0 => by simp [zipD]
  | x :: xs, y :: ys, i + 1 => by
    simp only [zipD, List.getElem?_cons_succ]
    exact zipD_at xs ys i
theorem sndI_enum {elts : List Expr} {kk : Nat} {tpos : Pos} {a : Expr} {ia : IE} {p pos : Pos} (hg : glB c.sc "enumerate" = true) (hl : c.G.lookup ("enumerate" : Str) = some .bn) (ha : SndL c W T mnm k [a] [ia]) : SndI c W T mnm k (.Tuple elts kk tpos) (.Call (.Name "enumerate" p) [a] [] pos) 2 [ia] := by
  have hs := ha.2
  simp only [List.all_cons, List.all_nil, Bool.and_true] at hs
  refine ⟨fun X ok => PI.imp (pi_enum (gl_of ok hg) (ok.gl _ _ hl) (ha.1 X ok) (star_cons hs)) ?_, rfl⟩
  rintro σ H R ⟨env, S, B, μ, ds, S', s, r, eo, ee, es, q⟩
  rw [ok.hK]
  refine ⟨env, S, B, μ, ds, S', r, eo, ee, fun B1 μ1 H1 vs s1 r1 d1 => ?_⟩
  have hl2 := evL_len ee
  match ds, es, d1, hl2 with
  | [d], es, d1, _ =>
    obtain ⟨v, rfl, dv⟩ := denL_one d1
    cases d with
    | lst xs =>
      simp only [srcD] at es
      cases es
      cases dv with | lst h1 h2 =>
        refine ⟨_, _, rfl, SqL.of (r1.sub _ _ h1), q _ _ _ _ s1 r1 ?_⟩
        intro B2 μ2 S2 H2 xs' hB hμ r2 hc i
        simp only [cur] at hc; cases hc
        have g1 := SqL.of (K := W.K) (r2.sub _ _ (hB _ _ h1))
        have g2 := DenL.mono hB hμ _ _ h2
        rw [show enumD 0 xs = enumD ((0 : Nat) : Int) xs from rfl, enumD_at]
        refine ⟨fun x hx => ?_, fun hx => ?_⟩
        · cases hxi : xs[i]? with
          | none => rw [hxi] at hx; cases hx
          | some y =>
            rw [hxi] at hx; cases hx
            obtain ⟨u, k1, k2⟩ := g2.at hxi
            refine ⟨⟨_, u, g1, k1⟩, fun w H3 hy => ?_⟩
            obtain ⟨t, z, rfl, hn, rfl, hz⟩ := hy
            have := hz _ g1
            rw [k1] at this
            cases this
            obtain ⟨B3, s3, r3, d3⟩ := newT_ok (xs := [.int (i : Int), y]) r2 hn (.cons (.int _) (.cons k2 .nil))
            exact ⟨B3, s3, r3, by rw [Nat.zero_add]; exact d3⟩
        · refine ⟨_, g1, ?_⟩
          rw [← g2.length]
          cases hxi : xs[i]? with
          | none => exact List.getElem?_eq_none_iff.mp hxi
          | some y => rw [hxi] at hx; cases hx
    | _ => simp [srcD] at es
theorem sndI_zip {elts : List Expr} {kk : Nat} {tpos : Pos} {a b : Expr} {ia ib : IE} {p pos : Pos} (hg : glB c.sc "zip" = true) (hl : c.G.lookup ("zip" : Str) = some .bn) (ha : SndL c W T mnm k [a, b] [ia, ib]) : SndI c W T mnm k (.Tuple elts kk tpos) (.Call (.Name "zip" p) [a, b] [] pos) 3 [ia, ib] := by
  have hs := ha.2
  simp only [List.all_cons, List.all_nil, Bool.and_true, Bool.and_eq_true] at hs
  refine ⟨fun X ok => PI.imp (pi_zip (gl_of ok hg) (ok.gl _ _ hl) (ha.1 X ok) (star_cons hs.1) (star_any (by simp [hs.2]))) ?_, rfl⟩
  rintro σ H R ⟨env, S, B, μ, ds, S', s, r, eo, ee, es, q⟩
  rw [ok.hK]
  refine ⟨env, S, B, μ, ds, S', r, eo, ee, fun B1 μ1 H1 vs s1 r1 d1 => ?_⟩
  have hl2 := evL_len ee
  match ds, es, d1, hl2 with
  | [d, e], es, d1, _ =>
    obtain ⟨v, w, rfl, dv, dw⟩ := denL_2 d1
    cases d with
    | lst xs =>
      cases e with
      | lst ys =>
        simp only [srcD] at es
        cases es
        cases dv with | lst h1 h2 =>
          cases dw with | lst h3 h4 =>
            refine ⟨_, _, _, _, rfl, SqL.of (r1.sub _ _ h1), SqL.of (r1.sub _ _ h3), q _ _ _ _ s1 r1 ?_⟩
            intro B2 μ2 S2 H2 xs' hB hμ r2 hc i
            simp only [cur] at hc; cases hc
            have g1 := SqL.of (K := W.K) (r2.sub _ _ (hB _ _ h1))
            have g2 := DenL.mono hB hμ _ _ h2
            have g3 := SqL.of (K := W.K) (r2.sub _ _ (hB _ _ h3))
            have g4 := DenL.mono hB hμ _ _ h4
            rw [zipD_at]
            refine ⟨fun x hx => ?_, fun hx => ?_⟩
            · split at hx
              · rename_i y z hy hz
                cases hx
                obtain ⟨u, k1, k2⟩ := g2.at hy
                obtain ⟨u', k3, k4⟩ := g4.at hz
                refine ⟨⟨_, _, u, u', g1, g3, k1, k3⟩, fun w H3 hyy => ?_⟩
                obtain ⟨t, z1, z2, rfl, hn, rfl, q1, q2⟩ := hyy
                have e1 := q1 _ g1
                have e2 := q2 _ g3
                rw [k1] at e1
                rw [k3] at e2
                cases e1; cases e2
                obtain ⟨B3, s3, r3, d3⟩ := newT_ok (xs := [y, z]) r2 hn (.cons k2 (.cons k4 .nil))
                exact ⟨B3, s3, r3, d3⟩
              · cases hx
            · refine ⟨_, _, g1, g3, ?_⟩
              rw [← g2.length, ← g4.length]
              split at hx
              · cases hx
              · rename_i hno
                by_cases hlt : i < xs.length
                · by_cases hlt2 : i < ys.length
                  · exact absurd rfl (fun _ : (0 : Nat) = 0 => hno xs[i] ys[i] (by simp [hlt]) (by simp [hlt2]))
                  · exact .inr (by omega)
                · exact .inl (by omega)
      | _ => simp [srcD] at es
    | _ => simp [srcD] at es
end LN

set_option Elab.async false
set_option linter.all false
set_option maxRecDepth 100000
set_option maxHeartbeats 1000000
namespace LN
open PySem L2
variable {W : WP} {B B' : Hp} {μ μ' : List Addr} {S S' : Store} {H H' : Hp} {c : Cn} {T : Tab} {mnm : Nat → Str} {k : Nat} {X : Cx}

/-! ### turns by place -/
def lcG (stp : D → Store → Option (Option D × Store)) (s : Src) : Nat → Nat → Store → Option (List D × Store)
  | 0, _, _ => none
  | n + 1, k, S => match cur s S with
    | some xs => match xs[k]? with
      | none => some ([], S)
      | some x => match stp x S with
        | some (some y, S1) => match lcG stp s n (k + 1) S1 with
          | some (ys, S2) => some (y :: ys, S2)
          | none => none
        | some (none, S1) => lcG stp s n (k + 1) S1
        | none => none
    | none => none
theorem lcL_G {stp : D → Store → Option (Option D × Store)} {xs : List D} : ∀ (l : List D) (k : Nat) (S : Store) (r : List D × Store), xs.drop k = l → lcL stp l S = some r → lcG stp (.items xs) (l.length + 1) k S = some r
  | [], k, S, r, h, e => by
    have : xs[k]? = none := List.getElem?_eq_none_iff.mpr (List.drop_eq_nil_iff.mp h)
    simp only [lcL] at e
    simp only [lcG, cur, this]
    exact e
  | x :: l, k, S, r, h, e => by
    have hx : xs[k]? = some x := by
      have : (xs.drop k)[0]? = some x := by rw [h]; rfl
      rw [List.getElem?_drop] at this
      simpa using this
    have hl : xs.drop (k + 1) = l := by
      have : xs.drop (k + 1) = (xs.drop k).drop 1 := by rw [List.drop_drop, Nat.add_comm]
      rw [this, h]; rfl
    simp only [lcL] at e
    unfold lcG
    simp only [cur, hx]
    split at e
    · rename_i y S1 e1
      try rw [e1]
      split at e
      · rename_i ys S2 e2
        have ih := lcL_G l (k + 1) S1 (ys, S2) hl e2
        simp only [List.length_cons, ih]
        exact e
      · cases e
    · rename_i S1 e1
      try rw [e1]
      have ih := lcL_G l (k + 1) S1 r hl e
      simp only [List.length_cons]
      exact ih
    · cases e
theorem lcC_G {stp : D → Store → Option (Option D × Store)} {i : Nat} : ∀ (n k : Nat) (S : Store), lcC stp i n k S = lcG stp (.cell i) n k S
  | 0, k, S => rfl
  | n + 1, k, S => by
    simp only [lcC, lcG, cur]
    cases h : S[i]? with
    | none => rfl
    | some c => cases c with
      | lst xs =>
        simp only []
        cases hx : xs[k]? with
        | none => rfl
        | some x =>
          simp only []
          cases e : stp x S with
          | none => rfl
          | some p => cases p with
            | mk y S1 => cases y with
              | none => exact lcC_G n (k + 1) S1
              | some y => simp only [lcC_G n (k + 1) S1] <;> try rfl
      | ins _ _ => rfl
      | dct _ => rfl
theorem lcS_G {stp : D → Store → Option (Option D × Store)} {s : Src} {S : Store} {r : List D × Store} (e : lcS stp s S = some r) : ∃ n, lcG stp s n 0 S = some r := by
  cases s with
  | items xs => exact ⟨_, lcL_G xs 0 S r rfl e⟩
  | cell i =>
    simp only [lcS] at e
    split at e
    · rename_i xs h
      exact ⟨_, by rw [← lcC_G]; exact e⟩
    · cases e
theorem Rel.aside {p : Addr} {o : HO} (r : Rel W B μ S H) (hB : B p = none) (hm : p ∉ μ) (hpl : ∀ x, H p = some x → plainO x) : Rel W B μ S (upd H p o) := by
  refine ⟨fun a x h => ?_, r.len, r.nd, fun i a c h1 h2 => ?_, tabs_at r.tb (fun b x hx hn => by
    have ne : b ≠ p := fun q => by subst q; exact hn (hpl x hx)
    rw [upd_ne ne]; exact hx), r.nt⟩
  · have ne : a ≠ p := fun q => by subst q; rw [hB] at h; cases h
    rw [upd_ne ne]; exact r.sub a x h
  · obtain ⟨b, cc⟩ := r.cell i a c h1 h2
    have ne : a ≠ p := fun q => hm (q ▸ List.mem_of_getElem? h1)
    exact ⟨b, cc.at fun o _ h => by rw [upd_ne ne]; exact h⟩
theorem Step.aside {B0 : Hp} {μ0 : List Addr} {H0 : Hp} {p : Addr} {o : HO} (s : Step B0 μ0 H0 B μ H) (h : H0 p = none) : Step B0 μ0 H0 B μ (upd H p o) := by
  refine ⟨s.pre, s.grow, s.new, fun a x ha hm hn => ?_, fun a ha => ?_⟩
  · have ne : a ≠ p := fun q => by subst q; rw [h] at ha; cases ha
    rw [upd_ne ne]; exact s.frame a x ha hm hn
  · by_cases q : a = p
    · subst q; exact fresh_of h
    · exact s.keep a fun x hn e => ha x hn (by rw [upd_ne q]; exact e)
theorem wipe_at {σ : L2.St} : ∀ {vs : List Nat} (j : Nat), (L2.wipe σ vs)[j]? = if j ∈ vs ∧ j < σ.length then some none else σ[j]?
  | [], j => by simp [L2.wipe]
  | v :: vs, j => by
    unfold L2.wipe
    by_cases e : v = j
    · subst e
      by_cases hl : v < σ.length
      · rw [List.getElem?_set_self (by rw [wipe_length]; exact hl), if_pos ⟨by simp, hl⟩]
      · rw [if_neg (fun h => hl h.2)]
        have h1 : σ[v]? = none := List.getElem?_eq_none_iff.mpr (by omega)
        rw [h1]
        exact List.getElem?_eq_none_iff.mpr (by rw [List.length_set, wipe_length]; omega)
    · rw [List.getElem?_set_ne e, wipe_at j]
      have : (j ∈ vs ∧ j < σ.length) ↔ (j ∈ v :: vs ∧ j < σ.length) := by
        simp only [List.mem_cons]
        constructor
        · exact fun h => ⟨.inr h.1, h.2⟩
        · rintro ⟨h | h, g⟩
          · exact absurd h.symm e
          · exact ⟨h, g⟩
      by_cases q : j ∈ vs ∧ j < σ.length
      · rw [if_pos q, if_pos (this.mp q)]
      · rw [if_neg q, if_neg (fun z => q (this.mpr z))]
theorem wipe_off {σ σ' : L2.St} {sl vs : List Nat} (h : OffSl sl (L2.wipe σ vs) σ') (hs : ∀ j ∈ sl, j ∈ vs) : L2.wipe σ' vs = L2.wipe σ vs := by
  apply List.ext_getElem?
  intro j
  rw [wipe_at, wipe_at]
  have hl : σ'.length = σ.length := by rw [h.1, wipe_length]
  rw [hl]
  by_cases q : j ∈ vs ∧ j < σ.length
  · rw [if_pos q, if_pos q]
  · rw [if_neg q, if_neg q]
    by_cases hj : j ∈ sl
    · have hv := hs j hj
      have hlt : ¬ j < σ.length := fun z => q ⟨hv, z⟩
      rw [List.getElem?_eq_none_iff.mpr (by omega), List.getElem?_eq_none_iff.mpr (by omega)]
    · rw [h.2 j hj, wipe_at, if_neg q]
/-- tests of a comprehension -/
def tC1 (W : WP) (ev : EvF Bool) : TT := fun σ H Q => ∃ env S B μ b S', Rel W B μ S H ∧ EnvOk W B μ env σ ∧ ev env S = some (b, S') ∧
  ∀ B' μ' H', Step B μ H B' μ' H' → Rel W B' μ' S' H' → Q b H'
def SndC (c : Cn) (W : WP) (T : Tab) (mnm : Nat → Str) (k : Nat) (es : List Expr) (ie : Option IE) : Prop := ∀ X, CxOk c W T mnm k X → PTs X es (tC1 W (evC T ie))
theorem PTs.imp {X : Cx} {e : List Expr} {t t' : TT} (h : PTs X e t) (kk : ∀ σ H Q, t' σ H Q → t σ H Q) : PTs X e t' := ⟨fun pins s σ H Q I q => h.run pins s σ H Q I (kk _ _ _ q)⟩
theorem sndC_nil : SndC c W T mnm k [] none := fun X ok => PTs.imp pts_nil (by
  rintro σ H Q ⟨env, S, B, μ, b, S', r, eo, ee, q⟩
  simp only [evC] at ee
  cases ee
  exact q _ _ _ (Step.refl ..) r)
theorem sndC_one {e : Expr} {ie : IE} (h : SndE c W T mnm k e ie) : SndC c W T mnm k [e] (some ie) := fun X ok => PTs.imp (pts_one (h X ok).2) (by
  rintro σ H Q ⟨env, S, B, μ, b, S', r, eo, ee, q⟩
  simp only [evC] at ee
  split at ee
  · rename_i b' S1 e1
    cases ee
    exact ⟨env, S, B, μ, _, _, r, eo, e1, q⟩
  · cases ee)

/-! ### the comprehension -/
def lcStp (T : Tab) (tg : Tg) (cd : Option IE) (e : IE) (env : DEnv) : D → Store → Option (Option D × Store) := fun x S2 => match setT S2 tg x env with
  | some env2 => match evC T cd env2 S2 with
    | some (true, S3) => match evE T e env2 S3 with
      | some (y, S4) => some (some y, S4)
      | none => none
    | some (false, S3) => some (none, S3)
    | none => none
  | none => none
theorem run_lc {cell : Bool} {vs : List Nat} {tg : Tg} {kd : Nat} {it : List IE} {cd : Option IE} {e : IE} {σ : L2.St} {H : Hp} {Q : VK} (hsl : ∀ j ∈ slots tg, j ∈ vs) (h : tE W (evE T (.lc cell vs tg kd it cd e)) σ H Q) :
    tLc (tI W kd (evL T it)) (tG W tg) (tC1 W (evC T cd)) (tE W (evE T e)) vs σ H Q := by
  obtain ⟨env, S, B, μ, d, S', r, eo, ee, q⟩ := h
  simp only [evE] at ee
  split at ee
  · rename_i ds S1 e1
    split at ee
    · rename_i s e2
      split at ee
      · rename_i ys S5 e3
        split at ee
        · rename_i hz
          have ee := Option.some.inj ee
          obtain ⟨n0, e4⟩ := lcS_G (stp := lcStp T tg cd e (wipeD env vs)) e3
          refine ⟨env, S, B, μ, ds, S1, s, r, eo, e1, e2, fun B1 μ1 H1 J s1 r1 jo => ?_⟩
          intro D0 hD
          have hB1 : B1 D0 = none := by
            cases q : B1 D0 with
            | none => rfl
            | some x => rw [r1.sub _ _ q] at hD; cases hD
          have hm1 : D0 ∉ μ1 := fun hm => by
            obtain ⟨_, o, eo⟩ := r1.mem hm
            rw [hD] at eo; cases eo
          -- the word of the turn
          refine ⟨fun i m Hc => ∃ Bc μc Sc acc accD rest, Rel W Bc μc Sc Hc ∧ Step B1 μ1 H1 Bc μc Hc ∧ Bc D0 = none ∧ D0 ∉ μc ∧ Hc D0 = some (.lst acc) ∧ DenL W Bc μc accD acc ∧ accD ++ rest = ys ∧ lcG (lcStp T tg cd e (wipeD env vs)) s m i Sc = some (rest, S5), ⟨n0, B1, μ1, S1, [], [], ys, r1.aside hB1 hm1 (fun x e => by rw [hD] at e; cases e), (Step.refl ..).aside hD, hB1, hm1, upd_same, .nil, rfl, e4⟩, ?_⟩
          rintro i m Hc ⟨Bc, μc, Sc, acc, accD, rest, rc, sc, hBc, hmc, hDc, dc, erest, eg⟩
          cases m with
          | zero => cases eg
          | succ m =>
            simp only [lcG] at eg
            split at eg
            · rename_i xs ecur
              have jj := jo Bc μc Sc Hc xs sc.grow sc.p rc ecur i
              split at eg
              · -- the end
                rename_i hx
                cases eg
                refine .inl ⟨jj.2 hx, ?_⟩
                rw [List.append_nil] at erest
                subst erest
                cases cell with
                | false =>
                  cases ee
                  have ex : Ex Bc (upd Bc D0 (.lst acc)) := Ex.new hBc
                  have rr : Rel W (upd Bc D0 (.lst acc)) μc S' Hc := by
                    refine ⟨fun a x ha => ?_, rc.len, rc.nd, fun j a cc g1 g2 => ?_, rc.tb, nt_upd rc.nt (fun _ e => by cases e)⟩
                    · by_cases qa : a = D0
                      · subst qa; rw [upd_same] at ha; cases ha; exact hDc
                      · rw [upd_ne qa] at ha; exact rc.sub a x ha
                    · obtain ⟨b1, b2⟩ := rc.cell j a cc g1 g2
                      have ne : a ≠ D0 := fun qa => hmc (qa ▸ List.mem_of_getElem? g1)
                      exact ⟨by rw [upd_ne ne]; exact b1, b2.mono ex (Pre.refl _)⟩
                  refine q _ _ _ _ (s1.trans ⟨sc.pre, sc.grow.trans ex, fun a x ha => ?_, sc.frame, sc.keep⟩) rr (.lst upd_same (DenL.mono ex (Pre.refl _) _ _ dc))
                  by_cases qa : a = D0
                  · subst qa; exact .inr (fresh_of hD)
                  · rw [upd_ne qa] at ha; exact sc.new a x ha
                | true =>
                  cases ee
                  obtain ⟨ν, eν, hν⟩ := sc.pre
                  have hp : Pre μc (μc ++ [D0]) := ⟨[D0], rfl⟩
                  have hix : (μc ++ [D0])[S5.length]? = some D0 := by rw [← rc.len]; simp
                  have rr : Rel W Bc (μc ++ [D0]) (S5 ++ [.lst accD]) Hc := by
                    refine ⟨rc.sub, by simp [rc.len], ?_, fun j a cc g1 g2 => ?_, rc.tb, rc.nt⟩
                    · rw [List.nodup_append]
                      exact ⟨rc.nd, by simp, fun a ha b hb => by simp at hb; subst hb; exact fun e => hmc (e ▸ ha)⟩
                    · by_cases hj : j < μc.length
                      · rw [List.getElem?_append_left hj] at g1
                        rw [List.getElem?_append_left (by rw [← rc.len]; exact hj)] at g2
                        obtain ⟨b1, b2⟩ := rc.cell j a cc g1 g2
                        exact ⟨b1, b2.mono (Ex.refl _) hp⟩
                      · have ej : j = μc.length := by
                          have := (List.getElem?_eq_some_iff.mp g1).1
                          simp at this; omega
                        subst ej
                        rw [List.getElem?_append_right (Nat.le_refl _)] at g1
                        rw [rc.len, List.getElem?_append_right (Nat.le_refl _)] at g2
                        simp at g1 g2
                        subst g1 g2
                        exact ⟨hBc, acc, hDc, DenL.mono (Ex.refl _) hp _ _ dc⟩
                  refine q _ _ _ _ (s1.trans ⟨⟨ν ++ [D0], by rw [eν, List.append_assoc], fun a ha => ?_⟩, sc.grow, sc.new, sc.frame, sc.keep⟩) rr (.obj hix)
                  rcases List.mem_append.mp ha with ha | ha
                  · exact hν a ha
                  · simp at ha; subst ha; exact fresh_of hD
              · -- a turn
                rename_i x hx
                have go := jj.1 x hx
                refine .inr ⟨go.1, fun Hn => ∃ m', m' < m + 1 ∧ ∃ Bc μc Sc acc accD rest, Rel W Bc μc Sc Hn ∧ Step B1 μ1 H1 Bc μc Hn ∧ Bc D0 = none ∧ D0 ∉ μc ∧ Hn D0 = some (.lst acc) ∧ DenL W Bc μc accD acc ∧ accD ++ rest = ys ∧ lcG (lcStp T tg cd e (wipeD env vs)) s m' (i + 1) Sc = some (rest, S5), fun Hn hn => hn, ?_⟩
                intro v Hy hy
                obtain ⟨By, sy, ry, dy⟩ := go.2 v Hy hy
                have keepD : ∀ {Bz : Hp} {μz : List Addr} {Hz : Hp}, Step Bc μc Hc Bz μz Hz → Bz D0 = none ∧ D0 ∉ μz ∧ Hz D0 = some (.lst acc) := fun {Bz μz Hz} sz => by
                  refine ⟨?_, ?_, sz.frame _ _ hDc hmc (fun _ e => by cases e)⟩
                  · cases qq : Bz D0 with
                    | none => rfl
                    | some w =>
                      rcases sz.new _ _ qq with h | h
                      · rw [hBc] at h; cases h
                      · exact (h.no (fun _ e => by cases e) hDc).elim
                  · obtain ⟨ν, eν, hν⟩ := sz.pre
                    rw [eν]
                    intro hm
                    rcases List.mem_append.mp hm with h | h
                    · exact hmc h
                    · exact (hν _ h).no (fun _ e => by cases e) hDc
                split at eg
                · -- kept
                  rename_i y S4 estp
                  split at eg
                  · rename_i rest' S6 eg2
                    have e6 : y :: rest' = rest ∧ S6 = S5 := by cases eg; exact ⟨rfl, rfl⟩
                    obtain ⟨e6, e7⟩ := e6
                    subst e6 e7
                    unfold lcStp at estp
                    split at estp
                    · rename_i env2 eset
                      have eoy := ((eo.step s1).mono sc.grow sc.p).step sy
                      refine ⟨By, μc, Sc, wipeD env vs, x, env2, ry, eoy.wipe vs, dy, eset, fun σ2 eo2 off2 => ⟨wipe_off off2 hsl, ?_⟩⟩
                      split at estp
                      · rename_i S3 ec
                        refine ⟨env2, Sc, By, μc, true, S3, ry, eo2, ec, fun B3 μ3 H3 s3 r3 => ?_⟩
                        refine iteT ?_
                        split at estp
                        · rename_i y' S4' ev
                          cases estp
                          refine ⟨env2, S3, B3, μ3, y, S4, r3, eo2.step s3, ev, fun B4 μ4 H4 w s4 r4 d4 => ?_⟩
                          have st := (sy.trans s3).trans s4
                          obtain ⟨k1, k2, k3⟩ := keepD st
                          have dl : accD.length < 100000 := by
                            have : accD.length + (1 + rest'.length) = ys.length := by rw [← erest]; simp; omega
                            have hz := of_decide_eq_true hz
                            omega
                          refine ⟨acc, k3, by rw [← dc.length]; exact Nat.lt_of_lt_of_le dl (by decide), ?_⟩
                          exact ⟨m, Nat.lt_succ_self _, B4, μ4, S4, acc ++ [w], accD ++ [y], rest', r4.aside k1 k2 (fun x e => by rw [k3] at e; cases e; trivial), (sc.trans st).aside hD, k1, k2, upd_same, (DenL.mono st.grow st.p _ _ dc).append (.cons d4 .nil), by simpa using erest, eg2⟩
                        · cases estp
                      · cases estp
                      · cases estp
                    · cases estp
                  · cases eg
                · -- left out
                  rename_i S4 estp
                  unfold lcStp at estp
                  split at estp
                  · rename_i env2 eset
                    have eoy := ((eo.step s1).mono sc.grow sc.p).step sy
                    refine ⟨By, μc, Sc, wipeD env vs, x, env2, ry, eoy.wipe vs, dy, eset, fun σ2 eo2 off2 => ⟨wipe_off off2 hsl, ?_⟩⟩
                    split at estp
                    · split at estp <;> cases estp
                    · rename_i S3 ec
                      cases estp
                      refine ⟨env2, Sc, By, μc, false, S4, ry, eo2, ec, fun B3 μ3 H3 s3 r3 => ?_⟩
                      refine iteF ?_
                      have st := sy.trans s3
                      obtain ⟨k1, k2, k3⟩ := keepD st
                      exact ⟨m, Nat.lt_succ_self _, B3, μ3, S4, acc, accD, rest, r3, sc.trans st, k1, k2, k3, DenL.mono st.grow st.p _ _ dc, erest, eg⟩
                    · cases estp
                  · cases estp
                · cases eg
            · cases eg
        · cases ee
      · cases ee
    · cases ee
  · cases ee
/-- the block's names -/
def blkCn (c : Cn) (scope : Scope) : Cn := { c with sc := relS scope c.sc, blk := some scope, lam := false }
theorem blk_ok {scope : Scope} {s : Shared} {H : Hp} {C : Addr} {cl : List (Str × Addr)} {fp : List Addr} (ok : CxOk c W T mnm k X) : CxOk (blkCn c scope) W T mnm k (X.blk s H scope (compEnvC scope cl C X.env) fp) := by
  refine ⟨ok.hN, ?_, fun x h => ?_, ok.nd, ok.calm, ok.room, ok.hK, rfl, fun x g h => ?_, ⟨ok.kk.inj, ok.kk.nmf, ok.kk.cls, ok.kk.fld, ok.kk.mth, ok.kk.ins, ok.kk.kit, ok.kk.kit2⟩, fun h => by cases h⟩
  · show relS scope X.env.scope = relS scope c.sc
    rw [ok.hs]
  · exact h
  · have := ok.gl x g h
    cases g <;> exact this
theorem snd_lc {elt tg iter : Expr} {ifs : List Expr} {scope : Scope} {own : List (Str × Nat)} {pos : Pos} {itg : Tg} {kd : Nat} {it : List IE} {cd : Option IE} {ie : IE} {cell : Bool} (hb : blkC c.N c.sc scope own = true) (hsl : (slots itg).all (fun j => (own.map (·.2)).contains j) = true)
    (hi : SndI c W T mnm k tg iter kd it) (hg : SndG (blkCn c scope) W T mnm k tg itg) (hc : SndC (blkCn c scope) W T mnm k ifs cd) (he : SndE (blkCn c scope) W T mnm k elt ie) :
    SndE c W T mnm k (.ListComp elt [⟨tg, iter, ifs, 0⟩] scope pos) (.lc cell (own.map (·.2)) itg kd it cd ie) := by
  refine snd_of (fun X ok => PE.imp (pe_lc ok.calm (by rw [ok.hN]; exact ok.nd) (hi.1 X ok) (blkOk_by (by rw [ok.hN, ok.hs]; exact hb)) (fun s H C cl fp => hg.1 _ (blk_ok ok)) (fun s H C cl fp => hc _ (blk_ok ok)) (fun s H C cl fp => (he _ (blk_ok ok)).1) (fold_of hi.2)) fun σ H Q q => run_lc ?_ q) fun _ _ => rfl
  intro j hj
  have := List.all_eq_true.mp hsl j hj
  simpa using this
end LN

set_option Elab.async false
set_option linter.all false
set_option maxRecDepth 100000
set_option maxHeartbeats 1000000
namespace LN
open PySem L2
variable {W : WP} {B B' : Hp} {μ μ' : List Addr} {S S' : Store} {H H' : Hp} {c : Cn} {T : Tab} {mnm : Nat → Str} {k : Nat} {X : Cx}

/-! ### what is asked of a statement -/
def Fin1 (W : WP) (D : Ends) (B : Hp) (μ : List Addr) (H : Hp) : O → Prop
  | .nx env S => Rel W B μ S H → ∀ σ, EnvOk W B μ env σ → D.nx σ H
  | .rt d S => Rel W B μ S H → ∀ v, Den W B μ d v → D.rt v H
  | .br env S => Rel W B μ S H → ∀ σ, EnvOk W B μ env σ → D.bk σ H
  | .ct env S => Rel W B μ S H → ∀ σ, EnvOk W B μ env σ → D.ct σ H
def Fin (W : WP) (D : Ends) (B : Hp) (μ : List Addr) (H : Hp) (o : O) : Prop := ∀ B' μ' H', Step B μ H B' μ' H' → Fin1 W D B' μ' H' o
theorem Fin.step {D : Ends} {o : O} (h : Fin W D B μ H o) (s : Step B μ H B' μ' H') : Fin W D B' μ' H' o := fun _ _ _ t => h _ _ _ (s.trans t)
def tS (W : WP) (ev : DEnv → Store → Option O) : TS := fun D σ H => ∃ env S B μ o, Rel W B μ S H ∧ EnvOk W B μ env σ ∧ ev env S = some o ∧ Fin W D B μ H o
def SndS (c : Cn) (W : WP) (T : Tab) (mnm : Nat → Str) (k : Nat) (st : Stmt) (is : IS) : Prop := ∀ X, CxOk c W T mnm k X → PS X st (tS W (ex T is))
def SndSs (c : Cn) (W : WP) (T : Tab) (mnm : Nat → Str) (k : Nat) (st : List Stmt) (is : List IS) : Prop := ∀ X, CxOk c W T mnm k X → PSs X st (tS W (exL T is))
theorem PS.imp {X : Cx} {st : Stmt} {t t' : TS} (h : PS X st t) (kk : ∀ D σ H, t' D σ H → t D σ H) : PS X st t' := ⟨fun pins s σ H D I q => h.run pins s σ H D I (kk _ _ _ q)⟩
theorem PSs.imp {X : Cx} {st : List Stmt} {t t' : TS} (h : PSs X st t) (kk : ∀ D σ H, t' D σ H → t D σ H) : PSs X st t' := ⟨fun pins s σ H D I q => h.run pins s σ H D I (kk _ _ _ q)⟩

theorem sndSs_nil : SndSs c W T mnm k [] [] := fun X ok => PSs.imp pss_nil (by
  rintro D σ H ⟨env, S, B, μ, o, r, eo, e, q⟩
  simp only [exL] at e
  cases e
  exact q _ _ _ (Step.refl ..) r σ eo)
theorem sndSs_cons {st : Stmt} {sts : List Stmt} {is : IS} {iss : List IS} (h : SndS c W T mnm k st is) (hs : SndSs c W T mnm k sts iss) : SndSs c W T mnm k (st :: sts) (is :: iss) := fun X ok => PSs.imp (pss_cons (h X ok) (hs X ok)) (by
  rintro D σ H ⟨env, S, B, μ, o, r, eo, e, q⟩
  simp only [exL] at e
  split at e
  · rename_i env1 S1 e1
    exact ⟨env, S, B, μ, _, r, eo, e1, fun B1 μ1 H1 s1 r1 σ1 eo1 => ⟨env1, S1, B1, μ1, o, r1, eo1, e, q.step s1⟩⟩
  · rename_i e1; cases e
    exact ⟨env, S, B, μ, _, r, eo, e1, q⟩
  · rename_i e1; cases e
    exact ⟨env, S, B, μ, _, r, eo, e1, q⟩
  · rename_i e1; cases e
    exact ⟨env, S, B, μ, _, r, eo, e1, q⟩
  · cases e)
theorem snd_pass {pos : Pos} : SndS c W T mnm k (.Pass pos) .pass := fun X ok => PS.imp ps_pass (by
  rintro D σ H ⟨env, S, B, μ, o, r, eo, e, q⟩
  simp only [ex] at e
  cases e
  exact q _ _ _ (Step.refl ..) r σ eo)
theorem snd_doc {x : Str} {j : Nat} {pos pos' : Pos} : SndS c W T mnm k (.Expr (.Constant (.str x) j pos) pos') .pass := fun X ok => PS.imp ps_doc (by
  rintro D σ H ⟨env, S, B, μ, o, r, eo, e, q⟩
  simp only [ex] at e
  cases e
  exact q _ _ _ (Step.refl ..) r σ eo)
theorem snd_brk {pos : Pos} : SndS c W T mnm k (.Break pos) .brk := fun X ok => PS.imp ps_break (by
  rintro D σ H ⟨env, S, B, μ, o, r, eo, e, q⟩
  simp only [ex] at e
  cases e
  exact q _ _ _ (Step.refl ..) r σ eo)
theorem snd_cnt {pos : Pos} : SndS c W T mnm k (.Continue pos) .cnt := fun X ok => PS.imp ps_continue (by
  rintro D σ H ⟨env, S, B, μ, o, r, eo, e, q⟩
  simp only [ex] at e
  cases e
  exact q _ _ _ (Step.refl ..) r σ eo)
theorem snd_nev {st : Stmt} : SndS c W T mnm k st .nev := fun X ok => PS.imp ps_never (by
  rintro D σ H ⟨env, S, B, μ, o, r, eo, e, q⟩
  simp only [ex] at e
  cases e)
theorem snd_ret {e : Expr} {ie : IE} {pos : Pos} (he : SndE c W T mnm k e ie) : SndS c W T mnm k (.Return (some e) pos) (.ret ie) := fun X ok => PS.imp (ps_ret (he X ok).1) (by
  rintro D σ H ⟨env, S, B, μ, o, r, eo, e, q⟩
  simp only [ex] at e
  split at e
  · rename_i d S1 e1
    cases e
    exact ⟨env, S, B, μ, d, S1, r, eo, e1, fun B' μ' H' v s1 r1 d1 => q _ _ _ s1 r1 v d1⟩
  · cases e)
theorem snd_retN {pos : Pos} : SndS c W T mnm k (.Return none pos) (.ret (.con .non)) := fun X ok => PS.imp ps_retN (by
  rintro D σ H ⟨env, S, B, μ, o, r, eo, e, q⟩
  simp only [ex, evE] at e
  cases e
  exact q _ _ _ (Step.refl ..) r _ .non)
theorem snd_if {t : Expr} {a b : List Stmt} {it : IE} {ia ib : List IS} {pos : Pos} (ht : SndE c W T mnm k t it) (ha : SndSs c W T mnm k a ia) (hb : SndSs c W T mnm k b ib) : SndS c W T mnm k (.If t a b pos) (.ite it ia ib) := fun X ok => PS.imp (ps_if (ht X ok).2 (ha X ok) (hb X ok)) (by
  rintro D σ H ⟨env, S, B, μ, o, r, eo, e, q⟩
  simp only [ex] at e
  split at e
  · rename_i S1 e1
    exact ⟨env, S, B, μ, true, S1, r, eo, e1, fun B1 μ1 H1 s1 r1 => iteT ⟨env, S1, B1, μ1, o, r1, eo.step s1, e, q.step s1⟩⟩
  · rename_i S1 e1
    exact ⟨env, S, B, μ, false, S1, r, eo, e1, fun B1 μ1 H1 s1 r1 => iteF ⟨env, S1, B1, μ1, o, r1, eo.step s1, e, q.step s1⟩⟩
  · cases e)
def notComp : Expr → Bool
  | .ListComp _ _ _ _ => false
  | .SetComp _ _ _ _ => false
  | .DictComp _ _ _ _ _ => false
  | _ => true
theorem sw_off {e : Expr} {tg : Option Expr} {l : Nat} {env : Env} (h : notComp e = true) : swapsWith e tg l env = pure false := by
  cases e <;> first | rfl | cases h
theorem sw_offA {e o : Expr} {f : Str} {p : Pos} {l : Nat} {env : Env} : swapsWith e (some (.Attribute o f p)) l env = pure false := by
  cases e <;> rfl
theorem sw_offI {e o i : Expr} {p : Pos} {l : Nat} {env : Env} : swapsWith e (some (.Subscript o i p)) l env = pure false := by
  cases e <;> rfl
/-- nothing is swapped here -/
def swOffB (c : Cn) (t e : Expr) : Bool := notComp e || (match t with
  | .Name x _ => !(match c.sc.names.lookup x with | some .local => true | _ => false)
  | .Tuple _ _ _ => true
  | _ => false)
theorem sw_offB {t e : Expr} {l : Nat} (ok : CxOk c W T mnm k X) (h : swOffB c t e = true) : swapsWith e (some t) l X.env = pure false := by
  unfold swOffB at h
  rw [Bool.or_eq_true] at h
  rcases h with h | h
  · exact sw_off h
  · split at h
    · rename_i x p
      have hx : (X.env.kindOf x == some .local) = false := by
        show (X.env.scope.names.lookup x == some .local) = false
        rw [ok.hs]
        revert h
        cases c.sc.names.lookup x with
        | none => intro _; rfl
        | some kd => cases kd <;> first | (intro h; cases h; done) | (intro _; rfl)
      unfold swapsWith
      cases e <;> first | rfl | (simp only [hx]; simp)
    · cases e <;> rfl
    · cases h
theorem snd_drop {e : Expr} {ie : IE} {pos : Pos} (hn : notComp e = true) (he : SndE c W T mnm k e ie) : SndS c W T mnm k (.Expr e pos) (.drop ie) := fun X ok => PS.imp (ps_expr (he X ok).1 (sw_off hn)) (by
  rintro D σ H ⟨env, S, B, μ, o, r, eo, e, q⟩
  simp only [ex] at e
  split at e
  · rename_i d S1 e1
    cases e
    exact ⟨env, S, B, μ, d, S1, r, eo, e1, fun B' μ' H' v s1 r1 d1 => q _ _ _ s1 r1 σ (eo.step s1)⟩
  · cases e)

/-! ### assignments -/
def notTup : Expr → Bool
  | .Tuple _ _ _ => false
  | .List _ _ => false
  | _ => true
theorem run_asg {tg : Tg} {ie : IE} {D : Ends} {σ : L2.St} {H : Hp} (h : tS W (ex T (.asg tg ie)) D σ H) : tAsg (tE W (evE T ie)) (tG W tg) D σ H := by
  obtain ⟨env, S, B, μ, o, r, eo, e, q⟩ := h
  simp only [ex] at e
  split at e
  · rename_i d S1 e1
    split at e
    · rename_i env1 e2
      cases e
      exact ⟨env, S, B, μ, d, S1, r, eo, e1, fun B' μ' H' v s1 r1 d1 => ⟨B', μ', S1, env, d, env1, r1, eo.step s1, d1, e2, fun σ' eo' _ => q _ _ _ s1 r1 σ' eo'⟩⟩
    · cases e
  · cases e
theorem one_star {t : Expr} {env : Env} (h : nstar t = true) : (assignEach [t] env).map (·.2) = [assign t env] := by
  cases t <;> first | rfl | cases h
theorem snd_asg {t e : Expr} {tg : Tg} {ie : IE} {pos : Pos} (hn : swOffB c t e = true) (h2 : (notTup t || notTup e) = true) (ht : SndG c W T mnm k t tg) (he : SndE c W T mnm k e ie) : SndS c W T mnm k (.Assign [t] e pos) (.asg tg ie) := fun X ok =>
  PS.imp (ps_asg (he X ok).1 (ht.1 X ok) (sw_offB ok hn) (by
    cases t <;> first | rfl | (cases e <;> first | rfl | cases h2)) (one_star ht.2)) fun D σ H h => run_asg h
/-- a name that takes a comprehension on its line -/
def swC (c : Cn) (x : Str) (own : Scope) (py pos : Pos) : Bool := (match c.sc.kind with | .function => true | _ => false) && (match c.sc.names.lookup x with | some .local => true | _ => false) && (py.line == pos.line) && !(own.names.any fun (n, k) => n == x && (k == .local || k == .cell))
theorem snd_asgLc {x : Str} {i : Nat} {py : Pos} {elt tg iter : Expr} {ifs : List Expr} {scope : Scope} {own : List (Str × Nat)} {pos spos : Pos} {itg : Tg} {kd : Nat} {it : List IE} {cd : Option IE} {ie : IE} {cell : Bool} (hi : c.N[i]? = some x) (hsw : swC c x scope py pos = true)
    (hb : blkC c.N c.sc scope own = true) (hsl : (slots itg).all (fun j => (own.map (·.2)).contains j) = true)
    (hit : SndI c W T mnm k tg iter kd it) (hg : SndG (blkCn c scope) W T mnm k tg itg) (hc : SndC (blkCn c scope) W T mnm k ifs cd) (he : SndE (blkCn c scope) W T mnm k elt ie) :
    SndS c W T mnm k (.Assign [.Name x py] (.ListComp elt [⟨tg, iter, ifs, 0⟩] scope pos) spos) (.asg (.nm i) (.lc cell (own.map (·.2)) itg kd it cd ie)) := fun X ok => by
  unfold swC at hsw
  rw [Bool.and_eq_true, Bool.and_eq_true, Bool.and_eq_true] at hsw
  obtain ⟨⟨⟨h1, h2⟩, h3⟩, h4⟩ := hsw
  have hk : X.env.scope.kind = .function := by
    rw [ok.hs]; revert h1; split <;> intro h1
    · assumption
    · cases h1
  have hl : X.env.scope.names.lookup x = some .local := by
    rw [ok.hs]; revert h2; split <;> intro h2
    · assumption
    · cases h2
  refine PS.imp (ps_setLc ok.calm (by rw [ok.hN]; exact ok.nd) (by rw [ok.hN]; exact hi) hl (sw_true hk hl h3 (by simpa using h4)) (hit.1 X ok) (blkOk_by (by rw [ok.hN, ok.hs]; exact hb)) (fun s H C cl fp => hg.1 _ (blk_ok ok)) (fun s H C cl fp => hc _ (blk_ok ok)) (fun s H C cl fp => (he _ (blk_ok ok)).1) (fold_of hit.2)) ?_
  intro D σ H h
  have g := run_asg h
  refine run_lc (cell := cell) ?_ ?_
  · intro j hj
    have := List.all_eq_true.mp hsl j hj
    simpa using this
  · obtain ⟨env, S, B, μ, d, S', r, eo, ee, q⟩ := g
    refine ⟨env, S, B, μ, d, S', r, eo, ee, fun B' μ' H' v s1 r1 d1 => ?_⟩
    obtain ⟨B2, μ2, S2, env2, d2, env', r2, eo2, hd2, es, q2⟩ := q B' μ' H' v s1 r1 d1
    simp only [setT] at es
    cases es
    exact q2 _ (eo2.set hd2) ⟨by simp, fun j hj => by rw [List.getElem?_set_ne]; simp [slots] at hj; exact Ne.symm hj⟩
/-- a, b = x, y -/
def isLoc (c : Cn) (x : Str) : Bool := match c.sc.names.lookup x with | some .local => true | _ => false
theorem loc_lk {x : Str} (h : isLoc c x = true) : c.sc.names.lookup x = some .local := by
  unfold isLoc at h
  split at h
  · assumption
  · cases h
def fnK (c : Cn) : Bool := match c.sc.kind with | .function => true | _ => false
theorem fn_kind (h : fnK c = true) : c.sc.kind = .function := by
  unfold fnK at h
  split at h
  · assumption
  · cases h
def notStar : Expr → Bool
  | .Starred _ _ => false
  | _ => true
theorem any_star : ∀ {es : List Expr}, es.all nstar = true → (es.any fun | .Starred .. => true | _ => false) = false
  | [], _ => rfl
  | e :: es, h => by
    rw [List.all_cons, Bool.and_eq_true] at h
    rw [List.any_cons, any_star h.2]
    cases e <;> first | rfl | cases h.1
theorem swap2 {x y : Str} {px py pt : Pos} {kt k2 : Nat} {pt2 : Pos} {a b : Expr} (ok : CxOk c W T mnm k X) (hf : fnK c = true) (hx : isLoc c x = true) (hy : isLoc c y = true) (hne : (x == y) = false) (hl : (py.line == px.line) = true) (hs : [a, b].all nstar = true)
    (h8 : [a, b].all (foldedForSure 8) = false) (h9 : [a, b].all (constantsAlone 8) = false) : swappedStores [.Tuple [.Name x px, .Name y py] kt pt] (.Tuple [a, b] k2 pt2) X.env = pure (some [x, y]) := by
  have hb : X.env.blockKind = .function := by unfold Env.blockKind; rw [ok.hs, fn_kind hf]; rfl
  have kx : X.env.kindOf x = some .local := by show X.env.scope.names.lookup x = _; rw [ok.hs]; exact loc_lk hx
  have ky : X.env.kindOf y = some .local := by show X.env.scope.names.lookup y = _; rw [ok.hs]; exact loc_lk hy
  have e1 : (py.line == px.line) = true := hl
  have hst := any_star hs
  have dd : ([x, y] : List Str).eraseDups.length = 2 := by
    have : ([x, y] : List Str).eraseDups = [x, y] := by
      rw [List.eraseDups_cons]
      have : ([y] : List Str).filter (fun b => !b == x) = [y] := by
        have : (y == x) = false := by
          cases q : (y == x) with
          | false => rfl
          | true => rw [beq_iff_eq] at q; subst q; simp at hne
        simp [List.filter, this]
      rw [this]
      rfl
    rw [this]; rfl
  unfold swappedStores
  simp only [hb, kx, ky, e1, List.length_cons, List.length_nil, List.head?_cons, Option.map_some, Option.getD_some, Expr.pos, List.filterMap_cons, List.filterMap_nil, hst, h8, h9]
  simp [dd]
  intro h
  rw [List.all_cons, List.all_cons, Bool.and_eq_true, Bool.and_eq_true] at hs
  rcases h with h | h
  · cases a <;> first | (cases h; done) | (cases hs.1)
  · cases b <;> first | (cases h; done) | (cases hs.2.1)
theorem snd_par2 {x y : Str} {i j : Nat} {px py pt : Pos} {kt k2 : Nat} {pt2 pos : Pos} {a b : Expr} {ies : List IE} (hf : fnK c = true) (hi : c.N[i]? = some x) (hj : c.N[j]? = some y) (hij : i ≠ j) (hx : isLoc c x = true) (hy : isLoc c y = true) (hne : (x == y) = false) (hl : (py.line == px.line) = true)
    (h8 : [a, b].all (foldedForSure 8) = false) (h9 : [a, b].all (constantsAlone 8) = false) (hs : SndL c W T mnm k [a, b] ies) :
    SndS c W T mnm k (.Assign [.Tuple [.Name x px, .Name y py] kt pt] (.Tuple [a, b] k2 pt2) pos) (.par [i, j] ies) := fun X ok =>
  PS.imp (ps_par ok.calm (by rw [ok.hN]; exact ok.nd) (by rw [ok.hN]; exact hi) (by rw [ok.hN]; exact hj) hij (by rw [ok.hs]; exact loc_lk hx) (by rw [ok.hs]; exact loc_lk hy) (hs.1 X ok) (swap2 ok hf hx hy hne hl hs.2 h8 h9)) (by
  rintro D σ H ⟨env, S, B, μ, o, r, eo, e, q⟩
  simp only [ex] at e
  split at e
  · rename_i ds S1 e1
    split at e
    · rename_i env1 e2
      cases e
      refine ⟨env, S, B, μ, ds, S1, r, eo, e1, fun B' μ' H' vs s1 r1 dl => ?_⟩
      cases ds with
      | nil => simp [setP] at e2
      | cons d1 ds => cases ds with
        | nil => simp [setP] at e2
        | cons d2 ds => cases ds with
          | cons _ _ => simp [setP] at e2
          | nil =>
            simp only [setP] at e2
            cases e2
            cases dl with | cons h1 dl => cases dl with | cons h2 dl => cases dl with | nil =>
              exact ⟨_, _, rfl, q _ _ _ s1 r1 _ (((eo.step s1).set h1).set h2)⟩
    · cases e
  · cases e)
theorem eraseDups3 {x y z : Str} (h1 : (x == y) = false) (h2 : (x == z) = false) (h3 : (y == z) = false) : ([x, y, z] : List Str).eraseDups.length = 3 := by
  have sy : ∀ {a b : Str}, (a == b) = false → (b == a) = false := fun {a b} h => by
    cases q : (b == a) with
    | false => rfl
    | true => rw [beq_iff_eq] at q; subst q; simp at h
  rw [List.eraseDups_cons]
  have e1 : ([y, z] : List Str).filter (fun b => !b == x) = [y, z] := by simp [List.filter, sy h1, sy h2]
  rw [e1, List.eraseDups_cons]
  have e2 : ([z] : List Str).filter (fun b => !b == y) = [z] := by simp [List.filter, sy h3]
  rw [e2]
  rfl
theorem swap3 {x y z : Str} {px py pz pt : Pos} {kt k2 : Nat} {pt2 : Pos} {a b d : Expr} (ok : CxOk c W T mnm k X) (hf : fnK c = true) (hx : isLoc c x = true) (hy : isLoc c y = true) (hz : isLoc c z = true) (h1 : (x == y) = false) (h2 : (x == z) = false) (h3 : (y == z) = false) (hl : (py.line == px.line) = true) (hl2 : (pz.line == px.line) = true) (hs : [a, b, d].all nstar = true)
    (h8 : [a, b, d].all (foldedForSure 8) = false) (h9 : [a, b, d].all (constantsAlone 8) = false) : swappedStores [.Tuple [.Name x px, .Name y py, .Name z pz] kt pt] (.Tuple [a, b, d] k2 pt2) X.env = pure (some [x, y, z]) := by
  have hb : X.env.blockKind = .function := by unfold Env.blockKind; rw [ok.hs, fn_kind hf]; rfl
  have kx : X.env.kindOf x = some .local := by show X.env.scope.names.lookup x = _; rw [ok.hs]; exact loc_lk hx
  have ky : X.env.kindOf y = some .local := by show X.env.scope.names.lookup y = _; rw [ok.hs]; exact loc_lk hy
  have kz : X.env.kindOf z = some .local := by show X.env.scope.names.lookup z = _; rw [ok.hs]; exact loc_lk hz
  have dd := eraseDups3 h1 h2 h3
  have hst := any_star hs
  unfold swappedStores
  simp only [hb, kx, ky, kz, hl, hl2, List.length_cons, List.length_nil, List.head?_cons, Option.map_some, Option.getD_some, Expr.pos, List.filterMap_cons, List.filterMap_nil, hst, h8, h9]
  simp [dd]
  intro h
  rw [List.all_cons, List.all_cons, List.all_cons, Bool.and_eq_true, Bool.and_eq_true, Bool.and_eq_true] at hs
  rcases h with h | h | h
  · cases a <;> first | (cases h; done) | (cases hs.1)
  · cases b <;> first | (cases h; done) | (cases hs.2.1)
  · cases d <;> first | (cases h; done) | (cases hs.2.2.1)
theorem snd_par3 {x y z : Str} {i j l : Nat} {px py pz pt : Pos} {kt k2 : Nat} {pt2 pos : Pos} {a b d : Expr} {ies : List IE} (hf : fnK c = true) (hi : c.N[i]? = some x) (hj : c.N[j]? = some y) (hk : c.N[l]? = some z) (hij : i ≠ j) (hil : i ≠ l) (hjl : j ≠ l) (hx : isLoc c x = true) (hy : isLoc c y = true) (hz : isLoc c z = true)
    (h1 : (x == y) = false) (h2 : (x == z) = false) (h3 : (y == z) = false) (hl : (py.line == px.line) = true) (hl2 : (pz.line == px.line) = true)
    (h8 : [a, b, d].all (foldedForSure 8) = false) (h9 : [a, b, d].all (constantsAlone 8) = false) (hs : SndL c W T mnm k [a, b, d] ies) :
    SndS c W T mnm k (.Assign [.Tuple [.Name x px, .Name y py, .Name z pz] kt pt] (.Tuple [a, b, d] k2 pt2) pos) (.par [i, j, l] ies) := fun X ok =>
  PS.imp (ps_par3 ok.calm (by rw [ok.hN]; exact ok.nd) (by rw [ok.hN]; exact hi) (by rw [ok.hN]; exact hj) (by rw [ok.hN]; exact hk) hij hil hjl (by rw [ok.hs]; exact loc_lk hx) (by rw [ok.hs]; exact loc_lk hy) (by rw [ok.hs]; exact loc_lk hz) (hs.1 X ok) (swap3 ok hf hx hy hz h1 h2 h3 hl hl2 hs.2 h8 h9)) (by
  rintro D σ H ⟨env, S, B, μ, o, r, eo, e, q⟩
  simp only [ex] at e
  split at e
  · rename_i ds S1 e1
    split at e
    · rename_i env1 e2
      cases e
      refine ⟨env, S, B, μ, ds, S1, r, eo, e1, fun B' μ' H' vs s1 r1 dl => ?_⟩
      cases ds with
      | nil => simp [setP] at e2
      | cons d1 ds => cases ds with
        | nil => simp [setP] at e2
        | cons d2 ds => cases ds with
          | nil => simp [setP] at e2
          | cons d3 ds => cases ds with
            | cons _ _ => simp [setP] at e2
            | nil =>
              simp only [setP] at e2
              cases e2
              cases dl with | cons h1 dl => cases dl with | cons h2 dl => cases dl with | cons h3 dl => cases dl with | nil =>
                exact ⟨_, _, _, rfl, q _ _ _ s1 r1 _ ((((eo.step s1).set h1).set h2).set h3)⟩
    · cases e
  · cases e)

/-! ### stores into objects -/
theorem putF_ok (hinj : ∀ f g, W.fnm f = W.fnm g → f = g) {y : D} {v : V} (hy : Den W B μ y v) : ∀ {ks : List Nat} {xs : List D} {vs : List V} (f : Nat), ks.length = xs.length → DenL W B μ xs vs →
    ∃ vs', putF (W.fnm f) v ((ks.map W.fnm).zip vs) = ((setFL ks xs f y).1.map W.fnm).zip vs' ∧ DenL W B μ (setFL ks xs f y).2 vs' ∧ (setFL ks xs f y).1.length = (setFL ks xs f y).2.length
  | [], [], _, f, _, h => by cases h; exact ⟨[v], rfl, .cons hy .nil, rfl⟩
  | [], _ :: _, _, _, h, _ => by simp at h
  | _ :: _, [], _, _, h, _ => by simp at h
  | g :: ks, x :: xs, _, f, hl, h => by
    cases h with | @cons _ w _ ws h1 h2 =>
      simp only [setFL, List.map_cons, List.zip_cons_cons, putF]
      by_cases e : g = f
      · subst e
        rw [if_pos rfl, if_pos rfl]
        exact ⟨v :: ws, rfl, .cons hy h2, by simpa using hl⟩
      · rw [if_neg e, if_neg (fun z => e (hinj _ _ z))]
        obtain ⟨vs', e1, e2, e3⟩ := putF_ok hinj hy f (by simpa using hl) h2
        exact ⟨w :: vs', by simp [e1], .cons h1 e2, by simp [e3]⟩
theorem snd_setF {o e : Expr} {io ie : IE} {f : Nat} {attr : Str} {p1 pos : Pos} (hf : W.fnm f = attr) (ho : SndE c W T mnm k o io) (he : SndE c W T mnm k e ie) : SndS c W T mnm k (.Assign [.Attribute o attr p1] e pos) (.setF io f ie) := fun X ok =>
  PS.imp (ps_fld (ho X ok).1 (he X ok).1 sw_offA) (by
  rintro D σ H ⟨env, S, B, μ, ot, r, eo, e, q⟩
  simp only [ex] at e
  split at e
  · rename_i y S1 e1
    split at e
    · rename_i d S2 e2
      split at e
      · rename_i S3 e3
        cases e
        refine ⟨env, S, B, μ, y, S1, r, eo, e1, fun B1 μ1 H1 w s1 r1 d1 => ?_⟩
        refine ⟨env, S1, B1, μ1, d, S2, r1, eo.step s1, e2, fun B2 μ2 H2 x s2 r2 d2 => ?_⟩
        unfold setFld at e3
        split at e3
        · rename_i j
          split at e3
          · rename_i cc ks xs hS
            split at e3
            · rename_i hc
              cases e3
              rw [Bool.and_eq_true, Bool.and_eq_true] at hc
              obtain ⟨a, rfl, hm, dx, vs, h1, h2, h3⟩ := r2.get d2 hS
              have d1' := Den.mono s2.grow s2.p _ _ d1
              obtain ⟨vs', g1, g2, g3⟩ := putF_ok ok.kk.inj d1' f h2 h3
              have hlen : ((ks.map W.fnm).zip vs).length < 1000 := by
                rw [List.length_zip, List.length_map]
                have := of_decide_eq_true hc.1
                omega
              obtain ⟨s3, r3⟩ := r2.write (o := .ins (W.cls cc) dx (putF (W.fnm f) w ((ks.map W.fnm).zip vs))) (c := .ins cc (setFL ks xs f y).1 (setFL ks xs f y).2) hm ⟨dx, vs', by rw [upd_same, g1], g3, g2⟩
              subst hf
              refine ⟨a, _, dx, _, rfl, h1, ?_, ?_, hlen, ?_⟩
              · exact ok.kk.cls _ hc.2.1
              · exact ok.kk.fld _ _ hc.2.2
              · exact q _ _ _ ((s1.trans s2).trans s3) r3 σ (((eo.step s1).step s2).step s3)
            · cases e3
          · cases e3
        · cases e3
      · cases e
    · cases e
  · cases e)

theorem PSet.or {X : Cx} {t t' : TSet} (h : PSet X t) (h' : PSet X t') : PSet X (fun o i v H Q => t o i v H Q ∨ t' o i v H Q) := fun pins s σ H o i v ov iv u Q I r1 r2 r3 q => q.elim (h pins s σ H o i v ov iv u Q I r1 r2 r3) (h' pins s σ H o i v ov iv u Q I r1 r2 r3)
theorem PSet.imp {X : Cx} {t t' : TSet} (h : PSet X t) (kk : ∀ o i v H Q, t' o i v H Q → t o i v H Q) : PSet X t' := fun pins s σ H o i v ov iv u Q I r1 r2 r3 q => h pins s σ H o i v ov iv u Q I r1 r2 r3 (kk _ _ _ _ _ q)
def rSI (W : WP) : TSet := fun o i v H Q => ∃ B μ S d kd y S', Rel W B μ S H ∧ Den W B μ d o ∧ Den W B μ kd i ∧ Den W B μ y v ∧ setItem d kd y S = some S' ∧ ∀ H', Step B μ H B μ H' → Rel W B μ S' H' → Q H'
theorem hasK_any {j : DK} : ∀ {ks : List DK} {vs : List V}, ks.length = vs.length → ((ks.map kC).zip vs).any (fun kv => decide (kv.1 = kC j)) = hasK ks j
  | [], _, _ => rfl
  | k :: ks, [], h => by simp at h
  | k :: ks, v :: vs, h => by
    simp only [List.map_cons, List.zip_cons_cons, List.any_cons, hasK, hasK_any (ks := ks) (vs := vs) (by simpa using h)]
    by_cases e : k = j
    · subst e; simp
    · have : ¬ kC k = kC j := fun z => e (kC_inj z)
      simp [e, this]
theorem mapK_map {j : DK} {y : D} {v : V} (hy : Den W B μ y v) : ∀ {ks : List DK} {xs : List D} {vs : List V}, ks.length = xs.length → DenL W B μ xs vs →
    ∃ vs', ((ks.map kC).zip vs).map (fun kv => if kv.1 = kC j then (kv.1, v) else kv) = (ks.map kC).zip vs' ∧ DenL W B μ (mapK ks xs j y) vs' ∧ ks.length = (mapK ks xs j y).length
  | [], [], _, _, h => by cases h; exact ⟨[], rfl, .nil, rfl⟩
  | [], _ :: _, _, h, _ => by simp at h
  | _ :: _, [], _, h, _ => by simp at h
  | k :: ks, x :: xs, _, hl, h => by
    cases h with | @cons _ w _ ws h1 h2 =>
      obtain ⟨vs', e1, e2, e3⟩ := mapK_map (j := j) hy (by simpa using hl) h2
      simp only [List.map_cons, List.zip_cons_cons, mapK]
      by_cases e : k = j
      · subst e
        exact ⟨v :: vs', by simp [e1], by rw [if_pos rfl]; exact .cons hy e2, by simp [e3]⟩
      · have : ¬ kC k = kC j := fun z => e (kC_inj z)
        exact ⟨w :: vs', by simp [e1, this], by rw [if_neg e]; exact .cons h1 e2, by simp [e3]⟩
theorem zip_snoc {α β : Type} : ∀ {as : List α} {bs : List β} {a : α} {b : β}, as.length = bs.length → (as ++ [a]).zip (bs ++ [b]) = as.zip bs ++ [(a, b)]
  | [], [], _, _, _ => rfl
  | [], _ :: _, _, _, h => by simp at h
  | _ :: _, [], _, _, h => by simp at h
  | x :: as, y :: bs, a, b, h => by simp [zip_snoc (as := as) (bs := bs) (a := a) (b := b) (by simpa using h)]
theorem putK_ok {j : DK} {y : D} {v : V} (hy : Den W B μ y v) {ks : List DK} {xs : List D} {vs : List V} (hl : ks.length = xs.length) (h : DenL W B μ xs vs) :
    ∃ vs', putK ((ks.map kC).zip vs) (kC j) v = ((putK2 ks xs j y).1.map kC).zip vs' ∧ DenL W B μ (putK2 ks xs j y).2 vs' ∧ (putK2 ks xs j y).1.length = (putK2 ks xs j y).2.length := by
  have hlv : ks.length = vs.length := hl.trans h.length
  unfold putK putK2
  rw [hasK_any hlv]
  cases hh : hasK ks j with
  | true =>
    rw [if_pos rfl, if_pos rfl]
    obtain ⟨vs', e1, e2, e3⟩ := mapK_map (j := j) hy hl h
    exact ⟨vs', e1, e2, e3⟩
  | false =>
    rw [if_neg (by decide), if_neg (by decide)]
    refine ⟨vs ++ [v], ?_, h.append (.cons hy .nil), by simp [hl]⟩
    rw [List.map_append, List.map_cons, List.map_nil, zip_snoc (by simpa using hlv)]
theorem set_SI (ok : CxOk c W T mnm k X) : PSet X (rSI W) := by
  refine PSet.imp (PSet.or set_list (set_dict (by have := ok.hu; omega))) ?_
  rintro o i v H Q ⟨B, μ, S, d, kd, y, S', r, hd, hk, hy, e, q⟩
  unfold setItem at e
  split at e
  · rename_i j
    split at e
    · rename_i xs hS
      split at e
      · rename_i n
        split at e
        · rename_i hn
          cases e
          obtain ⟨a, rfl, hm, vs, h1, h2⟩ := r.get hd hS
          obtain rfl := den_int hk
          obtain ⟨s1, r1⟩ := r.write (o := .lst (vs.set n.toNat v)) (c := .lst (xs.set n.toNat y)) hm ⟨_, upd_same, h2.set hy⟩
          refine .inl ⟨a, vs, n, n.toNat, rfl, rfl, h1, ?_, q _ s1 r1⟩
          unfold ixN
          rw [if_pos hn.1, if_pos (by rw [← h2.length]; omega)]
        · cases e
      · cases e
    · rename_i ks xs hS
      split at e
      · rename_i kk ek
        split at e
        · rename_i hn
          cases e
          obtain ⟨a, rfl, hm, vs, h1, h2, h3⟩ := r.get hd hS
          obtain rfl := kV_of hk ek
          obtain ⟨vs', g1, g2, g3⟩ := putK_ok (j := kk) hy h2 h3
          obtain ⟨s1, r1⟩ := r.write (o := .dK (putK ((ks.map kC).zip vs) (kC kk) v)) (c := .dct (putK2 ks xs kk y).1 (putK2 ks xs kk y).2) hm ⟨vs', by rw [upd_same, g1], g3, g2⟩
          refine .inr ⟨a, _, rfl, .k h1 ?_, q _ s1 r1⟩
          rw [List.length_zip, List.length_map]
          have : ks.length < sizeLine := Nat.lt_of_lt_of_le hn (by decide)
          omega
        · cases e
      · cases e
    · cases e
  · cases e
theorem snd_setI {o i e : Expr} {io ii ie : IE} {p1 pos : Pos} (hsl : notSlice i = true) (ho : SndE c W T mnm k o io) (hi : SndE c W T mnm k i ii) (he : SndE c W T mnm k e ie) : SndS c W T mnm k (.Assign [.Subscript o i p1] e pos) (.setI io ii ie) := fun X ok =>
  PS.imp (ps_asg (he X ok).1 (pg_sub (ho X ok).1 (hi X ok).1 (set_SI ok) (by intro v; cases i <;> first | rfl | cases hsl)) (show swapsWith e (some (.Subscript o i p1)) pos.line X.env = _ from sw_offI)) (by
  rintro D σ H ⟨env, S, B, μ, ot, r, eo, e, q⟩
  simp only [ex] at e
  split at e
  · rename_i y S1 e1
    split at e
    · rename_i d S2 e2
      split at e
      · rename_i kd S3 e3
        split at e
        · rename_i S4 e4
          cases e
          refine ⟨env, S, B, μ, y, S1, r, eo, e1, fun B1 μ1 H1 w s1 r1 d1 => ?_⟩
          refine ⟨env, S1, B1, μ1, d, S2, r1, eo.step s1, e2, fun B2 μ2 H2 x s2 r2 d2 => ?_⟩
          refine ⟨env, S2, B2, μ2, kd, S3, r2, (eo.step s1).step s2, e3, fun B3 μ3 H3 z s3 r3 d3 => ?_⟩
          refine ⟨B3, μ3, S3, d, kd, y, S4, r3, Den.mono s3.grow s3.p _ _ d2, d3, Den.mono s3.grow s3.p _ _ (Den.mono s2.grow s2.p _ _ d1), e4, fun H4 s4 r4 => ?_⟩
          exact q _ _ _ (((s1.trans s2).trans s3).trans s4) r4 σ ((((eo.step s1).step s2).step s3).step s4)
        · cases e
      · cases e
    · cases e
  · cases e)

/-! ### turns by place -/
def forG (stp : D → DEnv → Store → Option O) (s : Src) : Nat → Nat → DEnv → Store → Option O
  | 0, _, _, _ => none
  | n + 1, k, env, S => match cur s S with
    | some xs => match xs[k]? with
      | none => some (.nx env S)
      | some x => match stp x env S with
        | some (.nx env1 S1) => forG stp s n (k + 1) env1 S1
        | some (.ct env1 S1) => forG stp s n (k + 1) env1 S1
        | some (.br env1 S1) => some (.nx env1 S1)
        | some (.rt d S1) => some (.rt d S1)
        | none => none
    | none => none
theorem forL_G {stp : D → DEnv → Store → Option O} {xs : List D} : ∀ (l : List D) (k : Nat) (env : DEnv) (S : Store), xs.drop k = l → forG stp (.items xs) (l.length + 1) k env S = forL stp l env S
  | [], k, env, S, h => by
    have : xs[k]? = none := List.getElem?_eq_none_iff.mpr (List.drop_eq_nil_iff.mp h)
    simp only [forL, forG, cur, this]
  | x :: l, k, env, S, h => by
    have hx : xs[k]? = some x := by
      have : (xs.drop k)[0]? = some x := by rw [h]; rfl
      rw [List.getElem?_drop] at this
      simpa using this
    have hl : xs.drop (k + 1) = l := by
      have : xs.drop (k + 1) = (xs.drop k).drop 1 := by rw [List.drop_drop, Nat.add_comm]
      rw [this, h]; rfl
    unfold forG
    simp only [forL, cur, hx, List.length_cons]
    cases e : stp x env S with
    | none => rfl
    | some o => cases o with
      | nx env1 S1 => exact forL_G l (k + 1) env1 S1 hl
      | ct env1 S1 => exact forL_G l (k + 1) env1 S1 hl
      | br _ _ => rfl
      | rt _ _ => rfl
theorem forC_G {stp : D → DEnv → Store → Option O} {i : Nat} : ∀ (n k : Nat) (env : DEnv) (S : Store), forC stp i n k env S = forG stp (.cell i) n k env S
  | 0, k, env, S => rfl
  | n + 1, k, env, S => by
    simp only [forC, forG, cur]
    cases h : S[i]? with
    | none => rfl
    | some c => cases c with
      | lst xs =>
        simp only []
        cases hx : xs[k]? with
        | none => rfl
        | some x =>
          simp only []
          cases e : stp x env S with
          | none => rfl
          | some o => cases o with
            | nx env1 S1 => exact forC_G n (k + 1) env1 S1
            | ct env1 S1 => exact forC_G n (k + 1) env1 S1
            | br _ _ => rfl
            | rt _ _ => rfl
      | ins _ _ => rfl
      | dct _ => rfl
theorem forS_G {stp : D → DEnv → Store → Option O} {s : Src} {env : DEnv} {S : Store} : ∃ n, forS stp s env S = forG stp s n 0 env S := by
  cases s with
  | items xs => exact ⟨_, (forL_G xs 0 env S rfl).symm⟩
  | cell i => exact ⟨_, forC_G _ _ _ _⟩
def forStp (T : Tab) (tg : Tg) (b : List IS) : D → DEnv → Store → Option O := fun x env2 S2 => match setT S2 tg x env2 with
  | some env3 => exL T b env3 S2
  | none => none
theorem run_for {tg : Tg} {kd : Nat} {it : List IE} {b : List IS} {D : Ends} {σ : L2.St} {H : Hp} (h : tS W (ex T (.for tg kd it b)) D σ H) : tFor (tI W kd (evL T it)) (tG W tg) (tS W (exL T b)) D σ H := by
  obtain ⟨env, S, B, μ, o, r, eo, ee, q⟩ := h
  simp only [ex] at ee
  split at ee
  · rename_i ds S1 e1
    split at ee
    · rename_i s e2
      obtain ⟨n0, en⟩ := forS_G (stp := forStp T tg b) (s := s) (env := env) (S := S1)
      have ee : forS (forStp T tg b) s env S1 = some o := ee
      rw [en] at ee
      refine ⟨env, S, B, μ, ds, S1, s, r, eo, e1, e2, fun B1 μ1 H1 J s1 r1 jo => ?_⟩
      refine ⟨fun i m σc Hc => ∃ Bc μc Sc envc, Rel W Bc μc Sc Hc ∧ EnvOk W Bc μc envc σc ∧ Step B1 μ1 H1 Bc μc Hc ∧ Fin W D Bc μc Hc o ∧ forG (forStp T tg b) s m i envc Sc = some o, ⟨n0, B1, μ1, S1, env, r1, eo.step s1, Step.refl .., q.step s1, ee⟩, ?_⟩
      rintro i m σc Hc ⟨Bc, μc, Sc, envc, rc, eoc, sc, qc, eg⟩
      cases m with
      | zero => cases eg
      | succ m =>
        simp only [forG] at eg
        split at eg
        · rename_i xs ecur
          have jj := jo Bc μc Sc Hc xs sc.grow sc.p rc ecur i
          split at eg
          · rename_i hx
            cases eg
            exact .inl ⟨jj.2 hx, qc _ _ _ (Step.refl ..) rc σc eoc⟩
          · rename_i x hx
            have go := jj.1 x hx
            refine .inr ⟨go.1, fun σn Hn => ∃ m', m' < m + 1 ∧ ∃ Bc μc Sc envc, Rel W Bc μc Sc Hn ∧ EnvOk W Bc μc envc σn ∧ Step B1 μ1 H1 Bc μc Hn ∧ Fin W D Bc μc Hn o ∧ forG (forStp T tg b) s m' (i + 1) envc Sc = some o, fun σn Hn hn => hn, ?_⟩
            intro v Hy hy
            obtain ⟨By, sy, ry, dy⟩ := go.2 v Hy hy
            have eoy := eoc.step sy
            cases es : setT Sc tg x envc with
            | none =>
              have : forStp T tg b x envc Sc = none := by simp only [forStp, es]
              rw [this] at eg; cases eg
            | some env3 =>
              have : forStp T tg b x envc Sc = exL T b env3 Sc := by simp only [forStp, es]
              rw [this] at eg
              refine ⟨By, μc, Sc, envc, x, env3, ry, eoy, dy, es, fun σ2 eo2 _ => ?_⟩
              cases eb : exL T b env3 Sc with
              | none => rw [eb] at eg; cases eg
              | some ob =>
                rw [eb] at eg
                refine ⟨env3, Sc, By, μc, ob, ry, eo2, eb, fun B4 μ4 H4 s4 => ?_⟩
                have st := sy.trans s4
                cases ob with
                | nx env4 S4 => exact fun r4 σ4 eo4 => ⟨m, Nat.lt_succ_self _, B4, μ4, S4, env4, r4, eo4, sc.trans st, qc.step st, eg⟩
                | ct env4 S4 => exact fun r4 σ4 eo4 => ⟨m, Nat.lt_succ_self _, B4, μ4, S4, env4, r4, eo4, sc.trans st, qc.step st, eg⟩
                | br env4 S4 =>
                  cases eg
                  exact fun r4 σ4 eo4 => qc _ _ _ st r4 σ4 eo4
                | rt d S4 =>
                  cases eg
                  exact fun r4 v d4 => qc _ _ _ st r4 v d4
        · cases eg
    · cases ee
  · cases ee
theorem snd_for {tg iter : Expr} {body : List Stmt} {itg : Tg} {kd : Nat} {it : List IE} {ib : List IS} {pos : Pos} (hi : SndI c W T mnm k tg iter kd it) (hg : SndG c W T mnm k tg itg) (hb : SndSs c W T mnm k body ib) : SndS c W T mnm k (.For tg iter body [] pos) (.for itg kd it ib) := fun X ok =>
  PS.imp (ps_for (by rw [ok.xe]; exact .never) ok.calm (hi.1 X ok) (hg.1 X ok) (hb X ok) (fold_of hi.2)) fun D σ H h => run_for h
theorem run_whl {t : IE} {b : List IS} {D : Ends} {σ : L2.St} {H : Hp} (h : tS W (ex T (.whl t b)) D σ H) : tWhile (tT W (evE T t)) (tS W (exL T b)) D σ H := by
  obtain ⟨env, S, B, μ, o, r, eo, ee, q⟩ := h
  simp only [ex] at ee
  refine ⟨fun m σc Hc => ∃ Bc μc Sc envc, Rel W Bc μc Sc Hc ∧ EnvOk W Bc μc envc σc ∧ Fin W D Bc μc Hc o ∧ whlN (fun env1 S1 => match evE T t env1 S1 with
      | some (.bl k, S2) => some (k, S2)
      | _ => none) (fun env1 S1 => exL T b env1 S1) m envc Sc = some o, ⟨_, B, μ, S, env, r, eo, q, ee⟩, ?_⟩
  rintro m σc Hc ⟨Bc, μc, Sc, envc, rc, eoc, qc, eg⟩
  cases m with
  | zero => cases eg
  | succ m =>
    simp only [whlN] at eg
    cases et : evE T t envc Sc with
    | none => rw [et] at eg; cases eg
    | some p =>
      obtain ⟨d, S1⟩ := p
      rw [et] at eg
      cases d with
      | bl z =>
        refine ⟨envc, Sc, Bc, μc, z, S1, rc, eoc, et, fun B2 μ2 H2 s2 r2 => ?_⟩
        cases z with
        | false =>
          cases eg
          exact iteF (qc _ _ _ s2 r2 σc (eoc.step s2))
        | true =>
          refine iteT ⟨fun σn Hn => ∃ m', m' < m + 1 ∧ ∃ Bc μc Sc envc, Rel W Bc μc Sc Hn ∧ EnvOk W Bc μc envc σn ∧ Fin W D Bc μc Hn o ∧ whlN (fun env1 S1 => match evE T t env1 S1 with
              | some (.bl k, S2) => some (k, S2)
              | _ => none) (fun env1 S1 => exL T b env1 S1) m' envc Sc = some o, fun σn Hn hn => hn, ?_⟩
          simp only [] at eg
          cases eb : exL T b envc S1 with
          | none => rw [eb] at eg; cases eg
          | some ob =>
            rw [eb] at eg
            refine ⟨envc, S1, B2, μ2, ob, r2, eoc.step s2, eb, fun B4 μ4 H4 s4 => ?_⟩
            have st := s2.trans s4
            cases ob with
            | nx env4 S4 => exact fun r4 σ4 eo4 => ⟨m, Nat.lt_succ_self _, B4, μ4, S4, env4, r4, eo4, qc.step st, eg⟩
            | ct env4 S4 => exact fun r4 σ4 eo4 => ⟨m, Nat.lt_succ_self _, B4, μ4, S4, env4, r4, eo4, qc.step st, eg⟩
            | br env4 S4 =>
              cases eg
              exact fun r4 σ4 eo4 => qc _ _ _ st r4 σ4 eo4
            | rt d S4 =>
              cases eg
              exact fun r4 v d4 => qc _ _ _ st r4 v d4
      | _ => cases eg
theorem snd_whl {t : Expr} {body : List Stmt} {it : IE} {ib : List IS} {pos : Pos} (ht : SndE c W T mnm k t it) (hb : SndSs c W T mnm k body ib) : SndS c W T mnm k (.While t body [] pos) (.whl it ib) := fun X ok =>
  PS.imp (ps_while (by rw [ok.xe]; exact .never) (ht X ok).2 (hb X ok)) fun D σ H h => run_whl h
end LN

set_option Elab.async false
set_option linter.all false
set_option maxRecDepth 100000
set_option maxHeartbeats 1000000
namespace LN
open PySem L2 PyProof.Rows GenW

/-! ### for, in a generator -/
section
variable {M : Model} {A : Around} {R : GenEnd} {Y : Protocol} {n : Nat} {s₀ s : Shared} {c : Code} {fs : List Frame} {env : Env}
theorem segFor {target iter : Expr} {body : List Stmt} {pos : Pos} {K : Flow → Sem PySem.Fin} {J : Value → Sem PySem.Fin} {gd : Bool → Bool} {lv : List Value → List Value} (hs : ∀ x, foldedSetIterable iter env x = pure x)
    (h : wpAny M (A.over c fs) (eval iter env) (fun xv s1 => wpAny M (A.over c fs) (pyIter xv) (fun it s2 => ∀ p, Seg M A R Y n s₀ (.forLoop target it body [] env) (M.den (.forLoop target it body [] env))
        (.ret (fun r => ((match r with | .ok f => (.pure f : Sem Flow) | .error e => .raise e).onRaise (cameBack env)).wrap K J gd lv) none (gd false) (lv []) c p [] :: fs) s2) (fun x s' => Seg M A R Y n s₀ c (J x) fs s') s1) (fun x s' => Seg M A R Y n s₀ c (J x) fs s') s) :
    Seg M A R Y n s₀ c ((exec (.For target iter body [] pos) env).wrap K J gd lv) fs s := by
  rw [exec_For]
  refine seg_bind_wrap (wpAny_standAt ?_)
  refine seg_bind_wrap (wpAny_mono h (fun xv s1 h1 => ?_) fun _ _ z => z)
  refine seg_bind_wrap (wpAny_of_eq (hs xv) ?_)
  refine seg_bind_wrap (wpAny_standAt ?_)
  refine seg_bind_wrap (wpAny_holding (wpAny_mono h1 (fun it s2 h2 => ?_) fun _ _ z => z))
  exact seg_call h2
end
section
variable {prog : Program} {w : World} {A : Around} {R : GenEnd} {Y : Protocol} {n : Nat} {s₀ : Shared} {fs : List Frame} {s : Shared} {env : Env}
theorem segForLoop {target : Expr} {it : Value} {body : List Stmt}
    (h : wpAny (model prog w) (A.over (.forLoop target it body [] env) fs) (pyNext it) (fun r s1 => match r with
        | none => Seg (model prog w) A R Y n s₀ (.forLoop target it body [] env) (.pure (.again (.block [] env))) fs s1
        | some v => wpAny (model prog w) (A.over (.forLoop target it body [] env) fs) (letOwnedTupleGo target it v) (fun _ s2 => wpAny (model prog w) (A.over (.forLoop target it body [] env) fs) (assign target env v) (fun _ s3 =>
            Seg (model prog w) A R Y n s₀ (.forLoop target it body [] env) ((execs body env).wrap (fun f => match f with
              | .next | .cont => .pure (.again (.forLoop target it body [] env))
              | .brk => .pure (.done .next)
              | .ret v => .pure (.done (.ret v))) (fun e => (do noteFrame e env; theTreesLotGoes e : Sem Unit).wrap (fun _ => .raise e) .raise id id) id id) fs s3)
            (fun x s' => Seg (model prog w) A R Y n s₀ (.forLoop target it body [] env) ((do noteFrame x env; theTreesLotGoes x : Sem Unit).wrap (fun _ => .raise x) .raise id id) fs s') s2)
            (fun x s' => Seg (model prog w) A R Y n s₀ (.forLoop target it body [] env) ((do noteFrame x env; theTreesLotGoes x : Sem Unit).wrap (fun _ => .raise x) .raise id id) fs s') s1)
      (fun x s' => Seg (model prog w) A R Y n s₀ (.forLoop target it body [] env) ((do noteFrame x env; theTreesLotGoes x : Sem Unit).wrap (fun _ => .raise x) .raise id id) fs s') s) :
    Seg (model prog w) A R Y n s₀ (.forLoop target it body [] env) ((model prog w).den (.forLoop target it body [] env)) fs s := by
  show Seg _ A R Y n s₀ _ ((forTurn target it body [] env).onRaise (fun x => do noteFrame x env; theTreesLotGoes x)) fs s
  unfold forTurn
  rw [Sem.onRaise_eq_wrap]
  refine seg_bind_wrap (wpAny_standAt ?_)
  refine seg_bind_wrap (wpAny_onRaise (wpAny_mono h (fun r s1 h1 => ?_) fun x s' hx => ?_))
  · cases r with
    | none => exact h1
    | some v =>
      refine seg_bind_wrap (wpAny_mono h1 (fun _ s2 h2 => ?_) fun x s' hx => ?_)
      · refine seg_bind_wrap (wpAny_mono h2 (fun _ s3 h3 => ?_) fun x s' hx => ?_)
        · rw [Sem.bind_eq_wrap', Sem.wrap_wrap]
          refine Eq.mp (congrArg (fun t => Seg (model prog w) A R Y n s₀ (.forLoop target it body [] env) t fs s3) ?_) h3
          refine Sem.wrap_congr (execs body env) _ _ (fun f => ?_) (fun e => ?_)
          · cases f <;> rfl
          · exact (Sem.bind_eq_wrap _ _).symm
        · rw [← Sem.bind_eq_wrap] at hx
          exact hx
      · rw [← Sem.bind_eq_wrap] at hx
        exact hx
  · refine wpAny_standAt ?_
    rw [← Sem.bind_eq_wrap] at hx
    exact hx
end

/-- what a for loop of a generator asks -/
def tGFor (wi : TI) (g : TG) (tb : TGn) : TGn := fun D ys σ H => wi σ H fun It H1 => ∃ Wd : Nat → Nat → List V → L2.St → Hp → Prop, (∃ m, Wd 0 m ys σ H1) ∧ ∀ i m ys σ H, Wd i m ys σ H →
  (It.stop i H ∧ D.nx ys σ H) ∨ (It.go i H ∧ ∃ Nx : List V → L2.St → Hp → Prop, (∀ ys' σ' H', Nx ys' σ' H' → ∃ m', m' < m ∧ Wd (i + 1) m' ys' σ' H') ∧ ∀ x H', It.yld i H x H' → g x σ H' fun σ2 H2 => tb { D with nx := Nx, ct := Nx, bk := D.nx } ys σ2 H2)
theorem gi_back {X : Cx} {S : Addr} {ip pl : List (Addr × Obj)} {ys : List V} {σ : L2.St} {H : Hp} {s : Shared} (h : GI X S (ip ++ pl) ys σ H s) : GI X S ip ys σ H s := by
  obtain ⟨acc, cc, rv, I⟩ := h
  exact ⟨acc, cc, rv, Inv.unpinned (pl := pl) (pins := (S, lstObj acc cc) :: ip) I⟩
theorem gs_for {X : Cx} {tg iter : Expr} {body : List Stmt} {pos : Pos} {wi : TI} {g : TG} {tb : TGn} (hp : PassesOwn (model X.prog X.w) X.A X.env X.xe) (hc : X.calm = true) (hi : PI X tg iter wi) (hg : PG X tg g) (hb : GSs X body tb)
    (hs : ∀ x, foldedSetIterable iter X.env x = pure x) : GS X (.For tg iter body [] pos) (tGFor wi g tb) := by
  refine ⟨fun A S ip R n ys s₀ c fs K J gd lv s σ H D gc hn kk hI ht => ?_⟩
  obtain ⟨acc, cc, rv, I⟩ := hI
  refine segFor hs ?_
  rw [gc.over]
  refine wpAny_mono (hi.run _ s σ H _ I ht) (fun v s1 h1 => wpAny_mono h1 (fun itv s2 h2 p => ?_) fun x s' hx => kk.exc n s₀ x s' hx) fun x s' hx => kk.exc n s₀ x s' hx
  obtain ⟨it, fp, tn, It, H2, rfl, I2, Tn, st2, f2, Wd, ⟨m0, w0⟩, turn⟩ := h2
  have gl := fun (q : Result → Sem PySem.Fin) => gc_loop (k := q) (c' := .forLoop tg (.ref it) body [] X.env) (l := lv []) (kp := []) (p := p) gc rfl rfl
  have stat : ∀ {H' : Hp} {acc' : Array Value} {c' : Nat}, (∀ b ∈ fp, H' b = none) → ∀ b ∈ fp, FpOk X ((S, lstObj acc' c') :: ip) H' b := fun {H' acc' c'} hn' b hb' => by
    obtain ⟨_, a2, a3, a4, a5, a6⟩ := f2 b hb'
    refine ⟨hn' b hb', a2, a3, a4, a5, fun q hq => ?_⟩
    rcases List.mem_append.mp hq with z | z
    · exact a6 q (List.mem_append_left _ z)
    · rcases List.mem_cons.mp z with z | z
      · subst z
        exact a6 (S, lstObj acc cc) (List.mem_append_right _ List.mem_cons_self)
      · exact a6 q (List.mem_append_right _ (List.mem_cons_of_mem _ z))
  have loop : ∀ (m i n : Nat) (ys : List V) (s₀ s : Shared) (σ : L2.St) (H : Hp), n + ys.length = sizeLine → Wd i m ys σ H → GI X S ip ys σ H s → tn i s.heap → (∀ b ∈ fp, H b = none) →
      Seg (model X.prog X.w) A R (GY X S) n s₀ (.forLoop tg (.ref it) body [] X.env) ((model X.prog X.w).den (.forLoop tg (.ref it) body [] X.env))
        (.ret (fun r => ((match r with | .ok f => (.pure f : Sem Flow) | .error e => .raise e).onRaise (cameBack X.env)).wrap K J gd lv) none (gd false) (lv []) c p [] :: fs) s := by
    intro m
    induction m using Nat.strongRecOn with
    | ind m ih =>
      intro i n ys s₀ s σ H hn w hI st fr
      have exc : ∀ (n : Nat) (s₀ : Shared) (x : Value) (s' : Shared), X.xe x s' → Seg (model X.prog X.w) A R (GY X S) n s₀ (.forLoop tg (.ref it) body [] X.env)
          ((do noteFrame x X.env; theTreesLotGoes x : Sem Unit).wrap (fun _ => .raise x) .raise id id)
          (.ret (fun r => ((match r with | .ok f => (.pure f : Sem Flow) | .error e => .raise e).onRaise (cameBack X.env)).wrap K J gd lv) none (gd false) (lv []) c p [] :: fs) s' := fun n s₀ x s' hx => by
        refine seg_wrap ?_
        rw [(gl _).over]
        refine wpAny_bind (wpAny_mono (hp x s' hx) (fun _ s'' hcb => wpAny_theTreesLotGoes ?_) fun y s'' hcb => ?_)
        · exact seg_leaf (.error x) (seg_cameBack gc kk hcb)
        · exact seg_leaf (.error y) (seg_cameBack gc kk hcb)
      refine segForLoop ?_
      rw [(gl _).over]
      obtain ⟨acc, cc, rv, I⟩ := hI
      rcases turn i m ys σ H w with ⟨stop, qn⟩ | ⟨go, Nx, hN, step⟩
      · refine wpAny_mono (Tn.done X rfl rfl rfl hc i _ s σ H X.xe I (stat fr) st stop) (fun r s4 hr => ?_) fun x s' hx => exc n s₀ x s' hx
        obtain ⟨rfl, I4⟩ := hr
        refine seg_again rfl ?_
        exact seg_leaf (.ok .next) (kk.ok n ys s₀ s4 .next hn ⟨σ, H, ⟨acc, cc, rv, I4⟩, qn⟩)
      · refine wpAny_mono (Tn.item X rfl rfl rfl hc i _ s σ H X.xe I (stat fr) st go) (fun r s4 hr => ?_) fun x s' hx => exc n s₀ x s' hx
        obtain ⟨u, rfl, h4⟩ := hr
        refine wpAny_mono h4 (fun _ s5 h5 => ?_) fun x s' hx => exc n s₀ x s' hx
        obtain ⟨x, H5, I5, r5, y5, st5, fr5⟩ := h5
        have I5p := I5.pinned (stat fr5) (Tn.obj _ _ st5)
        refine wpAny_mono (hg.run _ s5 σ H5 x u _ I5p r5 (step x H5 y5)) (fun _ s6 h6 => ?_) fun x s' hx => exc n s₀ x s' hx
        obtain ⟨σ6, H6, I6, q6⟩ := h6
        have pinOf : ∀ {ys7 : List V} {σ7 : L2.St} {H7 : Hp} {s7 : Shared}, GI X S (ip ++ pinsAt fp s5.heap) ys7 σ7 H7 s7 → tn (i + 1) s7.heap ∧ ∀ b ∈ fp, H7 b = none := fun {ys7 σ7 H7 s7} h7 => by
          obtain ⟨acc7, cc7, rv7, I7⟩ := h7
          refine ⟨Tn.keep _ _ _ st5 fun b hb' o e => (I7.pin (b, o) (List.mem_append_right _ (List.mem_cons_of_mem _ (List.mem_append_right _ (mem_pinsAt hb' e))))).1, fun b hb' => ?_⟩
          obtain ⟨o, e, _⟩ := Tn.obj _ _ st5 b hb'
          exact (I7.pin (b, o) (List.mem_append_right _ (List.mem_cons_of_mem _ (List.mem_append_right _ (mem_pinsAt hb' e))))).2.1
        have gB := gl (fun r => ((match r with | .ok f => (.pure f : Sem Flow) | .error e => .raise e).onRaise (cameBack X.env)).wrap K J gd lv)
        refine hb.run A S (ip ++ pinsAt fp s5.heap) R n ys s₀ _ _ _ _ id id s6 σ6 H6 { D with nx := Nx, ct := Nx, bk := D.nx } ⟨gB.pn, fun q hq => ?_, gB.apart, gB.over, gB.split, gB.guard, gB.gd⟩ hn ⟨fun n' ys' s₀' s7 f hn' h7 => ?_, fun n' s₀' x s7 hx => exc n' s₀' x s7 hx⟩ ⟨acc, cc, rv, I6⟩ q6
        · rcases List.mem_append.mp hq with z | z
          · exact gB.ip q z
          · obtain ⟨hb', _⟩ := of_pinsAt z
            obtain ⟨_, _, _, _, _, a6⟩ := f2 q.1 hb'
            exact fun e => a6 (S, lstObj _ _) (List.mem_append_right _ List.mem_cons_self) e.symm
        · cases f with
          | next =>
            obtain ⟨σ7, H7, I7, n7⟩ := h7
            obtain ⟨m', hm, w7⟩ := hN ys' σ7 H7 n7
            obtain ⟨t7, f7⟩ := pinOf I7
            exact seg_again rfl (ih m' hm (i + 1) n' ys' s₀' s7 σ7 H7 hn' w7 (gi_back I7) t7 f7)
          | cont =>
            obtain ⟨σ7, H7, I7, n7⟩ := h7
            obtain ⟨m', hm, w7⟩ := hN ys' σ7 H7 n7
            obtain ⟨t7, f7⟩ := pinOf I7
            exact seg_again rfl (ih m' hm (i + 1) n' ys' s₀' s7 σ7 H7 hn' w7 (gi_back I7) t7 f7)
          | brk =>
            obtain ⟨σ7, H7, I7, q7⟩ := h7
            exact seg_leaf (.ok .next) (kk.ok n' ys' s₀' s7 .next hn' ⟨σ7, H7, gi_back I7, q7⟩)
          | ret v =>
            obtain ⟨x7, σ7, H7, I7, r7, q7⟩ := h7
            exact seg_leaf (.ok (.ret v)) (kk.ok n' ys' s₀' s7 (.ret v) hn' ⟨x7, σ7, H7, gi_back I7, r7, q7⟩)
  exact loop m0 0 n ys s₀ s2 σ H2 hn w0 ⟨acc, cc, rv, I2⟩ st2 fun b hb' => (f2 b hb').1
end LN

set_option Elab.async false
set_option linter.all false
set_option maxRecDepth 100000
set_option maxHeartbeats 1000000
namespace LN
open PySem L2 PyProof.Rows GenW
variable {W : WP} {B B' : Hp} {μ μ' : List Addr} {S S' : Store} {H H' : Hp} {c : Cn} {T : Tab} {mnm : Nat → Str} {k : Nat} {X : Cx}

theorem PS.noxL {st : Stmt} {t : TS} (h : PS X.nox st t) : PS X st t := ⟨fun pins s σ H D I hw => wpAny_mono (h.run pins s σ H D (I.wish _) hw) (fun _ _ q => q.unwish) fun _ _ z => False.elim z⟩
theorem PG.noxL {e : Expr} {t : TG} (h : PG X.nox e t) : PG X e t := ⟨fun pins s σ H v u Q I r hw => wpAny_mono (h.run pins s σ H v u Q (I.wish _) r hw) (fun _ _ ⟨σ', H', I', q⟩ => ⟨σ', H', I'.unwish, q⟩) fun _ _ z => False.elim z⟩
theorem FpOk.un {E : Value → Shared → Prop} {pins : List (Addr × Obj)} {H : Hp} {b : Addr} (h : FpOk (X.wish E) pins H b) : FpOk X pins H b := h
theorem PI.noxL {tg e : Expr} {t : TI} (h : PI X.nox tg e t) : PI X tg e t := ⟨fun pins s σ H R I hw =>
  wpAny_mono (h.run pins s σ H R (I.wish _) hw) (fun _ _ q => wpAny_mono q (fun _ _ ⟨it, fp, tn, J, H', e1, I', T', t0, f, r⟩ => ⟨it, fp, tn, J, H', e1, I'.unwish, T', t0, f, r⟩) fun _ _ z => False.elim z) fun _ _ z => False.elim z⟩
theorem EnvOk.less {env : DEnv} {σ : L2.St} (h : EnvOk W B μ env σ) : ∀ vs : List Nat, EnvOk W B μ (wipeD env vs) σ
  | [] => h
  | v :: vs => by
    have ih := EnvOk.less h vs
    unfold wipeD
    refine ⟨by simp [ih.1], fun j e hj => ?_⟩
    by_cases ej : j = v
    · subst ej
      by_cases hl : j < (wipeD env vs).length
      · rw [List.getElem?_set_self hl] at hj; cases hj
      · rw [List.getElem?_eq_none_iff.mpr (by simp; omega)] at hj; cases hj
    · rw [List.getElem?_set_ne (Ne.symm ej)] at hj
      exact ih.2 j e hj
theorem wipeD_out {env : DEnv} {j : Nat} {d : D} : ∀ {vs : List Nat}, (wipeD env vs)[j]? = some (some d) → j ∉ vs
  | [], _ => by simp
  | v :: vs, h => by
    unfold wipeD at h
    by_cases ej : j = v
    · subst ej
      by_cases hl : j < (wipeD env vs).length
      · rw [List.getElem?_set_self hl] at h; cases h
      · rw [List.getElem?_eq_none_iff.mpr (by simp; omega)] at h; cases h
    · rw [List.getElem?_set_ne (Ne.symm ej)] at h
      have := wipeD_out h
      simp [ej, this]
theorem EnvOk.off {env : DEnv} {σ σ' : L2.St} {vs : List Nat} (h : EnvOk W B μ (wipeD env vs) σ) (o : OffSl vs σ σ') : EnvOk W B μ (wipeD env vs) σ' := by
  refine ⟨h.1.trans o.1.symm, fun j d e => ?_⟩
  obtain ⟨v, h1, h2⟩ := h.2 j d e
  exact ⟨v, by rw [o.2 j (wipeD_out e)]; exact h1, h2⟩

theorem frzL_den {m : Nat} (r : Rel W B μ S H) {ds es : List D} {vs : List V} (h : DenL W B μ ds vs) (q : frzL (frzC S m 6) ds = some es) : DenL W (fz B H (μ.drop m)) [] es vs :=
  frzL_ok (fz_exd r) (fun i d v => frzC_ok r (fz_exd r) 6 i d v) ds es vs h q


/-! ### a generator's body -/
def tGB (W : WP) (T : Tab) (g : GD) (pre : List IS) : TGn := fun D ys σ H => ∃ env S B μ env1 S1 ds S2 s all S5, Rel W B μ S H ∧ EnvOk W B μ env σ ∧ exL T pre env S = some (.nx env1 S1) ∧ evL T g.it env1 S1 = some (ds, S2) ∧ srcD g.kd ds S2 = some s ∧ lcS (genStp T g env1) s S2 = some (all, S5) ∧ ys = [] ∧ all.length ≤ 100000 ∧
  ∀ B' μ' H' out σ', Step B μ H B' μ' H' → Rel W B' μ' S5 H' → DenL W B' μ' all out → D.nx out σ' H'
def SndGn (c : Cn) (W : WP) (T : Tab) (mnm : Nat → Str) (k : Nat) (body : List Stmt) (g : GD) (pre : List IS) : Prop := ∀ X, CxOk c W T mnm k X.nox → PassesOwn (model X.prog X.w) X.A X.env X.xe → X.env.scope.isCoroutine = false → interactive X.env = false → GSs X body (tGB W T g pre)
theorem GSs.imp {body : List Stmt} {t t' : TGn} (h : GSs X body t) (kk : ∀ D ys σ H, t' D ys σ H → t D ys σ H) : GSs X body t' := ⟨fun A S ip R n ys s₀ c fs K J gd lv s σ H D g hn k hI ht => h.run A S ip R n ys s₀ c fs K J gd lv s σ H D g hn k hI (kk _ _ _ _ ht)⟩
theorem run_gb {g : GD} {D : GEnds} {ys : List V} {σ : L2.St} {H : Hp} (h : tGB W T g [] D ys σ H) : tGThen (tGFor (tI W g.kd (evL T g.it)) (tG W g.tg) (tGThen (tGYield (tE W (evE T g.e))) tG0)) tG0 D ys σ H := by
  obtain ⟨env, S, B, μ, env1, S1, ds, S2, s, all, S5, r, eo, e1, e2, e3, e4, rfl, hlen, q⟩ := h
  simp only [exL] at e1
  cases e1
  obtain ⟨n0, e5⟩ := lcS_G (stp := genStp T g env) e4
  refine ⟨env, S, B, μ, ds, S2, s, r, eo, e2, e3, fun B1 μ1 H1 J s1 r1 jo => ?_⟩
  refine ⟨fun i m ys σc Hc => ∃ Bc μc Sc ysD rest, Rel W Bc μc Sc Hc ∧ EnvOk W Bc μc (wipeD env (slots g.tg)) σc ∧ Step B1 μ1 H1 Bc μc Hc ∧ DenL W Bc μc ysD ys ∧ ysD ++ rest = all ∧ lcG (genStp T g env) s m i Sc = some (rest, S5), ⟨n0, B1, μ1, S2, [], all, r1, (eo.step s1).less _, Step.refl .., .nil, rfl, e5⟩, ?_⟩
  rintro i m ys σc Hc ⟨Bc, μc, Sc, ysD, rest, rc, eoc, sc, dc, erest, eg⟩
  cases m with
  | zero => cases eg
  | succ m =>
    simp only [lcG] at eg
    split at eg
    · rename_i xs ecur
      have jj := jo Bc μc Sc Hc xs sc.grow sc.p rc ecur i
      split at eg
      · rename_i hx
        cases eg
        rw [List.append_nil] at erest
        subst erest
        exact .inl ⟨jj.2 hx, q _ _ _ _ σc (s1.trans sc) rc dc⟩
      · rename_i x hx
        have go := jj.1 x hx
        refine .inr ⟨go.1, fun ysn σn Hn => ∃ m', m' < m + 1 ∧ ∃ Bc μc Sc ysD rest, Rel W Bc μc Sc Hn ∧ EnvOk W Bc μc (wipeD env (slots g.tg)) σn ∧ Step B1 μ1 H1 Bc μc Hn ∧ DenL W Bc μc ysD ysn ∧ ysD ++ rest = all ∧ lcG (genStp T g env) s m' (i + 1) Sc = some (rest, S5), fun ysn σn Hn hn => hn, ?_⟩
        intro v Hy hy
        obtain ⟨By, sy, ry, dy⟩ := go.2 v Hy hy
        split at eg
        · rename_i y S4 estp
          split at eg
          · rename_i rest' S6 eg2
            have e6 : y :: rest' = rest ∧ S6 = S5 := by cases eg; exact ⟨rfl, rfl⟩
            obtain ⟨e6, e7⟩ := e6
            subst e6 e7
            unfold genStp at estp
            split at estp
            · rename_i env2 eset
              have eoy := eoc.step sy
              refine ⟨By, μc, Sc, _, x, env2, ry, eoy, dy, eset, fun σ2 eo2 off2 => ?_⟩
              split at estp
              · rename_i y' S4' ev
                cases estp
                have hl : ysD.length + (1 + rest'.length) = all.length := by rw [← erest]; simp; omega
                refine ⟨?_, env2, Sc, By, μc, y, S4, ry, eo2, ev, fun B4 μ4 H4 w s4 r4 d4 => ?_⟩
                · rw [← dc.length]
                  exact Nat.lt_of_lt_of_le (by omega : ysD.length < 100000) (by decide)
                · have st := sy.trans s4
                  exact ⟨m, Nat.lt_succ_self _, B4, μ4, S4, ysD ++ [y], rest', r4, (eoy.off off2).step s4, sc.trans st, (DenL.mono st.grow st.p _ _ dc).append (.cons d4 .nil), by simpa using erest, eg2⟩
              · cases estp
            · cases estp
          · cases eg
        · rename_i S4 estp
          unfold genStp at estp
          split at estp
          · split at estp <;> cases estp
          · cases estp
        · cases eg
    · cases eg
theorem sndGn_for {tg iter e : Expr} {yp p2 p3 : Pos} {g : GD} (hi : SndI c W T mnm k tg iter g.kd g.it) (hg : SndG c W T mnm k tg g.tg) (he : SndE c W T mnm k e g.e) : SndGn c W T mnm k [.For tg iter [.Expr (.Yield (some e) yp) p2] [] p3] g [] := fun X ok hp hco hin =>
  GSs.imp (gss_cons (gs_for hp ok.calm (PI.noxL (hi.1 X.nox ok)) (PG.noxL (hg.1 X.nox ok)) (gss_cons (gs_yield (PE.nox (he X.nox ok).1) hco hin) gss_nil) (fold_of hi.2)) gss_nil) fun D ys σ H h => run_gb h
theorem sndGn_cons {st : Stmt} {body : List Stmt} {is : IS} {pre : List IS} {g : GD} (h : SndS c W T mnm k st is) (hs : SndGn c W T mnm k body g pre) : SndGn c W T mnm k (st :: body) g (is :: pre) := fun X ok hp hco hin =>
  GSs.imp (gss_cons (gs_ps (PS.noxL (h X.nox ok))) (hs X ok hp hco hin)) (by
    rintro D ys σ H ⟨env, S, B, μ, env1, S1, ds, S2, s, all, S5, r, eo, e1, e2, e3, e4, hy, hlen, q⟩
    simp only [exL] at e1
    split at e1
    · rename_i env0 S0 e0
      refine ⟨env, S, B, μ, _, r, eo, e0, fun B1 μ1 H1 s1 r1 σ1 eo1 => ?_⟩
      exact ⟨env0, S0, B1, μ1, env1, S1, ds, S2, s, all, S5, r1, eo1, e1, e2, e3, e4, hy, hlen, fun B' μ' H' out σ' st' r' d' => q B' μ' H' out σ' (s1.trans st') r' d'⟩
    · cases e1
    · cases e1
    · cases e1
    · cases e1)
end LN

set_option Elab.async false
set_option linter.all false
set_option maxRecDepth 100000
set_option maxHeartbeats 1000000
namespace LN
open PySem L2
variable {W : WP} {B B' : Hp} {μ μ' : List Addr} {S S' : Store} {H H' : Hp} {c : Cn} {T : Tab} {mnm : Nat → Str} {k : Nat} {X : Cx}

/-- where the law runs -/
structure Site where
  P : Program
  w : World
  K : PySem.W.Frag
  mg : Str → Option Value
  base : Heap
def GnT (W : WP) (s : Site) (k : Nat) (a : Addr) (np : Nat) (F : Spc) : Prop := (∀ ds S, F ds S = none) ∨ (∀ ds S d S', F ds S = some (d, S') → ∃ ys, d = .lst ys) ∧ ∃ (j : Nat) (fd : FuncData) (ps : List Str), j + 3 ≤ k + 1 ∧ ps.length = np ∧ Binds s.K fd ps [] ∧ GFn s.P s.w s.K s.mg s.base j a fd ps (spG W F)
def FnT (W : WP) (s : Site) (k : Nat) (a : Addr) (np : Nat) (bk : BK) (F : Spc) : Prop := ∃ (fd : FuncData) (ps : List Str), ps.length = np ∧ BindOk W s.K fd ps bk ∧ FnOk s.P s.w s.K s.mg s.base CX0 k a fd ps (spS W F)
theorem EnvOk.start {N : List Str} {ds : List D} {vs : List V} {nn : Nat} (h : DenL W B μ ds vs) (hn : N.length = nn) : EnvOk W B μ (startD nn ds) (L2.start N vs) := by
  unfold startD L2.start
  refine ⟨by simp [h.length, hn], fun i d e => ?_⟩
  have hl := h.length
  by_cases q : i < ds.length
  · rw [List.getElem?_append_left (by simpa using q), List.getElem?_map] at e
    cases e2 : ds[i]? with
    | none => rw [e2] at e; cases e
    | some d' =>
      rw [e2] at e
      cases e
      obtain ⟨v, h1, h2⟩ := h.at e2
      refine ⟨v, ?_, h2⟩
      rw [List.getElem?_append_left (by rw [List.length_map, ← hl]; exact q), List.getElem?_map, h1]
      rfl
  · rw [List.getElem?_append_right (by simpa using Nat.le_of_not_lt q), List.getElem?_replicate] at e
    split at e <;> cases e
/-- a body as it runs -/
theorem body_ok {N : List Str} {fd : FD} {ds : List D} {vs : List V} {Q : VK} {d : D} {ev : DEnv → Store → Option O} (hN : N.length = fd.nn) (r : Rel W B μ S H) (hd : DenL W B μ ds vs) (e : runB T fd ds S = some (d, S'))
    (q : ∀ B' μ' H' v, Step B μ H B' μ' H' → Rel W B' μ' S' H' → Den W B' μ' d v → Q v H') : tS W (exL T fd.body) { nx := fun _ H' => Q .non H', rt := Q } (L2.start N vs) H := by
  unfold runB at e
  split at e
  · split at e
    · rename_i d' S1 e1
      cases e
      exact ⟨_, S, B, μ, _, r, .start hd hN, e1, fun B' μ' H' s1 r1 v hv => q B' μ' H' v s1 r1 hv⟩
    · rename_i env1 S1 e1
      cases e
      exact ⟨_, S, B, μ, _, r, .start hd hN, e1, fun B' μ' H' s1 r1 σ _ => q B' μ' H' .non s1 r1 .non⟩
    · cases e
  · cases e
/-- a def: what its text is -/
structure DefI (W : WP) (s : Site) (G : List (Str × GK)) (mnm : Nat → Str) (d : FD) (a : Addr) : Prop where
  ex : ∃ (x qual : Str) (params : Arguments) (body : List Stmt) (scope : Scope) (dvs : List V) (kws : List (Str × V)) (fd : FuncData) (N ps : List Str),
    FunD s.K x qual params body scope dvs kws a fd ∧ FnScope N ps scope ∧ BindOk W s.K fd ps d.bk ∧ ps.length = d.np ∧ N.length = d.nn ∧ ∀ T k, SndSs ⟨N, scope, none, G, d.lam⟩ W T mnm k body d.body
structure GenI (W : WP) (s : Site) (G : List (Str × GK)) (mnm : Nat → Str) (g : GD) (a : Addr) : Prop where
  ex : ∃ (x qual : Str) (params : Arguments) (body : List Stmt) (scope : Scope) (dvs : List V) (kws : List (Str × V)) (fd : FuncData) (N ps : List Str),
    FunD s.K x qual params body scope dvs kws a fd ∧ GScope N ps scope ∧ Binds s.K fd ps [] ∧ ps.length = g.np ∧ N.length = g.nn ∧ ∀ T k, SndGn ⟨N, scope, none, G, false⟩ W T mnm k body g g.pre
/-- what the head gives -/
structure Stat (W : WP) (s : Site) (p : Prog) (mnm : Nat → Str) (G : List (Str × GK)) (ad : Nat → Addr) : Prop where
  hK : s.K = W.K
  inj : ∀ f g, W.fnm f = W.fnm g → f = g
  nmf : ∀ m f, W.fnm f ≠ mnm m
  cls : ∀ c, p.ck c = true → Cls s.K (W.cls c)
  fld : ∀ c f, p.fl c f = true → NoAttr s.K (W.cls c) (W.fnm f)
  mth : ∀ c m f, p.mt c m = some f → Meth s.K (W.cls c) (mnm m) (ad f) ∧ ((∃ d, p.fs f = some d ∧ d.bk = .pl) ∨ (p.fs f = none ∧ ∃ d, p.nv f = some d))
  ins : ∀ c, p.ic c = true → Cls s.K (W.cls c) ∧ PySem.W.findIn s.K (.ref (W.cls c)) "__class__" = some (some (.builtin "object.__class__")) ∧ PySem.W.specialIn s.K (.builtin "object.__class__") "__get__" = some (some (.builtin "getset_descriptor.__get__")) ∧
    PySem.W.takesIn s.K (.builtin "object.__class__") = some true ∧ PySem.W.mroIn s.K (W.cls c) (.type "object") = some true
  kit : ∀ c, p.ic c = true → PySem.W.kitOne s.K (.type "NoneType") (.ref (W.cls c)) = some false ∧ ∀ b : BTy, PySem.W.kitOne s.K (.type b.nm) (.ref (W.cls c)) = some false ∧ PySem.W.kitOne s.K (.ref (W.cls c)) (.type b.nm) = some false
  kit2 : ∀ c c', p.ic c = true → p.ic c' = true → PySem.W.kitOne s.K (.ref (W.cls c)) (.ref (W.cls c')) = some (c == c')
  gfn : ∀ x f np, G.lookup x = some (.fn f np) → s.mg x = some (.ref (ad f)) ∧ PySem.W.keepIn s.K (.ref (ad f)) = true ∧ ((∃ d, p.fs f = some d ∧ d.np = np ∧ d.bk = .pl) ∨ (p.fs f = none ∧ ∃ F, p.nv f = some (np, F)))
  gtw : ∀ x f g np, G.lookup x = some (.two f g np) → s.mg x = some (.ref (ad f)) ∧ ad g = ad f ∧ PySem.W.keepIn s.K (.ref (ad f)) = true ∧ (∃ d, p.fs f = some d ∧ d.np = np ∧ d.bk = .pl) ∧ ∃ d, p.fs g = some d ∧ d.np = np ∧ d.bk = .pl
  gcl : ∀ x c f np, G.lookup x = some (.cls c f np) → s.mg x = some (.ref (W.cls c)) ∧ Mk s.K (W.cls c) (ad f) ∧ ∃ d, p.fs f = some d ∧ d.np = np + 1 ∧ d.bk = .pl
  gfk : ∀ x f np ks dfl, G.lookup x = some (.fnk f np ks dfl) → s.mg x = some (.ref (ad f)) ∧ PySem.W.keepIn s.K (.ref (ad f)) = true ∧ ∃ d, p.fs f = some d ∧ d.np = np ∧ d.bk = .kw ks dfl
  gint : ∀ x i, G.lookup x = some (.int i) → ∃ t, s.mg x = some (.int i t)
  gstr : ∀ x l, G.lookup x = some (.str l) → ∃ t, s.mg x = some (.str ⟨l.toArray⟩ t)
  gbn : ∀ x, G.lookup x = some .bn → s.mg x = none
  ggn : ∀ x f np, G.lookup x = some (.gen f np) → s.mg x = some (.ref (ad f)) ∧ PySem.W.keepIn s.K (.ref (ad f)) = true ∧ p.fs f = none ∧ p.nv f = none ∧ ∃ g, p.gs f = some g ∧ g.np = np
  gen_ : ∀ f g, p.gs f = some g → GenI W s G mnm g (ad f)
  def_ : ∀ f d, p.fs f = some d → DefI W s G mnm d (ad f)
  lam : ∀ f d, p.fs f = some d → d.lam = true → ∀ (fd : FuncData) (oc : Value) (od : Option Addr) (osl : Array (Option Value)), s.K.lookup (ad f) = some ⟨oc, od, .func fd, osl⟩ → ∃ c P, fd.code = .ref c ∧ LamX.TabB s.base s.mg c P ∧ (P, (fd.qualname ++ ".<locals>.") ++ "<lambda>") ∈ W.tbs ∧ ∀ p ∈ W.tbs, p.1 = P → p.2 = (fd.qualname ++ ".<locals>.") ++ "<lambda>"
  nat : ∀ f np F, p.fs f = none → p.nv f = some (np, F) → ∀ n, (∀ g d, p.fs g = some d → FnT W s (2 * n) (ad g) d.np d.bk ((tabN p n).fn g)) → (∀ g np F, p.fs g = none → p.nv g = some (np, F) → FnT W s (2 * n) (ad g) np .pl ((tabN p n).fn g)) → FnT W s (2 * (n + 1)) (ad f) np .pl (F (tabN p n))
  nat0 : ∀ f np F, p.fs f = none → p.nv f = some (np, F) → ∃ (fd : FuncData) (ps : List Str), ps.length = np ∧ Binds s.K fd ps []
theorem fnT_never {s : Site} {k : Nat} {a : Addr} {np : Nat} {bk : BK} {F : Spc} (hF : ∀ ds S, F ds S = none) (h : ∃ (fd : FuncData) (ps : List Str), ps.length = np ∧ BindOk W s.K fd ps bk) : FnT W s k a np bk F := by
  obtain ⟨fd, ps, h1, h2⟩ := h
  refine ⟨fd, ps, h1, h2, ⟨?_, ?_⟩⟩
  · rintro vs H Q E ⟨B, μ, S, ds, d, S', r, hd, e, q⟩
    rw [hF] at e; cases e
  · rintro A outer s H args us vs Q E _ _ _ _ ⟨B, μ, S, ds, d, S', r, hd, e, q⟩
    rw [hF] at e; cases e
theorem FnT.congr {s : Site} {k : Nat} {a : Addr} {np : Nat} {bk : BK} {F F' : Spc} (h : FnT W s k a np bk F) (e : ∀ ds S x, F' ds S = some x → F ds S = some x) : FnT W s k a np bk F' := by
  obtain ⟨fd, ps, h1, h2, h3⟩ := h
  exact ⟨fd, ps, h1, h2, h3.imp fun vs H Q E ⟨B, μ, S, ds, d, S', r, hd, e', q⟩ => ⟨B, μ, S, ds, d, S', r, hd, e _ _ _ e', q⟩⟩
theorem cxOk_of {s : Site} {p : Prog} {G : List (Str × GK)} {ad : Nat → Addr} (st : Stat W s p mnm G ad) {n : Nat} (all : ∀ g d, p.fs g = some d → FnT W s (2 * n) (ad g) d.np d.bk ((tabN p n).fn g)) (alv : ∀ g np F, p.fs g = none → p.nv g = some (np, F) → FnT W s (2 * n) (ad g) np .pl ((tabN p n).fn g)) (agn : ∀ f g, p.fs f = none → p.nv f = none → p.gs f = some g → GnT W s (2 * n) (ad f) g.np ((tabN p n).fn f))
    {X : Cx} {N : List Str} {scope : Scope} {lm : Bool} (h1 : X.prog = s.P) (h2 : X.w = s.w) (h3 : X.K = s.K) (h4 : X.mg = s.mg) (h5 : X.base = s.base) (h6 : X.N = N) (h7 : X.env.scope = scope) (h8 : ∀ x, X.fn x = true) (h9 : N.Nodup) (h10 : X.calm = true) (h11 : Room (2 * n + 1) X.A) (h12 : X.xe = fun _ _ => False) (h13 : lm = true → LamC W X) :
    CxOk ⟨N, scope, none, G, lm⟩ W (tabN p n) mnm (2 * n) X := by
  have tk : (tabN p n).ck = p.ck ∧ (tabN p n).fl = p.fl ∧ (tabN p n).ic = p.ic ∧ (tabN p n).mt = p.mt := by cases n <;> (rw [tabN]; exact ⟨rfl, rfl, rfl, rfl⟩)
  have fx : ∀ {a np F}, FnT W s (2 * n) a np .pl F → FnS W (2 * n) X a np F := by
    rintro a np F ⟨fd, ps, e1, e2, e3⟩
    exact ⟨fd, ps, e1, by rw [h3]; exact e2, by rw [h1, h2, h3, h4, h5]; exact e3⟩
  have fb : ∀ {a np bk F}, FnT W s (2 * n) a np bk F → FnB W (2 * n) X a np bk F := by
    rintro a np bk F ⟨fd, ps, e1, e2, e3⟩
    exact ⟨fd, ps, e1, by rw [h3]; exact e2, by rw [h1, h2, h3, h4, h5]; exact e3⟩
  have fg : ∀ {a np F}, GnT W s (2 * n) a np F → GnS W (2 * n) X a np F := by
    rintro a np F (h | ⟨hl, j, fd, ps, e0, e1, e2, e3⟩)
    · exact .inl h
    · exact .inr ⟨hl, j, fd, ps, e0, e1, by rw [h3]; exact e2, by rw [h1, h2, h3, h4, h5]; exact e3⟩
  refine ⟨h6, h7, fun x _ => h8 x, h9, h10, h11, by rw [h3]; exact st.hK, h12, fun x g hg => ?_, ?_, h13⟩
  · cases g with
    | fn f np =>
      obtain ⟨e1, e2, e3⟩ := st.gfn x f np hg
      refine ⟨ad f, by rw [h4]; exact e1, by rw [h3]; exact e2, fx ?_⟩
      rcases e3 with ⟨d, e3, e4, e5⟩ | ⟨e3, F, e4⟩
      · rw [← e4, ← e5]; exact all _ _ e3
      · exact alv _ _ _ e3 e4
    | two f g np =>
      obtain ⟨e1, e2, e3, ⟨d, e4, e5, e6⟩, d', e7, e8, e9⟩ := st.gtw x f g np hg
      have a1 := all _ _ e4
      have a2 := all _ _ e7
      rw [e5, e6] at a1
      rw [e8, e9, e2] at a2
      exact ⟨ad f, by rw [h4]; exact e1, by rw [h3]; exact e3, fx a1, fx a2⟩
    | fnk f np ks dfl =>
      obtain ⟨e1, e2, d, e3, e4, e5⟩ := st.gfk x f np ks dfl hg
      exact ⟨ad f, by rw [h4]; exact e1, by rw [h3]; exact e2, fb (by rw [← e4, ← e5]; exact all _ _ e3)⟩
    | gen f np =>
      obtain ⟨e1, e2, e3, e4, g, e5, e6⟩ := st.ggn x f np hg
      exact ⟨ad f, by rw [h4]; exact e1, by rw [h3]; exact e2, fg (by rw [← e6]; exact agn _ _ e3 e4 e5)⟩
    | cls cc f np =>
      obtain ⟨e1, e2, d, e3, e4, e5⟩ := st.gcl x cc f np hg
      exact ⟨by rw [h4]; exact e1, ad f, by rw [h3]; exact e2, fx (by rw [← e4, ← e5]; exact all _ _ e3)⟩
    | int i => obtain ⟨t, e⟩ := st.gint x i hg; exact ⟨t, by rw [h4]; exact e⟩
    | str l => obtain ⟨t, e⟩ := st.gstr x l hg; exact ⟨t, by rw [h4]; exact e⟩
    | bn => show X.mg x = none; rw [h4]; exact st.gbn x hg
  · refine ⟨st.inj, st.nmf, fun c hc => ?_, fun c f hf => ?_, fun c m f hm => ?_, fun c hc => ?_, fun c hc => ?_, fun c c' hc hc' => ?_⟩
    · rw [h3]; rw [tk.1] at hc; exact st.cls c hc
    · rw [h3]; rw [tk.2.1] at hf; exact st.fld c f hf
    · rw [tk.2.2.2] at hm
      obtain ⟨e1, e2⟩ := st.mth c m f hm
      rcases e2 with ⟨d, e2, e5⟩ | ⟨e2, ⟨np, F⟩, e3⟩
      · exact ⟨ad f, d.np, by rw [h3]; exact e1, fx (by rw [← e5]; exact all _ _ e2)⟩
      · exact ⟨ad f, np, by rw [h3]; exact e1, fx (alv _ _ _ e2 e3)⟩
    · rw [tk.2.2.1] at hc; rw [h3]; exact st.ins c hc
    · rw [tk.2.2.1] at hc; rw [h3]; exact st.kit c hc
    · rw [tk.2.2.1] at hc hc'; rw [h3]; exact st.kit2 c c' hc hc'
theorem def_okI {s : Site} {p : Prog} {G : List (Str × GK)} {ad : Nat → Addr} (st : Stat W s p mnm G ad) {n : Nat} (all : ∀ g d, p.fs g = some d → FnT W s (2 * n) (ad g) d.np d.bk ((tabN p n).fn g)) (alv : ∀ g np F, p.fs g = none → p.nv g = some (np, F) → FnT W s (2 * n) (ad g) np .pl ((tabN p n).fn g)) (agn : ∀ f g, p.fs f = none → p.nv f = none → p.gs f = some g → GnT W s (2 * n) (ad f) g.np ((tabN p n).fn f))
    {f : Nat} {d : FD} (hf : p.fs f = some d) {x qual : Str} {params : Arguments} {body : List Stmt} {scope : Scope} {dvs : List V} {kws : List (Str × V)} {fd : FuncData} {N ps : List Str} (F : FunD s.K x qual params body scope dvs kws (ad f) fd) (SS : FnScope N ps scope) (hps : ps.length = d.np) (hN : N.length = d.nn) (snd : ∀ T k, SndSs ⟨N, scope, none, G, d.lam⟩ W T mnm k body d.body) :
    FnOk s.P s.w s.K s.mg s.base CX0 (2 * (n + 1)) (ad f) fd ps (spS W (fun ds S => if d.mode = 1 then none else runF (tabN p n) d ds S)) := by
  obtain ⟨oc, od, dV, kV, doc, pm, an, cdv, ct, osl, rfl, lk, hcd, hD, hKw⟩ := F.ex
  have hlen : ∀ ds S r, (if d.mode = 1 then none else runF (tabN p n) d ds S) = some r → ds.length = d.np := by
    intro ds S r e
    split at e
    · cases e
    · rename_i hm
      unfold runF at e
      split at e
      · split at e
        · split at e
          · rename_i x1 S1 e1
            unfold runB at e1
            split at e1
            · assumption
            · cases e1
          · cases e
        · cases e
      · rename_i q; exact absurd q hm
      · unfold runB at e
        split at e
        · assumption
        · cases e
  refine fn_of (k := 2 * n + 1) lk hcd SS ?_ ?_
  · rintro vs H Q E ⟨B, μ, S, ds, dd, S', r, hd, e, q⟩
    rw [← hd.length, hps]
    exact hlen _ _ _ e
  · rintro A outer sh H vs Q E hr ⟨B, μ, S, ds, dd, S', r, hd, e, q⟩
    have snd' := snd (tabN p n) (2 * n) (cxOf CX0 s.P s.w s.K s.mg s.base N qual scope (ad f) cdv A outer sh H E).nox (cxOk_of st all alv agn rfl rfl rfl rfl rfl rfl rfl (fun _ => rfl) SS.nd rfl hr rfl (fun hl => st.lam f d hf hl _ _ _ _ lk))
    refine ⟨_, snd'.nox, ?_⟩
    split at e
    · cases e
    · rename_i hm
      unfold runF at e
      split at e
      · dsimp only at e
        split at e
        · rename_i hp
          split at e
          · rename_i d1 S1 e1
            split at e
            · rename_i e2 ef
              cases e
              have r0 := r.empty
              refine body_ok (ev := fun _ _ => none) hN r0 (denL_pure ds vs hp hd) e1 fun B1 μ1 H1 v s1 r1 hv => ?_
              obtain ⟨s2, r2⟩ := pure_back r (Ex.refl _) (fun a ha => by simp at ha) s1 r1
              exact q _ _ _ v s2 r2 (den_nil (frz_ok r1 hv ef))
            · cases e
          · cases e
        · cases e
      · rename_i q'; exact absurd q' hm
      · exact body_ok (ev := fun _ _ => none) hN r hd e q
theorem def_ok {s : Site} {p : Prog} {G : List (Str × GK)} {ad : Nat → Addr} (st : Stat W s p mnm G ad) {n : Nat} (all : ∀ g d, p.fs g = some d → FnT W s (2 * n) (ad g) d.np d.bk ((tabN p n).fn g)) (alv : ∀ g np F, p.fs g = none → p.nv g = some (np, F) → FnT W s (2 * n) (ad g) np .pl ((tabN p n).fn g)) (agn : ∀ f g, p.fs f = none → p.nv f = none → p.gs f = some g → GnT W s (2 * n) (ad f) g.np ((tabN p n).fn f))
    {f : Nat} {d : FD} (hf : p.fs f = some d) : FnT W s (2 * (n + 1)) (ad f) d.np d.bk (fun ds S => if d.mode = 1 then none else runF (tabN p n) d ds S) := by
  obtain ⟨x, qual, params, body, scope, dvs, kws, fd, N, ps, F, SS, hb, hps, hN, snd⟩ := (st.def_ f d hf).ex
  exact ⟨_, ps, hps, hb, def_okI st all alv agn hf F SS hps hN snd⟩
theorem gen_ok {s : Site} {p : Prog} {G : List (Str × GK)} {ad : Nat → Addr} (st : Stat W s p mnm G ad) {n : Nat} (all : ∀ g d, p.fs g = some d → FnT W s (2 * n) (ad g) d.np d.bk ((tabN p n).fn g)) (alv : ∀ g np F, p.fs g = none → p.nv g = some (np, F) → FnT W s (2 * n) (ad g) np .pl ((tabN p n).fn g)) (agn : ∀ f g, p.fs f = none → p.nv f = none → p.gs f = some g → GnT W s (2 * n) (ad f) g.np ((tabN p n).fn f))
    {f : Nat} {g : GD} (hf : p.gs f = some g) : GnT W s (2 * (n + 2)) (ad f) g.np (genF (tabN p n) g) := by
  obtain ⟨x, qual, params, body, scope, dvs, kws, fd, N, ps, F, SS, hb, hps, hN, snd⟩ := (st.gen_ f g hf).ex
  obtain ⟨oc, od, dV, kV, doc, pm, an, cdv, ct, osl, rfl, lk, hcd, hD, hKw⟩ := F.ex
  refine .inr ⟨fun ds S d S' e => ?_, 2 * n + 2, _, ps, by omega, hps, hb, ?_⟩
  · unfold genF at e
    split at e
    · split at e
      · split at e
        · split at e
          · cases e; exact ⟨_, rfl⟩
          · cases e
        · cases e
      · cases e
    · cases e
  refine gfn_of (k := 2 * n + 1) lk hcd SS ?_ ?_
  · rintro vs H Q E ⟨B, μ, S, ds, ys, S', r, hd, e, q⟩
    rw [← hd.length, hps]
    unfold genF at e
    split at e
    · rename_i hh
      rw [Bool.and_eq_true] at hh
      exact of_decide_eq_true hh.2
    · cases e
  · rintro A outer sh H vs Q E pn hr ⟨B, μ, S, ds, ys, S', r, hd, e, q⟩
    unfold genF at e
    split at e
    · rename_i hh
      rw [Bool.and_eq_true] at hh
      split at e
      · rename_i ys0 S5 eb
        split at e
        · rename_i hz
          split at e
          · rename_i zs ez
            cases e
            have snd' := snd (tabN p n) (2 * n) (gcxOf s.P s.w s.K s.mg s.base N qual scope (ad f) cdv A outer sh H E pn) (cxOk_of st all alv agn rfl rfl rfl rfl rfl rfl rfl (fun _ => rfl) SS.nd rfl hr rfl (fun h => by cases h)) owns_gcx SS.co (by simp [interactive, gcxOf, cxOf, PyProof.Rows.envOfC, SS.kind])
            refine ⟨_, snd', ?_⟩
            unfold genB at eb
            split at eb
            · rename_i env1 S1 e1
              split at eb
              · rename_i ds2 S2 e2
                split at eb
                · rename_i sr e3
                  have r0 := r.empty
                  refine ⟨_, [], B, [], env1, S1, ds2, S2, sr, ys0, S5, r0, EnvOk.start (denL_pure ds vs hh.1 hd) hN, e1, e2, e3, eb, rfl, of_decide_eq_true hz, fun B1 μ1 H1 out σ1 s1 r1 dl => ?_⟩
                  obtain ⟨s2, r2⟩ := pure_back r (Ex.refl _) (fun a ha => by simp at ha) s1 r1
                  exact q _ _ _ out s2 r2 (denL_nil (frzL_den r1 dl ez))
                · cases eb
              · cases eb
            · cases eb
          · cases e
        · cases e
      · cases e
    · cases e
/-- no def of the second kind -/
def NoOne (p : Prog) : Prop := ∀ f d, p.fs f = some d → d.mode ≠ 1
def AllOk (W : WP) (s : Site) (p : Prog) (ad : Nat → Addr) (n : Nat) : Prop := (∀ g d, p.fs g = some d → FnT W s (2 * n) (ad g) d.np d.bk ((tabN p n).fn g)) ∧ (∀ g np F, p.fs g = none → p.nv g = some (np, F) → FnT W s (2 * n) (ad g) np .pl ((tabN p n).fn g)) ∧
  ∀ f g, p.fs f = none → p.nv f = none → p.gs f = some g → GnT W s (2 * n) (ad f) g.np ((tabN p n).fn f)
theorem ok_zero {s : Site} {p : Prog} {G : List (Str × GK)} {ad : Nat → Addr} (st : Stat W s p mnm G ad) : AllOk W s p ad 0 := by
  refine ⟨fun g d h => fnT_never (fun _ _ => rfl) ?_, fun g np F h h2 => fnT_never (fun _ _ => rfl) (st.nat0 g np F h h2), fun f g h h2 h3 => .inl fun _ _ => rfl⟩
  obtain ⟨x, qual, params, body, scope, dvs, kws, fd, N, ps, F, SS, hb, hps, hN, snd⟩ := (st.def_ g d h).ex
  exact ⟨fd, ps, hps, hb⟩
theorem ok_next {s : Site} {p : Prog} {G : List (Str × GK)} {ad : Nat → Addr} (st : Stat W s p mnm G ad) (no : NoOne p) {n : Nat} (a : AllOk W s p ad n) (b : n = 0 ∨ ∃ m, n = m + 1 ∧ AllOk W s p ad m) : AllOk W s p ad (n + 1) := by
  obtain ⟨all, alv, agn⟩ := a
  refine ⟨fun g d h => (def_ok st all alv agn h).congr fun ds S x e => ?_, fun g np F h h2 => (st.nat g np F h h2 n all alv).congr fun ds S x e => ?_, fun f g h h2 h3 => ?_⟩
  · rw [if_neg (no g d h)]
    simp only [tabN, h] at e
    exact e
  · simp only [tabN, h, h2] at e
    split at e
    · exact e
    · cases e
  · rcases b with rfl | ⟨m, rfl, a1, a2, a3⟩
    · refine .inl fun ds S => ?_
      simp only [tabN, h, h2, h3]
    · have := gen_ok st a1 a2 a3 h3
      have e : (tabN p (m + 1 + 1)).fn f = genF (tabN p m) g := by
        funext ds S
        rw [tabN]
        simp only [h, h2, h3]
      rw [e]
      exact this
theorem all_ok {s : Site} {p : Prog} {G : List (Str × GK)} {ad : Nat → Addr} (st : Stat W s p mnm G ad) (no : NoOne p) : ∀ n, AllOk W s p ad n
  | 0 => ok_zero st
  | 1 => ok_next st no (ok_zero st) (.inl rfl)
  | n + 2 => ok_next st no (all_ok st no (n + 1)) (.inr ⟨n, rfl, all_ok st no n⟩)
/-- the heap but for its tables -/
def noTb (H : Hp) : Hp := fun a => match H a with
  | some (.tbl _) => none
  | o => o
theorem noTb_ex (H : Hp) : Ex (noTb H) H := fun a o h => by
  unfold noTb at h
  split at h
  · cases h
  · exact h
theorem noTb_nt (H : Hp) : ∀ a ps, noTb H a ≠ some (.tbl ps) := fun a ps h => by
  unfold noTb at h
  split at h
  · cases h
  · rename_i q
    exact q _ h
theorem noTb_l {K : PySem.W.Frag} {H : Hp} {a : Addr} {xs : List V} (h : SqL K H a xs) : SqL K (noTb H) a xs := by
  rcases h with (h | ⟨o, h⟩) | h
  · exact .inl (.inl (by unfold noTb; rw [h]))
  · exact .inl (.inr ⟨o, by unfold noTb; rw [h]⟩)
  · exact .inr h
theorem rel_start {H : Hp} (ht : LamX.Tabs W.tbs H) : Rel W (noTb H) [] [] H := ⟨noTb_ex H, rfl, List.nodup_nil, fun i a c h => by simp at h, ht, noTb_nt H⟩
theorem denL_intsX {B : Hp} {μ : List Addr} : ∀ ns : List Int, DenL W B μ (ns.map .int) (ns.map V.int)
  | [] => .nil
  | n :: ns => .cons (.int n) (denL_intsX ns)
theorem sp_law {F : Spc} {H : Hp} {a : Addr} {ns : List Int} {S' : Store} (ht : LamX.Tabs W.tbs H) (hs : SqL W.K H a (ns.map V.int)) (hF : F [.scr (ns.map .int)] [] = some (.bl true, S')) : spS W F [.ref a] H (fun v _ => v = .bl true) fun _ _ _ => False :=
  ⟨noTb H, [], [], _, _, S', rel_start ht, .cons (.scr (noTb_l hs) (denL_intsX ns)) .nil, hF, fun B' μ' H' v _ _ h => by cases h; rfl⟩
theorem tabs_start {T : List (Addr × Str)} {H : Hp} (h : ∀ p ∈ T, H p.1 = some (.tbl #[])) : LamX.Tabs T H := fun p hp => ⟨#[], h p hp, True.intro, fun pos cv hc => by
  have z : codeAmong pos [] = some cv := hc
  simp [codeAmong] at z⟩
end LN

set_option Elab.async false
set_option linter.all false
set_option maxRecDepth 100000
set_option maxHeartbeats 1000000
namespace LN
open PySem L2
variable {W : WP} {B B' : Hp} {μ μ' : List Addr} {S S' : Store} {H H' : Hp} {c : Cn} {T : Tab} {mnm : Nat → Str} {k : Nat} {X : Cx}

/-! ### is, of bools -/
theorem op_isB (ok : CxOk c W T mnm k X) : OpR X (compareOp .Is) (r2 W .isB) := OpR.imp op_isBl (by
  rintro x y H Q ⟨B, μ, S, a, b, d, r, ha, hb, e, q⟩
  simp only [p2] at e
  split at e
  · cases e
    exact ⟨_, _, den_bl ha, den_bl hb, q _ _ _ (Step.refl ..) r (.bl _)⟩
  · cases e)
theorem op_notB (ok : CxOk c W T mnm k X) : OpR X (compareOp .IsNot) (r2 W .notB) := OpR.imp op_notBl (by
  rintro x y H Q ⟨B, μ, S, a, b, d, r, ha, hb, e, q⟩
  simp only [p2] at e
  split at e
  · cases e
    exact ⟨_, _, den_bl ha, den_bl hb, q _ _ _ (Step.refl ..) r (.bl _)⟩
  · cases e)

/-! ### name op= e -/
def r2A (W : WP) (p : P2) : R2 := fun x y H Q => ∃ B μ S a b d, Rel W B μ S H ∧ Den W B μ a x ∧ Den W B μ b y ∧ isIS a = true ∧ p2 p a b S = some d ∧
  ∀ B' H' v, Step B μ H B' μ H' → Rel W B' μ S H' → Den W B' μ d v → Q v H'
theorem snd_aug {x : Str} {i : Nat} {e : Expr} {ie : IE} {op : Operator} {p : P2} {pos' pos : Pos} (hi : c.N[i]? = some x) (hx : locB c x = true) (ho : ∀ X, CxOk c W T mnm k X → OpR X (inplaceOp op) (r2A W p)) (he : SndE c W T mnm k e ie) : SndS c W T mnm k (.AugAssign (.Name x pos') op e pos) (.aug i p ie) := fun X ok =>
  PS.imp (ps_aug (i := i) (by rw [ok.hN]; exact ok.nd) (by rw [ok.hN]; exact hi) (loc_of ok hx).1 (he X ok).1 (ho X ok) (loc_of ok hx).2) (by
  rintro D σ H ⟨env, S, B, μ, o, r, eo, e, q⟩
  simp only [ex] at e
  split at e
  · rename_i x0 hx0
    split at e
    · rename_i y S1 e1
      split at e
      · rename_i his
        split at e
        · rename_i z e2
          cases e
          obtain ⟨v, h1, h2⟩ := eo.2 _ _ hx0
          refine ⟨v, h1, env, S, B, μ, y, S1, r, eo, e1, fun B1 μ1 H1 w s1 r1 d1 => ?_⟩
          refine ⟨B1, μ1, S1, x0, y, z, r1, Den.mono s1.grow s1.p _ _ h2, d1, his, e2, fun B2 H2 u s2 r2 d2 => ?_⟩
          exact q _ _ _ (s1.trans s2) r2 _ (((eo.step s1).step s2).set d2)
        · cases e
      · cases e
    · cases e
  · cases e)
theorem ia_p2 (ok : CxOk c W T mnm k X) : OpR X (inplaceOp .Add) (r2A W .add) ∧ OpR X (inplaceOp .Sub) (r2A W .sub) ∧ OpR X (inplaceOp .Mult) (r2A W .mul) ∧ OpR X (inplaceOp .FloorDiv) (r2A W .fdiv) ∧ OpR X (inplaceOp .Mod) (r2A W .mod) := by
  refine ⟨?_, ?_, ?_, ?_, ?_⟩
  · refine OpR.imp (iop_add.or iop_add_str) ?_
    rintro x y H Q ⟨B, μ, S, a, b, d, r, ha, hb, his, e, q⟩
    simp only [p2] at e
    split at e
    · cases e
      exact .inl ⟨_, _, den_int ha, den_int hb, q _ _ _ (Step.refl ..) r (.int _)⟩
    · split at e
      · rename_i hz
        cases e
        refine .inr ⟨_, _, den_str ha, den_str hb, ?_, ?_⟩
        · have := sz hz
          simpa [Str.length] using this
        · refine q _ _ _ (Step.refl ..) r ?_
          have : ∀ s t : List Nat, (⟨s.toArray⟩ : Str) ++ ⟨t.toArray⟩ = ⟨(s ++ t).toArray⟩ := fun s t => by
            show Str.append _ _ = _
            simp [Str.append]
          rw [this]
          exact .str _
      · cases e
    · cases a <;> first | (cases his; done) | (simp [lstD] at e)
  · refine OpR.imp iop_sub ?_
    rintro x y H Q ⟨B, μ, S, a, b, d, r, ha, hb, his, e, q⟩
    simp only [p2] at e
    split at e
    · cases e
      exact ⟨_, _, den_int ha, den_int hb, q _ _ _ (Step.refl ..) r (.int _)⟩
    · cases e
  · refine OpR.imp iop_mul ?_
    rintro x y H Q ⟨B, μ, S, a, b, d, r, ha, hb, his, e, q⟩
    simp only [p2] at e
    split at e
    · split at e
      · rename_i hc
        cases e
        refine ⟨_, _, den_int ha, den_int hb, ?_, q _ _ _ (Step.refl ..) r (.int _)⟩
        unfold cmulB at hc
        rw [Bool.or_eq_true, decide_eq_true_eq, decide_eq_true_eq] at hc
        exact hc
      · cases e
    · cases e
  · refine OpR.imp iop_fdiv ?_
    rintro x y H Q ⟨B, μ, S, a, b, d, r, ha, hb, his, e, q⟩
    simp only [p2] at e
    split at e
    · split at e
      · rename_i hc
        cases e
        exact ⟨_, _, den_int ha, den_int hb, hc, q _ _ _ (Step.refl ..) r (.int _)⟩
      · cases e
    · cases e
  · refine OpR.imp iop_mod ?_
    rintro x y H Q ⟨B, μ, S, a, b, d, r, ha, hb, his, e, q⟩
    simp only [p2] at e
    split at e
    · split at e
      · rename_i hc
        cases e
        exact ⟨_, _, den_int ha, den_int hb, hc, q _ _ _ (Step.refl ..) r (.int _)⟩
      · cases e
    · cases e
/-! ### a, b = (1, 2): constants, stored in order -/
theorem fm_lt {α β : Type} {f : α → Option β} : ∀ {l : List α}, (l.filterMap f).length ≤ l.length ∧ (l.any (fun a => (f a).isNone) = true → (l.filterMap f).length < l.length)
  | [] => ⟨Nat.le_refl _, fun h => by cases h⟩
  | a :: l => by
    obtain ⟨h1, h2⟩ := fm_lt (f := f) (l := l)
    cases e : f a with
    | none =>
      rw [List.filterMap_cons_none e]
      exact ⟨Nat.le_succ_of_le h1, fun _ => Nat.lt_succ_of_le h1⟩
    | some b =>
      rw [List.filterMap_cons_some e]
      refine ⟨Nat.succ_le_succ h1, fun h => ?_⟩
      rw [List.any_cons, e] at h
      exact Nat.succ_lt_succ (h2 (by simpa using h))
def anyCell (c : Cn) (ts : List Expr) : Bool := ts.any fun e => match e with
  | .Name x _ => !(match c.sc.names.lookup x with | some .local => true | _ => false)
  | .Subscript _ _ _ => true
  | _ => false
def noSwap (c : Cn) (ts vs : List Expr) : Bool := vs.all (foldedForSure 8) || (!(ts.length == 2 || ts.length == 3) || anyCell c ts)
theorem swapN {ts vs : List Expr} {k1 k2 : Nat} {p1 p2 : Pos} (ok : CxOk c W T mnm k X) (h : noSwap c ts vs = true) : swappedStores [.Tuple ts k1 p1] (.Tuple vs k2 p2) X.env = pure none := by
  unfold noSwap at h
  rw [Bool.or_eq_true, Bool.or_eq_true, Bool.not_eq_true'] at h
  unfold swappedStores
  rcases h with h8 | h8 | h8
  · simp only [h8]
    split
    · rfl
    · split
      · rfl
      · simp
  · simp [h8]
  · dsimp only
    split
    · rfl
    · split
      · rfl
      · have key : ∀ (f : Expr → Option Str) (z : Bool), (ts.any fun a => (f a).isNone) = true → ((ts.filterMap f).length != ts.length || z) = true := fun f z h => by
          have := (fm_lt (f := f) (l := ts)).2 h
          have : ((ts.filterMap f).length != ts.length) = true := by rw [bne_iff_ne]; omega
          rw [this]; rfl
        refine if_pos (key _ _ ?_)
        unfold anyCell at h8
        rw [List.any_eq_true] at h8 ⊢
        obtain ⟨e, he, hx⟩ := h8
        refine ⟨e, he, ?_⟩
        split at hx
        · rename_i x p
          have hk : (X.env.kindOf x == some .local) = false := by
            show (X.env.scope.names.lookup x == some .local) = false
            rw [ok.hs]
            revert hx
            cases c.sc.names.lookup x with
            | none => intro _; rfl
            | some kd => cases kd <;> first | (intro h; cases h; done) | (intro _; rfl)
          simp [hk]
        · rfl
        · cases hx
theorem snd_asgT {ts vs : List Expr} {k1 k2 : Nat} {p1 p2 : Pos} {tg : Tg} {ie : IE} {pos : Pos} (h8 : noSwap c ts vs = true) (ht : SndG c W T mnm k (.Tuple ts k1 p1) tg) (he : SndE c W T mnm k (.Tuple vs k2 p2) ie) : SndS c W T mnm k (.Assign [.Tuple ts k1 p1] (.Tuple vs k2 p2) pos) (.asg tg ie) := fun X ok =>
  PS.imp (ps_asg (he X ok).1 (ht.1 X ok) rfl (swapN ok h8) (one_star rfl)) fun D σ H h => run_asg h
end LN

set_option Elab.async false
set_option linter.all false
set_option maxRecDepth 100000
set_option maxHeartbeats 1000000
namespace LN
open PySem L2
variable {W : WP} {B B' : Hp} {μ μ' : List Addr} {S S' : Store} {H H' : Hp} {c : Cn} {T : Tab} {mnm : Nat → Str} {k : Nat} {X : Cx}

/-! ### dict comprehensions -/
def dcG (stp : D → Store → Option (Option (DK × D) × Store)) (s : Src) : Nat → Nat → List DK → List D → Store → Option ((List DK × List D) × Store)
  | 0, _, _, _, _ => none
  | n + 1, k, ks, ys, S => match cur s S with
    | some xs => match xs[k]? with
      | none => some ((ks, ys), S)
      | some x => match stp x S with
        | some (some (j, z), S1) => if ks.length < 100000 then dcG stp s n (k + 1) (putK2 ks ys j z).1 (putK2 ks ys j z).2 S1 else none
        | some (none, S1) => dcG stp s n (k + 1) ks ys S1
        | none => none
    | none => none
theorem dcL_G {stp : D → Store → Option (Option (DK × D) × Store)} {xs : List D} : ∀ (l : List D) (k : Nat) (ks : List DK) (ys : List D) (S : Store), xs.drop k = l → dcG stp (.items xs) (l.length + 1) k ks ys S = dcL stp l ks ys S
  | [], k, ks, ys, S, h => by
    have : xs[k]? = none := List.getElem?_eq_none_iff.mpr (List.drop_eq_nil_iff.mp h)
    simp only [dcL, dcG, cur, this]
  | x :: l, k, ks, ys, S, h => by
    have hx : xs[k]? = some x := by
      have : (xs.drop k)[0]? = some x := by rw [h]; rfl
      rw [List.getElem?_drop] at this
      simpa using this
    have hl : xs.drop (k + 1) = l := by
      have : xs.drop (k + 1) = (xs.drop k).drop 1 := by rw [List.drop_drop, Nat.add_comm]
      rw [this, h]; rfl
    unfold dcG
    simp only [dcL, cur, hx, List.length_cons]
    cases e : stp x S with
    | none => rfl
    | some p => cases p with
      | mk o S1 => cases o with
        | none => exact dcL_G l (k + 1) ks ys S1 hl
        | some jz => cases jz with
          | mk j z =>
            dsimp only
            split
            · exact dcL_G l (k + 1) _ _ S1 hl
            · rfl
theorem dcC_G {stp : D → Store → Option (Option (DK × D) × Store)} {i : Nat} : ∀ (n k : Nat) (ks : List DK) (ys : List D) (S : Store), dcC stp i n k ks ys S = dcG stp (.cell i) n k ks ys S
  | 0, k, _, _, S => rfl
  | n + 1, k, ks, ys, S => by
    simp only [dcC, dcG, cur]
    cases h : S[i]? with
    | none => rfl
    | some c => cases c with
      | lst xs =>
        simp only []
        cases hx : xs[k]? with
        | none => rfl
        | some x =>
          simp only []
          cases e : stp x S with
          | none => rfl
          | some p => cases p with
            | mk o S1 => cases o with
              | none => exact dcC_G n (k + 1) ks ys S1
              | some jz => cases jz with
                | mk j z =>
                  dsimp only
                  split
                  · exact dcC_G n (k + 1) _ _ S1
                  · rfl
      | ins _ _ => rfl
      | dct _ => rfl
theorem dcS_G {stp : D → Store → Option (Option (DK × D) × Store)} {s : Src} {S : Store} {r : (List DK × List D) × Store} (e : dcS stp s S = some r) : ∃ n, dcG stp s n 0 [] [] S = some r := by
  cases s with
  | items xs => exact ⟨_, by rw [dcL_G xs 0 [] [] S rfl]; exact e⟩
  | cell i =>
    simp only [dcS] at e
    split at e
    · exact ⟨_, by rw [← dcC_G]; exact e⟩
    · cases e
def dcStp (T : Tab) (tg : Tg) (cd : Option IE) (kx vx : IE) (env : DEnv) : D → Store → Option (Option (DK × D) × Store) := fun x S2 => match setT S2 tg x env with
  | some env2 => match evC T cd env2 S2 with
    | some (true, S3) => match evE T kx env2 S3 with
      | some (y, S4) => match evE T vx env2 S4 with
        | some (z, S5) => match keyD y with
          | some j => some (some (j, z), S5)
          | none => none
        | none => none
      | none => none
    | some (false, S3) => some (none, S3)
    | none => none
  | none => none
theorem run_dc {vs : List Nat} {tg : Tg} {kd : Nat} {it : List IE} {cd : Option IE} {kx vx : IE} {σ : L2.St} {H : Hp} {Q : VK} (hsl : ∀ j ∈ slots tg, j ∈ vs) (h : tE W (evE T (.dc vs tg kd it cd kx vx)) σ H Q) :
    tDc (tI W kd (evL T it)) (tG W tg) (tC1 W (evC T cd)) (tE W (evE T kx)) (tE W (evE T vx)) vs σ H Q := by
  obtain ⟨env, S, B, μ, d, S', r, eo, ee, q⟩ := h
  simp only [evE] at ee
  split at ee
  · rename_i ds S1 e1
    split at ee
    · rename_i s e2
      split at ee
      · rename_i res S5 e3
        have ee := Option.some.inj ee
        obtain ⟨n0, e4⟩ := dcS_G (stp := dcStp T tg cd kx vx (wipeD env vs)) e3
        refine ⟨env, S, B, μ, ds, S1, s, r, eo, e1, e2, fun B1 μ1 H1 J s1 r1 jo => ?_⟩
        intro D0 hD
        have hB1 : B1 D0 = none := by
          cases q : B1 D0 with
          | none => rfl
          | some x => rw [r1.sub _ _ q] at hD; cases hD
        have hm1 : D0 ∉ μ1 := fun hm => by
          obtain ⟨_, o, eo⟩ := r1.mem hm
          rw [hD] at eo; cases eo
        refine ⟨fun i m Hc => ∃ Bc μc Sc acc ks ys, Rel W Bc μc Sc Hc ∧ Step B1 μ1 H1 Bc μc Hc ∧ Bc D0 = none ∧ D0 ∉ μc ∧ Hc D0 = some (.dK ((ks.map kC).zip acc)) ∧ DenL W Bc μc ys acc ∧ ks.length = ys.length ∧ dcG (dcStp T tg cd kx vx (wipeD env vs)) s m i ks ys Sc = some (res, S5), ⟨n0, B1, μ1, S1, [], [], [], r1.aside hB1 hm1 (fun x e => by rw [hD] at e; cases e), (Step.refl ..).aside hD, hB1, hm1, upd_same, .nil, rfl, e4⟩, ?_⟩
        rintro i m Hc ⟨Bc, μc, Sc, acc, ks, ys, rc, sc, hBc, hmc, hDc, dc, hlen, eg⟩
        cases m with
        | zero => cases eg
        | succ m =>
          simp only [dcG] at eg
          split at eg
          · rename_i xs ecur
            have jj := jo Bc μc Sc Hc xs sc.grow sc.p rc ecur i
            split at eg
            · -- the end
              rename_i hx
              cases eg
              refine .inl ⟨jj.2 hx, ?_⟩
              cases ee
              obtain ⟨ν, eν, hν⟩ := sc.pre
              have hp : Pre μc (μc ++ [D0]) := ⟨[D0], rfl⟩
              have hix : (μc ++ [D0])[S5.length]? = some D0 := by rw [← rc.len]; simp
              have rr : Rel W Bc (μc ++ [D0]) (S5 ++ [.dct ks ys]) Hc := by
                refine ⟨rc.sub, by simp [rc.len], ?_, fun j a cc g1 g2 => ?_, rc.tb, rc.nt⟩
                · rw [List.nodup_append]
                  exact ⟨rc.nd, by simp, fun a ha b hb => by simp at hb; subst hb; exact fun e => hmc (e ▸ ha)⟩
                · by_cases hj : j < μc.length
                  · rw [List.getElem?_append_left hj] at g1
                    rw [List.getElem?_append_left (by rw [← rc.len]; exact hj)] at g2
                    obtain ⟨b1, b2⟩ := rc.cell j a cc g1 g2
                    exact ⟨b1, b2.mono (Ex.refl _) hp⟩
                  · have ej : j = μc.length := by
                      have := (List.getElem?_eq_some_iff.mp g1).1
                      simp at this; omega
                    subst ej
                    rw [List.getElem?_append_right (Nat.le_refl _)] at g1
                    rw [rc.len, List.getElem?_append_right (Nat.le_refl _)] at g2
                    simp at g1 g2
                    subst g1 g2
                    exact ⟨hBc, acc, hDc, hlen, DenL.mono (Ex.refl _) hp _ _ dc⟩
              refine q _ _ _ _ (s1.trans ⟨⟨ν ++ [D0], by rw [eν, List.append_assoc], fun a ha => ?_⟩, sc.grow, sc.new, sc.frame, sc.keep⟩) rr (.obj hix)
              rcases List.mem_append.mp ha with ha | ha
              · exact hν a ha
              · simp at ha; subst ha; exact fresh_of hD
            · -- a turn
              rename_i x hx
              have go := jj.1 x hx
              refine .inr ⟨go.1, fun Hn => ∃ m', m' < m + 1 ∧ ∃ Bc μc Sc acc ks ys, Rel W Bc μc Sc Hn ∧ Step B1 μ1 H1 Bc μc Hn ∧ Bc D0 = none ∧ D0 ∉ μc ∧ Hn D0 = some (.dK ((ks.map kC).zip acc)) ∧ DenL W Bc μc ys acc ∧ ks.length = ys.length ∧ dcG (dcStp T tg cd kx vx (wipeD env vs)) s m' (i + 1) ks ys Sc = some (res, S5), fun Hn hn => hn, ?_⟩
              intro v Hy hy
              obtain ⟨By, sy, ry, dy⟩ := go.2 v Hy hy
              have keepD : ∀ {Bz : Hp} {μz : List Addr} {Hz : Hp}, Step Bc μc Hc Bz μz Hz → Bz D0 = none ∧ D0 ∉ μz ∧ Hz D0 = some (.dK ((ks.map kC).zip acc)) := fun {Bz μz Hz} sz => by
                refine ⟨?_, ?_, sz.frame _ _ hDc hmc (fun _ e => by cases e)⟩
                · cases qq : Bz D0 with
                  | none => rfl
                  | some w =>
                    rcases sz.new _ _ qq with h | h
                    · rw [hBc] at h; cases h
                    · exact (h.no (fun _ e => by cases e) hDc).elim
                · obtain ⟨ν, eν, hν⟩ := sz.pre
                  rw [eν]
                  intro hm
                  rcases List.mem_append.mp hm with h | h
                  · exact hmc h
                  · exact (hν _ h).no (fun _ e => by cases e) hDc
              split at eg
              · -- kept
                rename_i j z S4 estp
                split at eg
                · rename_i hsz
                  unfold dcStp at estp
                  split at estp
                  · rename_i env2 eset
                    have eoy := ((eo.step s1).mono sc.grow sc.p).step sy
                    refine ⟨By, μc, Sc, wipeD env vs, x, env2, ry, eoy.wipe vs, dy, eset, fun σ2 eo2 off2 => ⟨wipe_off off2 hsl, ?_⟩⟩
                    split at estp
                    · rename_i S3 ec
                      refine ⟨env2, Sc, By, μc, true, S3, ry, eo2, ec, fun B3 μ3 H3 s3 r3 => ?_⟩
                      refine iteT ?_
                      split at estp
                      · rename_i y S4' ev
                        refine ⟨env2, S3, B3, μ3, y, S4', r3, eo2.step s3, ev, fun B4 μ4 H4 w s4 r4 d4 => ?_⟩
                        split at estp
                        · rename_i z' S5' ez
                          split at estp
                          · rename_i j' ej
                            cases estp
                            refine ⟨env2, S4', B4, μ4, z, S4, r4, (eo2.step s3).step s4, ez, fun B5 μ5 H5 u s5 r5 d5 => ?_⟩
                            have st := ((sy.trans s3).trans s4).trans s5
                            obtain ⟨k1, k2, k3⟩ := keepD st
                            refine ⟨(ks.map kC).zip acc, kC j, kV_of d4 ej, k3, ?_, ?_⟩
                            · rw [List.length_zip, List.length_map]
                              have : ks.length < sizeLine := Nat.lt_of_lt_of_le hsz (by decide)
                              omega
                            · obtain ⟨vs', g1, g2, g3⟩ := putK_ok (W := W) (j := j) d5 hlen (DenL.mono st.grow st.p _ _ dc)
                              exact ⟨m, Nat.lt_succ_self _, B5, μ5, S4, vs', _, _, r5.aside k1 k2 (fun x e => by rw [k3] at e; cases e; trivial), (sc.trans st).aside hD, k1, k2, by rw [upd_same, g1], g2, g3, eg⟩
                          · cases estp
                        · cases estp
                      · cases estp
                    · cases estp
                    · cases estp
                  · cases estp
                · cases eg
              · -- left out
                rename_i S4 estp
                unfold dcStp at estp
                split at estp
                · rename_i env2 eset
                  have eoy := ((eo.step s1).mono sc.grow sc.p).step sy
                  refine ⟨By, μc, Sc, wipeD env vs, x, env2, ry, eoy.wipe vs, dy, eset, fun σ2 eo2 off2 => ⟨wipe_off off2 hsl, ?_⟩⟩
                  split at estp
                  · split at estp
                    · split at estp
                      · split at estp <;> cases estp
                      · cases estp
                    · cases estp
                  · rename_i S3 ec
                    cases estp
                    refine ⟨env2, Sc, By, μc, false, S4, ry, eo2, ec, fun B3 μ3 H3 s3 r3 => ?_⟩
                    refine iteF ?_
                    have st := sy.trans s3
                    obtain ⟨k1, k2, k3⟩ := keepD st
                    exact ⟨m, Nat.lt_succ_self _, B3, μ3, S4, acc, ks, ys, r3, sc.trans st, k1, k2, k3, DenL.mono st.grow st.p _ _ dc, hlen, eg⟩
                  · cases estp
                · cases estp
              · cases eg
          · cases eg
      · cases ee
    · cases ee
  · cases ee
theorem snd_dc {kx vx tg iter : Expr} {ifs : List Expr} {scope : Scope} {own : List (Str × Nat)} {pos : Pos} {itg : Tg} {kd : Nat} {it : List IE} {cd : Option IE} {ik iv : IE} (hb : blkC c.N c.sc scope own = true) (hsl : (slots itg).all (fun j => (own.map (·.2)).contains j) = true)
    (hi : SndI c W T mnm k tg iter kd it) (hg : SndG (blkCn c scope) W T mnm k tg itg) (hc : SndC (blkCn c scope) W T mnm k ifs cd) (hk : SndE (blkCn c scope) W T mnm k kx ik) (he : SndE (blkCn c scope) W T mnm k vx iv) :
    SndE c W T mnm k (.DictComp kx vx [⟨tg, iter, ifs, 0⟩] scope pos) (.dc (own.map (·.2)) itg kd it cd ik iv) := by
  refine snd_of (fun X ok => PE.imp (pe_dc ok.calm (by rw [ok.hN]; exact ok.nd) (hi.1 X ok) (blkOk_by (by rw [ok.hN, ok.hs]; exact hb)) (fun s H C cl fp => hg.1 _ (blk_ok ok)) (fun s H C cl fp => hc _ (blk_ok ok)) (fun s H C cl fp => (hk _ (blk_ok ok)).1) (fun s H C cl fp => (he _ (blk_ok ok)).1) (fold_of hi.2)) fun σ H Q q => run_dc ?_ q) fun _ _ => rfl
  intro j hj
  have := List.all_eq_true.mp hsl j hj
  simpa using this
end LN

set_option Elab.async false
set_option linter.all false
set_option maxRecDepth 100000
set_option maxHeartbeats 1000000
namespace LN
open PySem L2
variable {W : WP} {B B' : Hp} {μ μ' : List Addr} {S S' : Store} {H H' : Hp} {c : Cn} {T : Tab} {mnm : Nat → Str} {k : Nat} {X : Cx}

/-- back from a walk under a lock: at a stood u -/
theorem lock_back {a : Addr} {i : Nat} {B2 H2 : Hp} {μ2 : List Addr} {S2 : Store} {u f : HO} (r : Rel W B μ S H) (hi : μ[i]? = some a) (hu : H a = some u) (hfp : plainO f) (s1 : Step B [] (upd H a f) B2 μ2 H2) (r1 : Rel W B2 μ2 S2 H2) :
    Step B μ H (fz B2 H2 (μ2.drop 0)) μ (upd H2 a u) ∧ Rel W (fz B2 H2 (μ2.drop 0)) μ S (upd H2 a u) := by
  have ham : a ∈ μ := List.mem_of_getElem? hi
  obtain ⟨hBa, _⟩ := r.mem ham
  obtain ⟨ν, e, hν⟩ := s1.pre
  have hm2 : μ2 = ν := by rw [e]; rfl
  have hnu : NoTbl u := by
    obtain ⟨o, e1, e2⟩ := r.memP ham
    rw [hu] at e1; cases e1; exact plain_nt e2
  have back : ∀ b, Fresh (upd H a f) b → Fresh H b := fun b h => fresh_upd (plain_nt hfp) h
  have fr : ∀ b ∈ μ2.drop 0, Fresh H b := fun b h => back b (hν b (by rw [← hm2]; simpa using h))
  have frm : ∀ b o, b ≠ a → NoTbl o → H b = some o → H2 b = some o := fun b o q hn h => s1.frame b o (by rw [upd_ne q]; exact h) (by simp) hn
  have nw : ∀ b o, fz B2 H2 (μ2.drop 0) b = some o → B b = some o ∨ Fresh H b := fun b o h => by
    by_cases q : b ∈ μ2.drop 0
    · exact .inr (fr b q)
    · unfold fz at h
      rw [if_neg q] at h
      rcases s1.new b o h with h | h
      · exact .inl h
      · exact .inr (back b h)
  have fa : fz B2 H2 (μ2.drop 0) a = none := by
    cases q : fz B2 H2 (μ2.drop 0) a with
    | none => rfl
    | some o =>
      rcases nw a o q with h | h
      · rw [hBa] at h; cases h
      · exact (h.no hnu hu).elim
  have gr : Ex B (fz B2 H2 (μ2.drop 0)) := s1.grow.trans (fz_exd r1)
  refine ⟨⟨⟨[], by simp, by simp⟩, gr, nw, fun b o h hb hn => ?_, fun b h => ?_⟩, ⟨fun b o h => ?_, r.len, r.nd, fun j b cc h1 h2 => ?_, tabs_write r1.tb (s1.frame a _ upd_same (by simp) (plain_nt hfp)) hfp, fz_nt r1⟩⟩
  · have ne : b ≠ a := fun q => hb (q ▸ ham)
    rw [upd_ne ne]; exact frm b o ne hn h
  · exact back b (s1.keep b (fresh_upd hnu h))
  · have ne : b ≠ a := fun q => by subst q; rw [fa] at h; cases h
    rw [upd_ne ne]; exact fz_subd r1 b o h
  · obtain ⟨b1, b2⟩ := r.cell j b cc h1 h2
    obtain ⟨o, ho, hpl⟩ := b2.plain
    refine ⟨?_, (b2.mono gr (Pre.refl _)).at fun o' hp' h' => ?_⟩
    · cases q : fz B2 H2 (μ2.drop 0) b with
      | none => rfl
      | some x =>
        rcases nw b x q with h | h
        · rw [b1] at h; cases h
        · exact (h.no (plain_nt hpl) ho).elim
    · by_cases q : b = a
      · subst q; rw [upd_same, ← hu]; exact h'
      · rw [upd_ne q]; exact frm b o' q (plain_nt hp') h'
theorem EnvOk.pureN {env : DEnv} {σ : L2.St} (h : EnvOk W B μ env σ) : EnvOk W B [] (pureN env) σ := by
  unfold LN.pureN
  refine ⟨by simp [h.1], fun i d e => ?_⟩
  rw [List.getElem?_map] at e
  cases q : env[i]? with
  | none => rw [q] at e; cases e
  | some o =>
    rw [q] at e
    cases o with
    | none => cases e
    | some d' =>
      simp only [Option.map_some] at e
      split at e
      · rename_i hp
        cases e
        obtain ⟨v, h1, h2⟩ := h.2 i _ q
        exact ⟨v, h1, den_pure _ _ hp h2⟩
      · cases e
theorem kz_at {ks : List DK} {vs : List V} {i : Nat} (h : ks.length = vs.length) : (∀ j, ks[i]? = some j → ∃ v, ((ks.map kC).zip vs)[i]? = some (kC j, v)) ∧ (∀ q v, ((ks.map kC).zip vs)[i]? = some (q, v) → ∃ j, ks[i]? = some j ∧ q = kC j) := by
  constructor
  · intro j hj
    have hlt : i < vs.length := by rw [← h]; exact (List.getElem?_eq_some_iff.mp hj).1
    refine ⟨vs[i], ?_⟩
    rw [List.getElem?_zip_eq_some]
    exact ⟨by rw [List.getElem?_map, hj]; rfl, List.getElem?_eq_getElem hlt⟩
  · intro q v hq
    rw [List.getElem?_zip_eq_some, List.getElem?_map] at hq
    cases e : ks[i]? with
    | none => rw [e] at hq; cases hq.1
    | some j =>
      rw [e] at hq
      have := hq.1
      simp at this
      exact ⟨j, rfl, this.symm⟩
theorem run_lcd {cell : Bool} {vs : List Nat} {tg : Tg} {j0 : Nat} {cd : Option IE} {e : IE} {σ : L2.St} {H : Hp} {Q : VK} (hsl : ∀ j ∈ slots tg, j ∈ vs) (h : tE W (evE T (.lcd cell vs tg (.var j0) cd e)) σ H Q) :
    tLockE (tLc (iKeys (tVar j0)) (tG W tg) (tC1 W (evC T cd)) (tE W (evE T e)) vs) σ H Q := by
  obtain ⟨env, S, B, μ, d, S', r, eo, ee, q⟩ := h
  simp only [evE] at ee
  split at ee
  · rename_i i0 S1 e1
    split at e1
    · rename_i dj hj
      cases e1
      obtain ⟨v0, hv0, hd0⟩ := eo.2 _ _ hj
      split at ee
      · rename_i ks dxs hS
        obtain ⟨a, rfl, hm, ws, h1, h2, h3⟩ := r.get hd0 hS
        have hlw : ks.length = ws.length := h2.trans h3.length
        split at ee
        · rename_i ys S5 e3
          split at ee
          · rename_i zs ez
            split at ee
            · rename_i hz
              have ee := Option.some.inj ee
              have e4 := lcL_G (stp := lcStp T tg cd e (pureN (wipeD env vs))) (ks.map dkD) 0 [] (ys, S5) rfl e3
              have ham : a ∈ μ := List.mem_of_getElem? hm
              obtain ⟨hBa, _⟩ := r.mem ham
              refine ⟨a, _, h1, trivial, fun od => ?_⟩
              have r1 : Rel W B [] [] (upd H a (.frz od (.dK ((ks.map kC).zip ws)))) := ⟨fun b o hb => by
                have ne : b ≠ a := fun z => by subst z; rw [hBa] at hb; cases hb
                rw [upd_ne ne]; exact r.sub b o hb, rfl, List.nodup_nil, fun i a c h => by simp at h, tabs_write r.tb h1 trivial, r.nt⟩
              refine ⟨_, hv0, a, od, rfl, .inl ⟨_, upd_same, ?_⟩⟩
              intro D0 hD
              have hDa : D0 ≠ a := fun z => by subst z; rw [upd_same] at hD; cases hD
              have hHD : H D0 = none := by rw [upd_ne hDa] at hD; exact hD
              have hB1 : B D0 = none := by
                cases q : B D0 with
                | none => rfl
                | some x => rw [r.sub _ _ q] at hHD; cases hHD
              have eow : EnvOk W B [] (pureN (wipeD env vs)) (L2.wipe σ vs) := (eo.wipe vs).pureN
              refine ⟨fun i m Hc => ∃ Bc μc Sc acc accD rest, Rel W Bc μc Sc Hc ∧ Step B [] (upd H a (.frz od (.dK ((ks.map kC).zip ws)))) Bc μc Hc ∧ Bc D0 = none ∧ D0 ∉ μc ∧ Hc D0 = some (.lst acc) ∧ DenL W Bc μc accD acc ∧ accD ++ rest = ys ∧ lcG (lcStp T tg cd e (pureN (wipeD env vs))) (.items (ks.map dkD)) m i Sc = some (rest, S5), ⟨_, B, [], [], [], [], ys, r1.aside hB1 (by simp) (fun x e => by rw [hD] at e; cases e), (Step.refl ..).aside hD, hB1, by simp, upd_same, .nil, rfl, e4⟩, ?_⟩
              rintro i m Hc ⟨Bc, μc, Sc, acc, accD, rest, rc, sc, hBc, hmc, hDc, dc, erest, eg⟩
              have hfa : Hc a = some (.frz od (.dK ((ks.map kC).zip ws))) := sc.frame _ _ upd_same (by simp) (fun _ e => by cases e)
              cases m with
              | zero => cases eg
              | succ m =>
                simp only [lcG, cur] at eg
                rw [List.getElem?_map] at eg
                cases hk : ks[i]? with
                | none =>
                  rw [hk] at eg
                  simp only [Option.map_none] at eg
                  cases eg
                  have hle : ks.length ≤ i := List.getElem?_eq_none_iff.mp hk
                  refine .inl ⟨⟨hfa, by rw [List.length_zip, List.length_map, hlw, Nat.min_self, ← hlw]; exact hle⟩, hfa, ?_⟩
                  rw [List.append_nil] at erest
                  subst erest
                  obtain ⟨s3, r3⟩ := lock_back (f := .frz od (.dK ((ks.map kC).zip ws))) r hm h1 trivial sc rc
                  have dz := frzL_den rc dc ez
                  have hF : fz Bc Hc (μc.drop 0) D0 = none := by
                    unfold fz
                    rw [if_neg (by simpa using hmc)]
                    exact hBc
                  have hD3 : upd Hc a (.dK ((ks.map kC).zip ws)) D0 = some (.lst acc) := by rw [upd_ne hDa]; exact hDc
                  have hmD : D0 ∉ μ := fun z => by
                    obtain ⟨_, o, eo⟩ := r.mem z
                    rw [hHD] at eo; cases eo
                  cases cell with
                  | false =>
                    cases ee
                    have ex : Ex (fz Bc Hc (μc.drop 0)) (upd (fz Bc Hc (μc.drop 0)) D0 (.lst acc)) := Ex.new hF
                    have rr : Rel W (upd (fz Bc Hc (μc.drop 0)) D0 (.lst acc)) μ S (upd Hc a (.dK ((ks.map kC).zip ws))) := by
                      refine ⟨fun b x hb => ?_, r3.len, r3.nd, fun j b cc g1 g2 => ?_, r3.tb, nt_upd r3.nt (fun _ e => by cases e)⟩
                      · by_cases qa : b = D0
                        · subst qa; rw [upd_same] at hb; cases hb; exact hD3
                        · rw [upd_ne qa] at hb; exact r3.sub b x hb
                      · obtain ⟨b1, b2⟩ := r3.cell j b cc g1 g2
                        have ne : b ≠ D0 := fun qa => hmD (qa ▸ List.mem_of_getElem? g1)
                        exact ⟨by rw [upd_ne ne]; exact b1, b2.mono ex (Pre.refl _)⟩
                    refine q _ _ _ _ ⟨s3.pre, s3.grow.trans ex, fun b x hb => ?_, s3.frame, s3.keep⟩ rr (.lst upd_same (DenL.mono ex ⟨μ, by simp⟩ _ _ dz))
                    by_cases qa : b = D0
                    · subst qa; exact .inr (fresh_of hHD)
                    · rw [upd_ne qa] at hb; exact s3.new b x hb
                  | true =>
                    cases ee
                    have hp : Pre μ (μ ++ [D0]) := ⟨[D0], rfl⟩
                    have hix : (μ ++ [D0])[S.length]? = some D0 := by rw [← r3.len]; simp
                    have rr : Rel W (fz Bc Hc (μc.drop 0)) (μ ++ [D0]) (S ++ [.lst zs]) (upd Hc a (.dK ((ks.map kC).zip ws))) := by
                      refine ⟨r3.sub, by simp [r3.len], ?_, fun j b cc g1 g2 => ?_, r3.tb, r3.nt⟩
                      · rw [List.nodup_append]
                        exact ⟨r3.nd, by simp, fun a ha b hb => by simp at hb; subst hb; exact fun e => hmD (e ▸ ha)⟩
                      · by_cases hj : j < μ.length
                        · rw [List.getElem?_append_left hj] at g1
                          rw [List.getElem?_append_left (by rw [← r3.len]; exact hj)] at g2
                          obtain ⟨b1, b2⟩ := r3.cell j b cc g1 g2
                          exact ⟨b1, b2.mono (Ex.refl _) hp⟩
                        · have ej : j = μ.length := by
                            have := (List.getElem?_eq_some_iff.mp g1).1
                            simp at this; omega
                          subst ej
                          rw [List.getElem?_append_right (Nat.le_refl _)] at g1
                          rw [r3.len, List.getElem?_append_right (Nat.le_refl _)] at g2
                          simp at g1 g2
                          subst g1 g2
                          exact ⟨hF, acc, hD3, DenL.mono (Ex.refl _) ⟨_, (List.nil_append _).symm⟩ _ _ dz⟩
                    refine q _ _ _ _ ⟨⟨[D0], rfl, fun b hb => ?_⟩, s3.grow, s3.new, s3.frame, s3.keep⟩ rr (.obj hix)
                    simp at hb; subst hb; exact fresh_of hHD
                | some jk =>
                  rw [hk] at eg
                  simp only [Option.map_some] at eg
                  have hlt : i < ks.length := (List.getElem?_eq_some_iff.mp hk).1
                  refine .inr ⟨⟨hfa, by rw [List.length_zip, List.length_map, ← hlw, Nat.min_self]; exact hlt⟩, fun Hn => ∃ m', m' < m + 1 ∧ ∃ Bc μc Sc acc accD rest, Rel W Bc μc Sc Hn ∧ Step B [] (upd H a (.frz od (.dK ((ks.map kC).zip ws)))) Bc μc Hn ∧ Bc D0 = none ∧ D0 ∉ μc ∧ Hn D0 = some (.lst acc) ∧ DenL W Bc μc accD acc ∧ accD ++ rest = ys ∧ lcG (lcStp T tg cd e (pureN (wipeD env vs))) (.items (ks.map dkD)) m' (i + 1) Sc = some (rest, S5), fun Hn hn => hn, ?_⟩
                  rintro x Hy ⟨rfl, kq, vq, hq, rfl⟩
                  obtain ⟨jj, hjj, rfl⟩ := (kz_at hlw).2 kq vq hq
                  rw [hk] at hjj
                  cases hjj
                  have keepD : ∀ {Bz : Hp} {μz : List Addr} {Hz : Hp}, Step Bc μc Hy Bz μz Hz → Bz D0 = none ∧ D0 ∉ μz ∧ Hz D0 = some (.lst acc) := fun {Bz μz Hz} sz => by
                    refine ⟨?_, ?_, sz.frame _ _ hDc hmc (fun _ e => by cases e)⟩
                    · cases qq : Bz D0 with
                      | none => rfl
                      | some w =>
                        rcases sz.new _ _ qq with h | h
                        · rw [hBc] at h; cases h
                        · exact (h.no (fun _ e => by cases e) hDc).elim
                    · obtain ⟨ν, eν, hν⟩ := sz.pre
                      rw [eν]
                      intro hm
                      rcases List.mem_append.mp hm with h | h
                      · exact hmc h
                      · exact (hν _ h).no (fun _ e => by cases e) hDc
                  have eoy : EnvOk W Bc μc (pureN (wipeD env vs)) (L2.wipe σ vs) := eow.step sc
                  split at eg
                  · -- kept
                    rename_i y S4 estp
                    split at eg
                    · rename_i rest' S6 eg2
                      have e6 : y :: rest' = rest ∧ S6 = S5 := by cases eg; exact ⟨rfl, rfl⟩
                      obtain ⟨e6, e7⟩ := e6
                      subst e6 e7
                      unfold lcStp at estp
                      split at estp
                      · rename_i env2 eset
                        refine ⟨Bc, μc, Sc, _, _, env2, rc, eoy, den_dk _, eset, fun σ2 eo2 off2 => ⟨wipe_off off2 hsl, ?_⟩⟩
                        split at estp
                        · rename_i S3 ec
                          refine ⟨env2, Sc, Bc, μc, true, S3, rc, eo2, ec, fun B3 μ3 H3 s3 r3 => ?_⟩
                          refine iteT ?_
                          split at estp
                          · rename_i y' S4' ev
                            cases estp
                            refine ⟨env2, S3, B3, μ3, y, S4, r3, eo2.step s3, ev, fun B4 μ4 H4 w s4 r4 d4 => ?_⟩
                            have st := s3.trans s4
                            obtain ⟨k1, k2, k3⟩ := keepD st
                            have dl : accD.length < 100000 := by
                              have : accD.length + (1 + rest'.length) = ys.length := by rw [← erest]; simp; omega
                              have hz := of_decide_eq_true hz
                              omega
                            refine ⟨acc, k3, by rw [← dc.length]; exact Nat.lt_of_lt_of_le dl (by decide), ?_⟩
                            exact ⟨m, Nat.lt_succ_self _, B4, μ4, S4, acc ++ [w], accD ++ [y], rest', r4.aside k1 k2 (fun x e => by rw [k3] at e; cases e; trivial), (sc.trans st).aside hD, k1, k2, upd_same, (DenL.mono st.grow st.p _ _ dc).append (.cons d4 .nil), by simpa using erest, eg2⟩
                          · cases estp
                        · cases estp
                        · cases estp
                      · cases estp
                    · cases eg
                  · -- left out
                    rename_i S4 estp
                    unfold lcStp at estp
                    split at estp
                    · rename_i env2 eset
                      refine ⟨Bc, μc, Sc, _, _, env2, rc, eoy, den_dk _, eset, fun σ2 eo2 off2 => ⟨wipe_off off2 hsl, ?_⟩⟩
                      split at estp
                      · split at estp <;> cases estp
                      · rename_i S3 ec
                        cases estp
                        refine ⟨env2, Sc, Bc, μc, false, S4, rc, eo2, ec, fun B3 μ3 H3 s3 r3 => ?_⟩
                        refine iteF ?_
                        obtain ⟨k1, k2, k3⟩ := keepD s3
                        exact ⟨m, Nat.lt_succ_self _, B3, μ3, S4, acc, accD, rest, r3, sc.trans s3, k1, k2, k3, DenL.mono s3.grow s3.p _ _ dc, erest, eg⟩
                      · cases estp
                    · cases estp
                  · cases eg
            · cases ee
          · cases ee
        · cases ee
      · cases ee
    · cases e1
  · cases ee
theorem snd_lcd {elt tg : Expr} {x : Str} {px : Pos} {j0 : Nat} {ifs : List Expr} {scope : Scope} {own : List (Str × Nat)} {pos : Pos} {itg : Tg} {cd : Option IE} {ie : IE} {cell : Bool} (hb : blkC c.N c.sc scope own = true) (hsl : (slots itg).all (fun j => (own.map (·.2)).contains j) = true)
    (hi : c.N[j0]? = some x) (hv : visB c.sc x = true) (hp : plainN x = true) (hg : SndG (blkCn c scope) W T mnm k tg itg) (hc : SndC (blkCn c scope) W T mnm k ifs cd) (he : SndE (blkCn c scope) W T mnm k elt ie) :
    SndE c W T mnm k (.ListComp elt [⟨tg, .Name x px, ifs, 0⟩] scope pos) (.lcd cell (own.map (·.2)) itg (.var j0) cd ie) := by
  obtain ⟨p1, p2, _⟩ := plainN_of hp
  refine snd_of (fun X ok => PE.imp (pe_lock (pe_lc ok.calm (by rw [ok.hN]; exact ok.nd) (pi_keys (pe_var (i := j0) (by rw [ok.hN]; exact hi) (by rw [ok.hs]; exact vis_of hv) p1 p2)) (blkOk_by (by rw [ok.hN, ok.hs]; exact hb)) (fun s H C cl fp => hg.1 _ (blk_ok ok)) (fun s H C cl fp => hc _ (blk_ok ok)) (fun s H C cl fp => (he _ (blk_ok ok)).1) (fun _ => rfl))) fun σ H Q q => run_lcd ?_ q) fun _ _ => rfl
  intro j hj
  have := List.all_eq_true.mp hsl j hj
  simpa using this
end LN

set_option Elab.async false
set_option linter.all false
set_option maxRecDepth 100000
set_option maxHeartbeats 1000000
namespace LN
open PySem L2
variable {W : WP} {B B' : Hp} {μ μ' : List Addr} {S S' : Store} {H H' : Hp} {c : Cn} {T : Tab} {mnm : Nat → Str} {k : Nat} {X : Cx}

/-! ### calls with defaults, with keywords -/
theorem evL_app {T : Tab} : ∀ {as bs : List IE} {env : DEnv} {S : Store}, evL T (as ++ bs) env S = match evL T as env S with
    | some (ds, S1) => match evL T bs env S1 with
      | some (es, S2) => some (ds ++ es, S2)
      | none => none
    | none => none
  | [], bs, env, S => by
    simp only [evL, List.nil_append]
    cases evL T bs env S with
    | none => rfl
    | some p => rfl
  | a :: as, bs, env, S => by
    simp only [evL, List.cons_append]
    cases evE T a env S with
    | none => rfl
    | some p =>
      dsimp only
      rw [evL_app (as := as)]
      cases evL T as env p.2 with
      | none => rfl
      | some q =>
        dsimp only
        cases evL T bs env q.2 with
        | none => rfl
        | some z => rfl
theorem evL_con {T : Tab} : ∀ {ds : List D} {env : DEnv} {S : Store}, evL T (ds.map .con) env S = some (ds, S)
  | [], _, _ => rfl
  | d :: ds, env, S => by simp only [List.map_cons, evL, evE, evL_con (ds := ds)]
theorem snd_callk {x : Str} {f np : Nat} {ks : List Str} {dfl : List D} {e : Expr} {es : List Expr} {ies : List IE} {p1 pos : Pos} (hg : glB c.sc x = true) (hl : c.G.lookup x = some (.fnk f np ks dfl)) (hp : plainN x = true)
    (ha : SndL c W T mnm k (e :: es) ies) : SndE c W T mnm k (.Call (.Name x p1) (e :: es) [] pos) (.call f (ies ++ dfl.map .con)) := by
  refine snd_of (fun X ok => ?_) fun _ _ => rfl
  obtain ⟨a, hm, hk, fd, ps, hps, ⟨_, ⟨ds0, dvs, hb, hv, hd⟩, _⟩, F⟩ := ok.gl x _ hl
  have hs := ha.2
  rw [List.all_cons, Bool.and_eq_true] at hs
  refine PE.imp (pe_call F ok.r0 (gl_of ok hg) hm hk hb hv pass0 (ha.1 X ok) (plainN_of hp).1 (star_cons hs.1) (star_any hs.2)) ?_
  rintro σ H Q ⟨env, S, B, μ, d, S', r, eo, ee, q⟩
  simp only [evE, evL_app] at ee
  cases e1 : evL T ies env S with
  | none => rw [e1] at ee; cases ee
  | some p =>
    obtain ⟨ds, S1⟩ := p
    rw [e1] at ee
    dsimp only at ee
    rw [evL_con] at ee
    dsimp only at ee
    refine ⟨env, S, B, μ, ds, S1, r, eo, e1, fun B1 μ1 H1 vs s1 r1 d1 => ?_⟩
    exact ⟨B1, μ1, S1, ds ++ dfl, d, S', r1, d1.append (hd _ _), ee, fun B2 μ2 H2 v s2 r2 d2 => q _ _ _ _ (s1.trans s2) r2 d2⟩

/-- f(e, .., kn = v) -/
theorem snd_callkw {x kn : Str} {f np : Nat} {dfl : List D} {e v : Expr} {es : List Expr} {ies : List IE} {iv : IE} {p1 pos kpos : Pos} (hg : glB c.sc x = true) (hl : c.G.lookup x = some (.fnk f np [kn] dfl)) (hp : plainN x = true) (hn : (e :: es).length + 1 = np) (hii : ies.length = (e :: es).length)
    (ha : SndL c W T mnm k (e :: es) ies) (hv : SndE c W T mnm k v iv) : SndE c W T mnm k (.Call (.Name x p1) (e :: es) [⟨some kn, v, kpos⟩] pos) (.call f (ies ++ [iv])) := by
  refine snd_of (fun X ok => ?_) fun _ _ => rfl
  obtain ⟨a, hm, hk, fd, ps, hps, ⟨_, _, g, hb⟩, F⟩ := ok.gl x _ hl
  have hs := ha.2
  rw [List.all_cons, Bool.and_eq_true] at hs
  have h1 : (backTo pos (starEach (e :: es) X.env)).any (·.1) = false := star_any ha.2
  refine PE.imp (pe_callN (ks := [kn]) (n := ps.length - 1) F ok.r0 (gl_of ok hg) hm hk hb pass0 (ha.1 X ok) (pk_cons (hv X ok).1 pk_nil) rfl rfl (plainN_of hp).1 (star_cons hs.1) (by rw [h1]; rfl)) ?_
  rintro σ H Q ⟨env, S, B, μ, d, S', r, eo, ee, q⟩
  simp only [evE, evL_app] at ee
  cases e1 : evL T ies env S with
  | none => rw [e1] at ee; cases ee
  | some p =>
    obtain ⟨ds, S1⟩ := p
    rw [e1] at ee
    simp only [evL] at ee
    cases e2 : evE T iv env S1 with
    | none => rw [e2] at ee; cases ee
    | some p2 =>
      obtain ⟨dv, S2⟩ := p2
      rw [e2] at ee
      dsimp only at ee
      have hlen : ds.length = ies.length := evL_len e1
      refine ⟨env, S, B, μ, ds, S1, r, eo, e1, fun B1 μ1 H1 vs s1 r1 d1 => ?_⟩
      refine ⟨env, S1, B1, μ1, dv, S2, r1, eo.step s1, e2, fun B2 μ2 H2 w s2 r2 d2 => ?_⟩
      refine ⟨?_, rfl, ?_⟩
      · rw [← d1.length, hlen, hii, hps, ← hn]; rfl
      · exact ⟨B2, μ2, S2, ds ++ [dv], d, S', r2, (DenL.mono s2.grow s2.p _ _ d1).append (.cons d2 .nil), ee, fun B3 μ3 H3 u s3 r3 d3 => q _ _ _ _ ((s1.trans s2).trans s3) r3 d3⟩

/-! ### list(f(..)) of a generator def -/
theorem snd_listgen {x : Str} {f np : Nat} {e : Expr} {es : List Expr} {ies : List IE} {cell : Bool} {p0 p1 p2 p3 : Pos} (hgL : glB c.sc "list" = true) (hlL : c.G.lookup ("list" : Str) = some .bn) (hv : bootBuiltins "list" = some (.type "list")) (hg : glB c.sc x = true) (hl : c.G.lookup x = some (.gen f np)) (hp : plainN x = true)
    (ha : SndL c W T mnm k (e :: es) ies) : SndE c W T mnm k (.Call (.Name "list" p0) [.Call (.Name x p1) (e :: es) [] p2] [] p3) (.pb .list cell [.call f ies]) := by
  refine snd_of (fun X ok => ?_) fun _ _ => rfl
  obtain ⟨a, hm, hk, hgen⟩ := ok.gl x _ hl
  have hs := ha.2
  rw [List.all_cons, Bool.and_eq_true] at hs
  rcases hgen with hnone | ⟨hlst, j, fd, ps, hj, hps, hb, F⟩
  · refine ⟨fun pins s σ H Q I h => ?_⟩
    obtain ⟨env, S, B, μ, d, S', r, eo, ee, q⟩ := h
    simp only [evE, evL] at ee
    cases e1 : evL T ies env S with
    | none => rw [e1] at ee; cases ee
    | some p =>
      obtain ⟨ds, S1⟩ := p
      rw [e1] at ee
      dsimp only at ee
      rw [hnone] at ee
      cases ee
  · refine PE.imp (pe_listG (E := fun _ _ _ => False) (pgen_call F (ok.room.mono (by omega)) (gl_of ok hg) hm hk hb .nil (ha.1 X ok) (plainN_of hp).1 (star_cons hs.1) (star_any hs.2)) ?_ (fun _ _ _ h => h.elim) (ok.room.mono hj) (gl_of ok hgL) (ok.gl _ _ hlL) hv (by decide) (by decide) rfl) ?_
    · rintro pins σ H s e' s' I hc
      obtain ⟨_, _, _, _, _, _, _, _, _, _, _, _, hW⟩ := hc
      exact hW.elim
    · rintro σ H Q ⟨env, S, B, μ, d, S', r, eo, ee, q⟩
      simp only [evE, evL] at ee
      cases e1 : evL T ies env S with
      | none => rw [e1] at ee; cases ee
      | some p =>
        obtain ⟨ds, S1⟩ := p
        rw [e1] at ee
        dsimp only at ee
        cases e2 : T.fn f ds S1 with
        | none => rw [e2] at ee; cases ee
        | some p2 =>
          obtain ⟨d2, S2⟩ := p2
          obtain ⟨ys, rfl⟩ := hlst _ _ _ _ e2
          rw [e2] at ee
          dsimp only at ee
          have ee2 : newL cell ys S2 = (d, S') := Option.some.inj ee
          refine ⟨env, S, B, μ, ds, S1, r, eo, e1, fun B1 μ1 H1 vs s1 r1 d1 => ?_⟩
          show spG W (T.fn f) (vs ++ []) H1 _ _
          rw [List.append_nil]
          refine ⟨B1, μ1, S1, ds, ys, S2, r1, d1, e2, fun B2 μ2 H2 out s2 r2 d2 l hl => ?_⟩
          obtain ⟨B3, μ3, s3, r3, d3⟩ := newL_ok r2 cell hl d2
          rw [ee2] at r3 d3
          exact q _ _ _ _ ((s1.trans s2).trans s3) r3 d3
end LN

set_option Elab.async false
set_option linter.all false
set_option maxRecDepth 100000
set_option maxHeartbeats 4000000
namespace LN
open PySem L2

/-! ### the text held against the small language -/
inductive Ok (P : Prop) where
  | no
  | yes (h : P)
def Ok.b {P : Prop} : Ok P → Bool
  | .no => false
  | .yes _ => true
theorem Ok.get {P : Prop} : (o : Ok P) → o.b = true → P
  | .yes h, _ => h
  | .no, h => by cases h
def Ok.of {P : Prop} [d : Decidable P] : Ok P := if h : P then .yes h else .no
def Ok.imp {P Q : Prop} (o : Ok P) (f : P → Q) : Ok Q := match o with
  | .yes h => .yes (f h)
  | .no => .no
def Ok.and {P Q R : Prop} (o : Ok P) (o' : Ok Q) (f : P → Q → R) : Ok R := match o with
  | .yes h => match o' with
    | .yes h' => .yes (f h h')
    | .no => .no
  | .no => .no
theorem ba {a b : Bool} (h : (a && b) = true) : a = true ∧ b = true := by rwa [Bool.and_eq_true] at h
variable {W : WP} {T : Tab} {mnm : Nat → Str} {k : Nat}

def vOp (c : Cn) (W : WP) (T : Tab) (mnm : Nat → Str) (k : Nat) (op : Operator) (p : P2) : Ok (∀ X, CxOk c W T mnm k X → OpR X (binaryOp op) (r2 W p)) := match op, p with
  | .Add, .add => .yes fun X ok => (op_p2 ok).1
  | .Sub, .sub => .yes fun X ok => (op_p2 ok).2.1
  | .Mult, .mul => .yes fun X ok => (op_p2 ok).2.2.1
  | .FloorDiv, .fdiv => .yes fun X ok => (op_p2 ok).2.2.2.1
  | .Mod, .mod => .yes fun X ok => (op_p2 ok).2.2.2.2.1
  | .Pow, .pow => .yes fun X ok => (op_p2 ok).2.2.2.2.2
  | _, _ => .no
def vAg (c : Cn) (W : WP) (T : Tab) (mnm : Nat → Str) (k : Nat) (op : Operator) (p : P2) : Ok (∀ X, CxOk c W T mnm k X → OpR X (inplaceOp op) (r2A W p)) := match op, p with
  | .Add, .add => .yes fun X ok => (ia_p2 ok).1
  | .Sub, .sub => .yes fun X ok => (ia_p2 ok).2.1
  | .Mult, .mul => .yes fun X ok => (ia_p2 ok).2.2.1
  | .FloorDiv, .fdiv => .yes fun X ok => (ia_p2 ok).2.2.2.1
  | .Mod, .mod => .yes fun X ok => (ia_p2 ok).2.2.2.2
  | _, _ => .no
def vCm (c : Cn) (W : WP) (T : Tab) (mnm : Nat → Str) (k : Nat) (op : CmpOp) (p : P2) : Ok (∀ X, CxOk c W T mnm k X → OpR X (compareOp op) (r2 W p)) := match op, p with
  | .Eq, .eq => .yes fun X ok => (op_c2 ok).1
  | .NotEq, .ne => .yes fun X ok => (op_c2 ok).2.1
  | .Lt, .lt => .yes fun X ok => (op_c2 ok).2.2.1
  | .LtE, .le => .yes fun X ok => (op_c2 ok).2.2.2.1
  | .Gt, .gt => .yes fun X ok => (op_c2 ok).2.2.2.2.1
  | .GtE, .ge => .yes fun X ok => (op_c2 ok).2.2.2.2.2.1
  | .Is, .isN => .yes fun X ok => (op_c2 ok).2.2.2.2.2.2.1
  | .IsNot, .notN => .yes fun X ok => (op_c2 ok).2.2.2.2.2.2.2.1
  | .In, .inn => .yes fun X ok => (op_c2 ok).2.2.2.2.2.2.2.2.1
  | .NotIn, .notin => .yes fun X ok => (op_c2 ok).2.2.2.2.2.2.2.2.2
  | .Is, .isB => .yes fun X ok => op_isB ok
  | .IsNot, .notB => .yes fun X ok => op_notB ok
  | _, _ => .no
abbrev VE (W : WP) (T : Tab) (mnm : Nat → Str) (k : Nat) := (c : Cn) → (e : Expr) → (ie : IE) → Ok (SndE c W T mnm k e ie)
section
variable (v : VE W T mnm k) (c : Cn)
def vL : (es : List Expr) → (ies : List IE) → Ok (SndL c W T mnm k es ies)
  | [], [] => .yes sndL_nil
  | e :: es, i :: is => if h : nstar e = true then (v c e i).and (vL es is) fun a b => sndL_cons h a b else .no
  | _, _ => .no
def vP : (es : List Expr) → (st : List Bool) → (ies : List IE) → Ok (SndP c W T mnm k es st ies)
  | [], _, [] => .yes sndP_nil
  | .Starred e p :: es, true :: st, i :: is => (v c e i).and (vP es st is) fun a b => sndP_star a b
  | e :: es, false :: st, i :: is => if h : nstar e = true then (v c e i).and (vP es st is) fun a b => sndP_cons h a b else .no
  | _, _, _ => .no
def vO : (e : Option Expr) → (ie : Option IE) → Ok (SndO c W T mnm k e ie)
  | none, none => .yes sndO_none
  | some e, some i => (v c e i).imp sndO_some
  | _, _ => .no
def vC : (es : List Expr) → (ie : Option IE) → Ok (SndC c W T mnm k es ie)
  | [], none => .yes sndC_nil
  | [e], some i => (v c e i).imp sndC_one
  | _, _ => .no
def vBa : (es : List Expr) → (ie : IE) → Ok (SndB c W T mnm k .And es ie)
  | [a], ia => (v c a ia).imp sndB_and1
  | a :: b :: r, .and ia ib => (v c a ia).and (vBa (b :: r) ib) fun x y => sndB_and x y
  | _, _ => .no
def vBo : (es : List Expr) → (ie : IE) → Ok (SndB c W T mnm k .Or es ie)
  | [a], ia => (v c a ia).imp sndB_or1
  | a :: b :: r, .or ia ib => (v c a ia).and (vBo (b :: r) ib) fun x y => sndB_or x y
  | _, _ => .no
def isBn (x : Str) : Ok (c.G.lookup x = some .bn) := match h : c.G.lookup x with
  | some .bn => .yes rfl
  | _ => .no
end
theorem boot_len : bootBuiltins "len" = some (.builtin "len") := by decide +kernel
theorem boot_max : bootBuiltins "max" = some (.builtin "max") := by decide +kernel
theorem boot_min : bootBuiltins "min" = some (.builtin "min") := by decide +kernel
theorem boot_sum : bootBuiltins "sum" = some (.builtin "sum") := by decide +kernel
theorem boot_all : bootBuiltins "all" = some (.builtin "all") := by decide +kernel
theorem boot_any : bootBuiltins "any" = some (.builtin "any") := by decide +kernel
theorem boot_abs : bootBuiltins "abs" = some (.builtin "abs") := by decide +kernel
theorem boot_sorted : bootBuiltins "sorted" = some (.builtin "sorted") := by decide +kernel
theorem boot_list : bootBuiltins "list" = some (.type "list") := by decide +kernel
theorem boot_tuple : bootBuiltins "tuple" = some (.type "tuple") := by decide +kernel
theorem boot_int : bootBuiltins "int" = some (.type "int") := by decide +kernel
theorem boot_str : bootBuiltins "str" = some (.type "str") := by decide +kernel
theorem boot_bool : bootBuiltins "bool" = some (.type "bool") := by decide +kernel
theorem boot_dict : bootBuiltins "dict" = some (.type "dict") := by decide +kernel
def vPBn (x : Str) (p : PB) : Ok ((∃ id, p.fv = .builtin id ∧ bootBuiltins x = some (.builtin id)) ∨ (∃ id, p.fv = .type id ∧ bootBuiltins x = some (.type id))) := match p with
  | .len => if h : x = "len" then .yes (.inl ⟨_, rfl, h ▸ boot_len⟩) else .no
  | .max => if h : x = "max" then .yes (.inl ⟨_, rfl, h ▸ boot_max⟩) else .no
  | .min => if h : x = "min" then .yes (.inl ⟨_, rfl, h ▸ boot_min⟩) else .no
  | .sum => if h : x = "sum" then .yes (.inl ⟨_, rfl, h ▸ boot_sum⟩) else .no
  | .all => if h : x = "all" then .yes (.inl ⟨_, rfl, h ▸ boot_all⟩) else .no
  | .any => if h : x = "any" then .yes (.inl ⟨_, rfl, h ▸ boot_any⟩) else .no
  | .abs => if h : x = "abs" then .yes (.inl ⟨_, rfl, h ▸ boot_abs⟩) else .no
  | .sorted => if h : x = "sorted" then .yes (.inl ⟨_, rfl, h ▸ boot_sorted⟩) else .no
  | .list => if h : x = "list" then .yes (.inr ⟨_, rfl, h ▸ boot_list⟩) else .no
  | .tuple => if h : x = "tuple" then .yes (.inr ⟨_, rfl, h ▸ boot_tuple⟩) else .no
  | .int => if h : x = "int" then .yes (.inr ⟨_, rfl, h ▸ boot_int⟩) else .no
  | .str => if h : x = "str" then .yes (.inr ⟨_, rfl, h ▸ boot_str⟩) else .no
  | _ => .no
def vBT (x : Str) (b : BTy) : Ok (bootBuiltins x = some (.type b.nm)) := match b with
  | .int => if h : x = "int" then .yes (h ▸ boot_int) else .no
  | .bool => if h : x = "bool" then .yes (h ▸ boot_bool) else .no
  | .str => if h : x = "str" then .yes (h ▸ boot_str) else .no
  | .tup => if h : x = "tuple" then .yes (h ▸ boot_tuple) else .no
  | .lst => if h : x = "list" then .yes (h ▸ boot_list) else .no
  | .dct => if h : x = "dict" then .yes (h ▸ boot_dict) else .no
def vT (c : Cn) (W : WP) (T : Tab) (mnm : Nat → Str) (k : Nat) (e : Expr) (t : TyS) : Ok (SndT c W T mnm k e t) := match e, t with
  | .Name x p, .bt b => if h : (glB c.sc x && plainN x) = true then (isBn c x).and (vBT x b) fun h1 h2 => sndT_bt (ba h).1 h1 (ba h).2 h2 else .no
  | .Name x p, .cls cc => if h : (glB c.sc x && plainN x) = true then match hl : c.G.lookup x with
      | some (.cls c' f np) => if e : c' = cc then .yes (sndT_cls (ba h).1 (e ▸ hl) (ba h).2) else .no
      | _ => .no
    else .no
  | _, _ => .no
def vTs (c : Cn) (W : WP) (T : Tab) (mnm : Nat → Str) (k : Nat) : (es : List Expr) → (ts : List TyS) → Ok (SndTs c W T mnm k es ts)
  | [], [] => .yes sndTs_nil
  | e :: es, t :: ts => (vT c W T mnm k e t).and (vTs c W T mnm k es ts) sndTs_cons
  | _, _ => .no
mutual
def vG (c : Cn) (W : WP) (T : Tab) (mnm : Nat → Str) (k : Nat) (t : Tg) (e : Expr) : Ok (SndG c W T mnm k e t) := match t, e with
  | .nm i, .Name x p => if h : (decide (c.N[i]? = some x) && locB c x) = true then .yes (sndG_nm (of_decide_eq_true (ba h).1) (ba h).2) else .no
  | .tup ts, .Tuple es kk p => (vGs c W T mnm k ts es).imp sndG_tup
  | _, _ => .no
  termination_by structural t
def vGs (c : Cn) (W : WP) (T : Tab) (mnm : Nat → Str) (k : Nat) (ts : List Tg) (es : List Expr) : Ok (SndGs c W T mnm k es ts) := match ts, es with
  | [], [] => .yes sndGs_nil
  | t :: ts, e :: es => (vG c W T mnm k t e).and (vGs c W T mnm k ts es) sndGs_cons
  | _, _ => .no
  termination_by structural ts
end
end LN

set_option Elab.async false
set_option linter.all false
set_option maxRecDepth 100000
set_option maxHeartbeats 1000000
namespace LN
open PySem L2 PyProof.Rows

theorem tup_len {P : Program} {w : World} {A : Around} {E : Value → Shared → Prop} {s : Shared} {env : Env} {nm x : Str} {t : Tok} {mg mb m : Str → Option Value} {p1 p2 p3 p4 p5 : Pos} {kk : Nat}
    (hk : env.scope.kind = .function) (hnm : env.kindOf nm = some .local) (hlen : env.kindOf "len" = some .globalImplicit) (hg : s.heap.Ns env.globals mg) (hm : mg "len" = none) (hb : s.heap.Ns env.builtins mb) (hbb : mb "len" = some (.builtin "len"))
    (hn : s.heap.Ns env.locals m) (hv : m nm = some (.str x t)) (hx : x.length ≤ sizeLine) (hd : (nm == ("__debug__" : Str)) = false) :
    wpAny (model P w) A (eval (.Tuple [.Call (.Name "len" p1) [.Name nm p2] [] p3, .Name nm p4] kk p5) env) (PySem.W.KeyPure (.tuple [.int x.length, .str x]) s) E s := by
  have hl := line63
  have hz : sizeLine = 16777216 := sizeLine_eq
  refine wpAny_Tuple_spliced ?_
  show wpAny _ _ (spliced ((false, eval (.Call (.Name "len" p1) [.Name nm p2] [] p3) env) :: backTo p5 (starEach [.Name nm p4] env))) _ _ s
  refine Calls.spliced_cons ?_
  refine wpAny_Call_Name_kw (Calls.Name_function_global hk hlen (Calls.loadGlobal_builtin hg hm hb hbb ?_) (by decide))
  refine PyProof.Rows.callWith_builtin1 ?_ rfl rfl
  show wpAny _ _ (spliced ((false, eval (.Name nm p2) env) :: backTo p3 (starEach [] env))) _ _ s
  refine Calls.spliced_cons (wpAny_Name (wpAny_loadName_local hk hnm hn hv ?_) hd)
  refine Calls.spliced_nil ?_
  refine len_str (by omega) ?_
  show wpAny _ _ (spliced ((false, eval (.Name nm p4) env) :: backTo p5 (starEach [] env))) _ _ _
  refine Calls.spliced_cons (wpAny_Name (wpAny_loadName_local hk hnm hn hv ?_) hd)
  refine Calls.spliced_nil ⟨by show 2 ≤ sizeLine; decide, ?_⟩
  refine ⟨_, _, rfl, fun b o e => Heap.get?_push_of_some _ e, ?_⟩
  exact .tuple (Heap.get?_push_size _ rfl) rfl rfl (.cons (.int _ _) (.cons (.str _ _) .nil))
/-- lambda nm: (len(nm), nm), called with a text -/
theorem lam_len_key {P : Program} {w : World} {A : Around} {s : Shared} {f c' : Addr} {qual nm x : Str} {t : Tok} {params : Arguments} {scope : Scope} {pm ctv : Value} {mg mb : Str → Option Value} {p1 p2 p3 p4 p5 : Pos} {kk : Nat}
    (hroom : A.depth < recursionLimit) (hf : s.heap.get? f = some (PySem.W.kla_obj "<lambda>" qual params (.Tuple [.Call (.Name "len" p1) [.Name nm p2] [] p3, .Name nm p4] kk p5) scope [] pm c' ctv)) (hrec : s.heap.CodeRec (.ref c') qual) (lim : s.heap.NoLimit)
    (hg : s.heap.Ns mainGlobals mg) (hm : mg "len" = none) (hb : s.heap.Ns builtinsNs mb) (hbb : mb "len" = some (.builtin "len")) (hx : x.length ≤ sizeLine)
    (hk : scope.kind = .function) (hco : scope.isCoroutine = false) (hgen : scope.isGenerator = false) (hcell : ∀ y ∈ scope.names, y.2 ≠ .cell) (hnm : scope.names.lookup nm = some .local) (hlen : scope.names.lookup ("len" : Str) = some .globalImplicit)
    (hbind : ∀ u : Value, bindArgs (PySem.W.kla_fn "<lambda>" qual params (.Tuple [.Call (.Name "len" p1) [.Name nm p2] [] p3, .Name nm p4] kk p5) scope [] pm (.ref c') ctv) ⟨[u], []⟩ = pure [(nm, u)]) (hd : (nm == ("__debug__" : Str)) = false) :
    wpAny (model P w) A (call (.ref f) [.str x t]) (PySem.W.KeyPure (.tuple [.int x.length, .str x]) s) (fun _ _ => False) s := by
  refine wpAny_call (PySem.W.kla_callFunE hroom hf rfl hco hgen rfl hrec ?_)
  rw [hbind]
  refine wpAny_pure (wpAny_newFunctionEnv hcell (fun y hy => ?_) (fun h₁ hns hsb => ⟨lim.fresh _ hsb, ?_⟩) hk)
  · simp at hy; subst hy; exact hnm
  have kp : ∀ b o, s.heap.get? b = some o → h₁.get? b = some o := fun b o e => hsb.extBut b o (Nat.ne_of_lt (Heap.lt_size e)) (Heap.get?_push_of_some _ e)
  refine PySem.W.kla_codeExpr ?_
  refine wpAny_mono (tup_len (t := t) (m := fun y => ([(nm, Value.str x t)] : List (Str × Value)).reverse.lookup y) hk hnm hlen (hg.keeps kp) hm (hb.keeps kp) hbb hns (by
    show List.lookup nm [(nm, Value.str x t)] = _
    simp [List.lookup]) hx hd (E := fun _ _ => False)) ?_ fun _ _ z => z.elim
  rintro v s2 ⟨h2, tk, rfl, k2, rd⟩
  exact ⟨h2, tk, rfl, fun b o e => k2 b o (kp b o e), rd⟩
end LN

set_option Elab.async false
set_option linter.all false
set_option maxRecDepth 100000
set_option maxHeartbeats 1000000
namespace LN
open PySem L2 PyProof.Rows

/-! ### the order of names -/
def kLN (s : List Nat) : PyData := .tuple [.int s.length, .str ⟨s.toArray⟩]
theorem lexN_iff : ∀ {a b : List Nat}, lexN a b = true ↔ a ≤ b
  | [], b => by simp [lexN]
  | x :: a, [] => by simp [lexN]
  | x :: a, y :: b => by
    have ih := lexN_iff (a := a) (b := b)
    unfold lexN
    rw [List.cons_le_cons_iff]
    by_cases h : x < y
    · simp [h]
    · by_cases e : x = y
      · subst e; simp [ih]
      · simp [h, e]
theorem lexN_self (a : List Nat) : lexN a a = true := lexN_iff.mpr (List.le_refl a)
theorem dataLe_LN : PySem.W.dataLe false kLN = leLN := by
  funext p q
  show (!PySem.W.dataLt (kLN q) (kLN p)) = _
  unfold kLN
  rw [PySem.W.dataLt_pair (by simp [PySem.W.alike]) (by simp [PySem.W.alike]), PySem.W.dataLt_int, PySem.W.dataLt_str]
  unfold leLN
  have hs : PyData.eqv (.str ⟨q.toArray⟩) (.str ⟨p.toArray⟩) = decide (q = p) := by
    simp only [PyData.eqv]
    by_cases e : q = p
    · subst e; simp
    · simp [e]
  have hi : PyData.eqv (.int q.length) (.int p.length) = decide (q.length = p.length) := by
    simp only [PyData.eqv]
    by_cases e : q.length = p.length
    · rw [e]; simp
    · simp [e]; omega
  rw [hs, hi]
  by_cases h1 : p.length < q.length
  · have h2 : ¬ q.length = p.length := by omega
    have h3 : ¬ ((q.length : Int) < p.length) := by omega
    simp [h1, h2, h3]
  · by_cases h2 : q.length = p.length
    · have h3 : p.length = q.length := h2.symm
      rw [if_neg h1, if_pos h3, if_pos (by simpa using h2)]
      by_cases e : q = p
      · subst e
        simp [lexN_self]
      · rw [if_neg (by simpa using e)]
        show (!decide (q < p)) = lexN p q
        rw [PySem.W.not_lt_str]
        cases hh : lexN p q with
        | true => simpa using lexN_iff.mp hh
        | false =>
          have : ¬ p ≤ q := fun z => by rw [lexN_iff.mpr z] at hh; cases hh
          simpa using this
    · have h3 : ¬ p.length = q.length := fun z => h2 z.symm
      have h4 : (q.length : Int) < p.length := by omega
      rw [if_neg h1, if_neg h3, if_neg (by simpa using h2)]
      simp [h4]
theorem leLN_total (a b : List Nat) : (leLN a b || leLN b a) = true := by
  unfold leLN
  by_cases h : a.length < b.length
  · simp [h]
  · by_cases h2 : b.length < a.length
    · simp [h2]
    · have e : a.length = b.length := by omega
      rw [if_neg h, if_pos e, if_neg h2, if_pos e.symm]
      rcases List.le_total a b with z | z
      · rw [lexN_iff.mpr z]; rfl
      · rw [lexN_iff.mpr z]; simp
theorem leLN_trans (a b d : List Nat) (h1 : leLN a b = true) (h2 : leLN b d = true) : leLN a d = true := by
  unfold leLN at h1 h2 ⊢
  split at h1
  · split at h2
    · rw [if_pos (by omega)]
    · split at h2
      · rw [if_pos (by omega)]
      · cases h2
  · split at h1
    · split at h2
      · rw [if_pos (by omega)]
      · split at h2
        · rw [if_neg (by omega), if_pos (by omega)]
          exact lexN_iff.mpr (List.le_trans (lexN_iff.mp h1) (lexN_iff.mp h2))
        · cases h2
    · cases h1
theorem leLN_anti {a b : List Nat} (h1 : leLN a b = true) (h2 : leLN b a = true) : a = b := by
  unfold leLN at h1 h2
  split at h1
  · rw [if_neg (by omega), if_neg (by omega)] at h2; cases h2
  · split at h1
    · rename_i e
      rw [if_neg (by omega), if_pos e.symm] at h2
      exact List.le_antisymm (lexN_iff.mp h1) (lexN_iff.mp h2)
    · cases h1
theorem insLN_perm (i : List Nat) : ∀ js, (insLN i js).Perm (i :: js)
  | [] => .refl _
  | j :: js => by
    simp only [insLN]
    split
    · exact .refl _
    · exact ((insLN_perm i js).cons j).trans (List.Perm.swap i j js)
theorem insLN_sorted (i : List Nat) : ∀ {js : List (List Nat)}, js.Pairwise (fun a b => leLN a b = true) → (insLN i js).Pairwise (fun a b => leLN a b = true)
  | [], _ => by simp [insLN]
  | j :: js, h => by
    simp only [insLN]
    rw [List.pairwise_cons] at h
    split
    · rename_i hij
      rw [List.pairwise_cons, List.pairwise_cons]
      refine ⟨fun y hy => ?_, h⟩
      rcases List.mem_cons.mp hy with e | hy
      · subst e; exact hij
      · exact leLN_trans _ _ _ hij (h.1 y hy)
    · rename_i hij
      rw [List.pairwise_cons]
      refine ⟨fun y hy => ?_, insLN_sorted i h.2⟩
      rcases List.mem_cons.mp ((insLN_perm i js).mem_iff.mp hy) with e | hy
      · subst e
        have := leLN_total y j
        rw [Bool.or_eq_true] at this
        rcases this with z | z
        · exact absurd z hij
        · exact z
      · exact h.1 y hy
theorem sortLN_perm : ∀ is, (sortLN is).Perm is
  | [] => .refl _
  | i :: is => (insLN_perm i (sortLN is)).trans ((sortLN_perm is).cons i)
theorem sortLN_sorted : ∀ is, (sortLN is).Pairwise (fun a b => leLN a b = true)
  | [] => .nil
  | i :: is => insLN_sorted i (sortLN_sorted is)
theorem uniqLN : ∀ {a b : List (List Nat)}, a.Perm b → a.Pairwise (fun a b => leLN a b = true) → b.Pairwise (fun a b => leLN a b = true) → a = b
  | [], b, p, _, _ => (List.nil_perm.mp p).symm
  | x :: a, [], p, _, _ => by have := p.length_eq; simp at this
  | x :: a, y :: b, p, ha, hb => by
    rw [List.pairwise_cons] at ha hb
    have e : x = y := by
      have h1 : x ∈ y :: b := p.mem_iff.mp (by simp)
      have h2 : y ∈ x :: a := p.mem_iff.mpr (by simp)
      rcases List.mem_cons.mp h1 with e | h1
      · exact e
      · rcases List.mem_cons.mp h2 with e | h2
        · exact e.symm
        · exact leLN_anti (ha.1 y h2) (hb.1 x h1)
    subst e
    rw [uniqLN (List.Perm.cons_inv p) ha.2 hb.2]
theorem merge_LN (l : List (List Nat)) : l.mergeSort leLN = sortLN l :=
  uniqLN ((List.mergeSort_perm l leLN).trans (sortLN_perm l).symm) (List.pairwise_mergeSort (fun a b c => leLN_trans a b c) (fun a b => leLN_total a b) l) (sortLN_sorted l)
end LN

set_option Elab.async false
set_option linter.all false
set_option maxRecDepth 100000
set_option maxHeartbeats 1000000
namespace LN
open PySem L2 PyProof.Rows
variable {W : WP} {B B' : Hp} {μ μ' : List Addr} {S S' : Store} {H H' : Hp} {c : Cn} {T : Tab} {mnm : Nat → Str} {k : Nat} {X : Cx}

/-- the tables grew, all else stayed -/
theorem ext_step (r : Rel W B μ S H) (e : LamX.ExtN H H') (t : LamX.Tabs W.tbs H') : Step B μ H B μ H' ∧ Rel W B μ S H' := by
  refine ⟨⟨⟨[], by simp, by simp⟩, Ex.refl _, fun _ _ h => .inl h, fun a o h _ hn => e a o h hn, fun a h o hn ho => h o hn (e a o ho hn)⟩, ⟨fun a o h => e a o (r.sub a o h) fun ps q => r.nt a ps (q ▸ h), r.len, r.nd, fun i a cc h1 h2 => ?_, t, r.nt⟩⟩
  obtain ⟨b1, b2⟩ := r.cell i a cc h1 h2
  exact ⟨b1, b2.at fun o hp h => e a o h (plain_nt hp)⟩
theorem strs_of : ∀ {xs : List D} {ss : List (List Nat)} {vs : List V}, strsD xs = some ss → DenL W B μ xs vs → vs = ss.map (fun s => V.str ⟨s.toArray⟩)
  | [], ss, vs, e, h => by simp [strsD] at e; subst e; cases h; rfl
  | .str s :: xs, ss, vs, e, h => by
    simp only [strsD] at e
    cases q : strsD xs with
    | none => rw [q] at e; cases e
    | some ts =>
      rw [q] at e; cases e
      cases h with | cons h1 h2 =>
        cases h1
        rw [strs_of q h2]; rfl
  | .non :: _, _, _, e, _ => by simp [strsD] at e
  | .bl _ :: _, _, _, e, _ => by simp [strsD] at e
  | .int _ :: _, _, _, e, _ => by simp [strsD] at e
  | .tup _ :: _, _, _, e, _ => by simp [strsD] at e
  | .lst _ :: _, _, _, e, _ => by simp [strsD] at e
  | .scr _ :: _, _, _, e, _ => by simp [strsD] at e
  | .ins _ _ _ :: _, _, _, e, _ => by simp [strsD] at e
  | .obj _ :: _, _, _, e, _ => by simp [strsD] at e
theorem denL_strs : ∀ ss : List (List Nat), DenL W B μ (ss.map D.str) (ss.map fun s => V.str ⟨s.toArray⟩)
  | [] => .nil
  | s :: ss => .cons (.str s) (denL_strs ss)
def isS (v : Value) (s : List Nat) : Prop := ∃ t, v = .str ⟨s.toArray⟩ t
theorem vals_strs : ∀ {ss : List (List Nat)} {us : List Value}, Vals (ss.map fun s => V.str ⟨s.toArray⟩) us → PySem.W.EachIs isS us ss
  | [], _, .nil => .nil
  | s :: ss, _, .cons h r => .cons h (vals_strs r)
theorem strs_vals : ∀ {us : List Value} {ss : List (List Nat)}, PySem.W.EachIs isS us ss → Vals (ss.map fun s => V.str ⟨s.toArray⟩) us
  | [], _, .nil => .nil
  | _ :: _, _, .cons h r => .cons h (strs_vals r)
theorem cloFrom_none {cells : List (Str × Addr)} : ∀ {ns : List (Str × NameKind)} {acc : List (Str × Addr)}, (∀ y ∈ ns, y.2 ≠ .free) → cloFrom cells ns acc = acc
  | [], _, _ => rfl
  | (n, kd) :: r, acc, h => by
    unfold cloFrom
    have hk : (kd == NameKind.free) = false := by
      have := h (n, kd) (by simp)
      cases kd <;> first | rfl | exact absurd rfl this
    rw [hk]
    exact cloFrom_none fun y hy => h y (List.mem_cons_of_mem _ hy)
def lamB (scope : Scope) (nm : Str) : Bool := (match scope.kind with | .function => true | _ => false) && (!scope.isCoroutine && (!scope.isGenerator && (scope.names.all (fun y => match y.2 with | .cell => false | .free => false | _ => true) && ((match scope.names.lookup nm with | some .local => true | _ => false) && ((match scope.names.lookup ("len" : Str) with | some .globalImplicit => true | _ => false) && !(nm == ("__debug__" : Str)))))))
abbrev lamArgs (nm : Str) (apos : Pos) : Arguments := ⟨[], [⟨nm, none, apos⟩], none, [], [], none, []⟩
def LamBind (nm : Str) : Prop := ∀ (qual : Str) (apos : Pos) (body : Expr) (scope : Scope) (pm cdv ctv u : Value), bindArgs (PySem.W.kla_fn "<lambda>" qual (lamArgs nm apos) body scope [] pm cdv ctv) ⟨[u], []⟩ = pure [(nm, u)]
theorem bind_name : LamBind "name" := fun _ _ _ _ _ _ _ _ => rfl
theorem bind_law_name : LamBind "_law_name" := fun _ _ _ _ _ _ _ _ => rfl
theorem snd_sortLN {e : Expr} {ie : IE} {nm : Str} {scope : Scope} {cell : Bool} {apos lpos kpos p0 pos p1 p2 p3 p4 p5 : Pos} {kk : Nat} (hlam : c.lam = true) (hg : glB c.sc "sorted" = true) (hl : c.G.lookup ("sorted" : Str) = some .bn) (hlen : c.G.lookup ("len" : Str) = some .bn) (hn : nstar e = true) (hsc : lamB scope nm = true) (hbd : LamBind nm) (he : SndE c W T mnm k e ie) :
    SndE c W T mnm k (.Call (.Name "sorted" p0) [e] [⟨some "key", .Lambda (lamArgs nm apos) (.Tuple [.Call (.Name "len" p1) [.Name nm p2] [] p3, .Name nm p4] kk p5) scope lpos, kpos⟩] pos) (.pb .sortLN cell [ie]) := by
  refine snd_of (fun X ok => ⟨fun pins s σ H Q I h => ?_⟩) fun _ _ => rfl
  obtain ⟨env, S, B, μ, d, S', r, eo, ee, q⟩ := h
  simp only [evE] at ee
  split at ee
  · rename_i ds S1 e1
    -- the pieces
    obtain ⟨cc, P, hcode, TB, hmem, huniq⟩ := ok.lam hlam
    unfold lamB at hsc
    simp only [Bool.and_eq_true, Bool.not_eq_true', List.all_eq_true] at hsc
    obtain ⟨h1, h2, h3, h4, h5, h6, h7⟩ := hsc
    have hk : scope.kind = .function := by revert h1; cases scope.kind <;> first | (intro _; rfl) | (intro h; cases h; done)
    have hnm : scope.names.lookup nm = some .local := by
      revert h5
      cases scope.names.lookup nm with
      | none => intro h; cases h
      | some kd => cases kd <;> first | (intro _; rfl) | (intro h; cases h; done)
    have hln : scope.names.lookup ("len" : Str) = some .globalImplicit := by
      revert h6
      cases scope.names.lookup ("len" : Str) with
      | none => intro h; cases h
      | some kd => cases kd <;> first | (intro _; rfl) | (intro h; cases h; done)
    have hnf : ∀ y ∈ scope.names, y.2 ≠ .free ∧ y.2 ≠ .cell := fun y hy => by
      have := h4 y hy
      cases hy2 : y.2 <;> rw [hy2] at this <;> simp at this ⊢
    have hrec : ∀ {Hn : Hp} {sn : Shared} {c' : Addr}, Inv X pins σ Hn sn → Hn c' = some (LamX.CodeO c' (X.env.qual ++ "<lambda>")) → sn.heap.CodeRec (.ref c') (X.env.qual ++ "<lambda>") := fun {Hn sn c'} In hc => by
      obtain ⟨⟨oc, vs, t, hoc, hdc, hvc⟩, _, _⟩ := In.hok c' _ hc
      exact ⟨c', oc, vs, t, rfl, hoc, hdc, hvc⟩
    refine wpAny_Call_Name_kw (ld_blt I (gl_of ok hg) (ok.gl _ _ hl) boot_sorted ?_ (by decide) (by decide))
    have hst : backTo pos (starEach [e] X.env) = (false, eval e X.env) :: backTo pos (starEach [] X.env) := by rw [star_cons hn]; rfl
    -- the argument
    simp only [evL] at e1
    split at e1
    · rename_i d0 S2 e2
      cases e1
      have key : ∃ xs ss, lstD S1 d0 = some xs ∧ szOk xs.length = true ∧ strsD xs = some ss ∧ ss.all (fun s => szOk s.length) = true ∧ newL cell ((sortLN ss).map .str) S1 = (d, S') := by
        simp only [pb] at ee
        cases hx : lstD S1 d0 with
        | none => rw [hx] at ee; cases ee
        | some xs =>
          rw [hx] at ee
          dsimp only at ee
          cases hz : szOk xs.length with
          | false => rw [hz] at ee; cases ee
          | true =>
            rw [hz] at ee
            cases hss : strsD xs with
            | none => rw [hss] at ee; cases ee
            | some ss =>
              rw [hss] at ee
              dsimp only at ee
              cases hal : ss.all (fun s => szOk s.length) with
              | false => rw [hal] at ee; cases ee
              | true =>
                rw [hal] at ee
                exact ⟨xs, ss, rfl, hz, hss, hal, Option.some.inj ee⟩
      refine PyProof.Rows.callWith_kw (thn ((pa_cons (he X ok).1 pa_nil (star_cons hn)).run pos pins s σ H (fun vs H1 => ∃ B1 μ1 v, vs = [v] ∧ Step B μ H B1 μ1 H1 ∧ Rel W B1 μ1 S1 H1 ∧ Den W B1 μ1 d0 v) I ⟨env, S, B, μ, _, _, r, eo, e2, fun B1 μ1 H1 v s1 r1 d1 => ⟨B1, μ1, v, rfl, s1, r1, d1⟩⟩) fun us s1 h1 => ?_) hst (by rw [hst]; rfl) rfl rfl
      obtain ⟨vs, H1, I1, rv, B1, μ1, v, rfl, st1, r1, d1⟩ := h1
      obtain ⟨u, rfl, ru⟩ := vals1 rv
      show wpAny _ _ (evalAll ((do let v ← eval (.Lambda (lamArgs nm apos) (.Tuple [.Call (.Name "len" p1) [.Name nm p2] [] p3, .Name nm p4] kk p5) scope lpos) X.env; standAt pos; pure v) :: (backToKw pos (keywordEach [] X.env)).map (·.2))) _ _ s1
      have hclo : cloFrom X.env.cells scope.names [] = [] := cloFrom_none fun y hy => (hnf y hy).1
      refine wpAny_evalAll_cons (wpAny_bind (LamX.lam_make2 (T := W.tbs) (c := cc) (P := P) I1 TB hcode hmem huniq r1.tb rfl (fun y hy hf => absurd hf (hnf y hy).1) fun f c' pm ctv H2 s2 I2 ext tabs hf hfn hfr hco => ?_))
      rw [hclo] at hf
      refine wpAny_bind (wpAny_standAt (wpAny_pure ?_))
      refine wpAny_evalAll_nil ?_
      obtain ⟨st2, r2⟩ := ext_step r1 ext tabs
      have d2 := Den.mono st2.grow st2.p _ _ d1
      -- the list
      obtain ⟨xs, ss, hxs, hz, hss, hal, hnew⟩ := key
      obtain ⟨l, ws, rfl, hsq, hden⟩ := lst_ok r2 d2 hxs
      have hws := strs_of hss hden
      subst hws
      cases (show u = Value.ref l from ru)
      obtain ⟨its, rvs, pl, hz2⟩ := I2.list (by rw [ok.hK]; exact SqL.of hsq)
      have hzz : ss.length ≤ sizeLine := by simpa using hz2
      have hun := ok.hu
      refine PySem.W.sorted_key_data (b := false) (bs := ss) (R := isS) kLN pl.isList (vals_strs rvs) (PySem.W.AllAlike.of fun _ _ => by simp [kLN, PySem.W.alike, PySem.W.alikeAll]) (PySem.W.Sortable.tuples fun _ => ⟨_, _, rfl⟩) hzz (fun x _ => ?_) (ksk_s1 _ _) (fun _ => ksk_l1 _ _) (fun _ => ksk_t1 _ _) ?_ ?_
      · have hd : (kLN x).depth = 1 := by simp [kLN, PyData.depth, PyData.depthAll]
        omega
      · rintro v x ⟨t, rfl⟩ hx h tk kp
        have I3 := I2.kept (t' := tk) kp
        obtain ⟨mb, hb1, hb2⟩ := I3.mod.blt
        refine lam_len_key (P := X.prog) (w := X.w) (mg := X.mg) (mb := mb) ?_ (kp _ _ hf) ((hrec I2 hco).keeps kp) I3.nolimit ?_ (ok.gl _ _ hlen) ?_ ((hb2 _ (by decide)).trans boot_len) ?_ hk h2 h3 (fun y hy => (hnf y hy).2) hnm hln (fun u => hbd _ _ _ _ _ _ _ u) h7
        · show X.A.depth < _
          have := ok.room.dp
          omega
        · exact I3.mod.glob.keeps I3.bk
        · exact hb1.keeps I3.bk
        · have := List.all_eq_true.mp hal x hx
          have := sz this
          simpa [Str.length] using this
      · intro out c' h' tk kp hnone hD hlen2 eo
        rw [dataLe_LN, merge_LN] at eo
        have hfr : H2 (s2.heap.objs.size + 1) = none := I2.hok.fresh (Nat.le_succ _)
        obtain ⟨B', μ', s3, r3, d3⟩ := newL_ok r2 cell hfr (denL_strs (W := W) (B := B1) (μ := μ1) (sortLN ss))
        rw [hnew] at r3 d3
        have hnewO : ObjOk X.prog X.w (upd H2 (s2.heap.objs.size + 1) (.lst ((sortLN ss).map fun s => V.str ⟨s.toArray⟩))) h' (s2.heap.objs.size + 1) (.lst ((sortLN ss).map fun s => V.str ⟨s.toArray⟩)) := by
          refine ⟨?_, out, c', strs_vals eo, hD⟩
          rw [List.length_map, (sortLN_perm ss).length_eq]
          exact hzz
        exact ⟨.ref (s2.heap.objs.size + 1), _, I2.laid (t' := tk) kp (Nat.le_succ _) hnewO, rfl, q _ _ _ _ ((st1.trans st2).trans s3) r3 d3⟩
    · cases e1
  · cases ee
end LN

set_option Elab.async false
set_option linter.all false
set_option maxRecDepth 100000
set_option maxHeartbeats 1000000
namespace LN
open PySem L2
variable {W : WP} {B B' : Hp} {μ μ' : List Addr} {S S' : Store} {H H' : Hp} {c : Cn} {T : Tab} {mnm : Nat → Str} {k : Nat} {X : Cx}
/-! ### a def with two readings -/
theorem snd_callT {x : Str} {f g np : Nat} {h : Nat} {e : Expr} {es : List Expr} {ies : List IE} {p1 pos : Pos} (hg : glB c.sc x = true) (hl : c.G.lookup x = some (.two f g np)) (hh : h = f ∨ h = g) (hp : plainN x = true)
    (ha : SndL c W T mnm k (e :: es) ies) : SndE c W T mnm k (.Call (.Name x p1) (e :: es) [] pos) (.call h ies) := by
  refine snd_of (fun X ok => ?_) fun _ _ => rfl
  obtain ⟨a, hm, hk, F1, F2⟩ := ok.gl x _ hl
  have hs := ha.2
  rw [List.all_cons, Bool.and_eq_true] at hs
  rcases hh with rfl | rfl
  · obtain ⟨fd, ps, hps, hb, F⟩ := F1
    exact PE.imp (pe_call F ok.r0 (gl_of ok hg) hm hk hb .nil pass0 (ha.1 X ok) (plainN_of hp).1 (star_cons hs.1) (star_any hs.2)) fun σ H Q q => run_call q
  · obtain ⟨fd, ps, hps, hb, F⟩ := F2
    exact PE.imp (pe_call F ok.r0 (gl_of ok hg) hm hk hb .nil pass0 (ha.1 X ok) (plainN_of hp).1 (star_cons hs.1) (star_any hs.2)) fun σ H Q q => run_call q
/-! ### d[k] of a dict -/
theorem snd_dget {a b : Expr} {ia ib : IE} {pos : Pos} (hn : notSlice b = true) (ha : SndE c W T mnm k a ia) (hb : SndE c W T mnm k b ib) : SndE c W T mnm k (.Subscript a b pos) (.dget ia ib) := by
  refine snd_of (fun X ok => ?_) fun _ _ => rfl
  refine PE.imp (pe_dget (by have := ok.hu; omega) (ha X ok).1 (hb X ok).1 (by intro ov iv; cases b <;> first | rfl | cases hn)) ?_
  rintro σ H Q ⟨env, S, B, μ, d, S', r, eo, ee, q⟩
  simp only [evE] at ee
  split at ee
  · rename_i i S1 e1
    split at ee
    · rename_i y S2 e2
      split at ee
      · rename_i kk ek
        split at ee
        · rename_i ks xs hS
          split at ee
          · rename_i z ez
            cases ee
            refine ⟨env, S, B, μ, _, S1, r, eo, e1, fun B1 μ1 H1 v s1 r1 d1 => ?_⟩
            refine ⟨env, S1, B1, μ1, _, _, r1, eo.step s1, e2, fun B2 μ2 H2 w s2 r2 d2 => ?_⟩
            obtain ⟨a, rfl, hm, vs, h1, h2, h3⟩ := r2.get (Den.mono s2.grow s2.p _ _ d1) hS
            obtain rfl := kV_of d2 ek
            obtain ⟨u, g1, g2⟩ := (getK_val h2 h3).1 _ ez
            exact ⟨a, u, rfl, g1 ▸ DGet.k h1, q _ _ _ _ (s1.trans s2) r2 g2⟩
          · cases ee
        · cases ee
      · cases ee
    · cases ee
  · cases ee
/-! ### {k: v, ..}, keys that are written -/
inductive SndKV (c : Cn) (W : WP) (T : Tab) (mnm : Nat → Str) (k : Nat) : List (Option Expr) → List Expr → List DK → List IE → Prop
  | nil : SndKV c W T mnm k [] [] [] []
  | cons {e v : Expr} {es : List (Option Expr)} {vs : List Expr} {j : DK} {ks : List DK} {a : IE} {as : List IE} (h1 : SndE c W T mnm k e (.con (dkD j))) (h2 : SndE c W T mnm k v a) (h3 : SndKV c W T mnm k es vs ks as) : SndKV c W T mnm k (some e :: es) (v :: vs) (j :: ks) (a :: as)
def trsOf (W : WP) (T : Tab) : List DK → List IE → List (TE × TE)
  | j :: ks, a :: as => (tE W (evE T (.con (dkD j))), tE W (evE T a)) :: trsOf W T ks as
  | _, _ => []
theorem SndKV.pps {pos : Pos} (ok : CxOk c W T mnm k X) : ∀ {es : List (Option Expr)} {vs : List Expr} {ks : List DK} {as : List IE}, SndKV c W T mnm k es vs ks as → PPs X pos es vs (trsOf W T ks as) ∧ es.all (·.isSome) = true ∧ es.length = vs.length ∧ ks.length = as.length
  | _, _, _, _, .nil => ⟨pps_nil, rfl, rfl, rfl⟩
  | _, _, _, _, .cons h1 h2 h3 => by
    obtain ⟨a1, a2, a3, a4⟩ := SndKV.pps (pos := pos) ok h3
    exact ⟨pps_cons (h1 X ok).1 (h2 X ok).1 a1, by simpa using a2, by simp [a3], by simp [a4]⟩
theorem key_dk (j : DK) : keyD (dkD j) = some j := by cases j <;> rfl
theorem run_pairs : ∀ {ks : List DK} {as : List IE}, ks.length = as.length → ∀ {env : DEnv} {S : Store} {B : Hp} {μ : List Addr} {xs : List D} {S' : Store} {σ : L2.St} {H : Hp} {Q : List (V × V) → Hp → Prop}, Rel W B μ S H → EnvOk W B μ env σ → evL T as env S = some (xs, S') →
    (∀ B' μ' H' vs, Step B μ H B' μ' H' → Rel W B' μ' S' H' → DenL W B' μ' xs vs → Q (((ks.map kC).zip vs).map fun kv => (kV kv.1, kv.2)) H') → tPairs (trsOf W T ks as) σ H Q
  | [], [], _, env, S, B, μ, xs, S', σ, H, Q, r, eo, e, q => by
    simp only [evL] at e
    cases e
    exact q _ _ _ [] (Step.refl ..) r .nil
  | j :: ks, a :: as, hl, env, S, B, μ, xs, S', σ, H, Q, r, eo, e, q => by
    simp only [evL] at e
    split at e
    · rename_i d S1 e1
      split at e
      · rename_i ds S2 e2
        cases e
        refine ⟨env, S, B, μ, dkD j, S, r, eo, rfl, fun B1 μ1 H1 x s1 r1 d1 => ?_⟩
        obtain rfl := kV_of d1 (key_dk j)
        refine ⟨env, S, B1, μ1, d, S1, r1, eo.step s1, e1, fun B2 μ2 H2 v s2 r2 d2 => ?_⟩
        refine run_pairs (ks := ks) (by simpa using hl) r2 ((eo.step s1).step s2) e2 fun B3 μ3 H3 vs s3 r3 dl => ?_
        exact q _ _ _ (v :: vs) ((s1.trans s2).trans s3) r3 (.cons (Den.mono s3.grow s3.p _ _ d2) dl)
      · cases e
    · cases e
theorem merge_ok {B : Hp} {μ : List Addr} : ∀ {ks : List DK} {xs : List D} {vs : List V}, ks.length = xs.length → DenL W B μ xs vs → ∀ {ak : List DK} {ad : List D} {av : List V}, ak.length = ad.length → DenL W B μ ad av →
    ∃ vs', mergeK ((ak.map kC).zip av) ((ks.map kC).zip vs) = ((mergeD ks xs (ak, ad)).1.map kC).zip vs' ∧ DenL W B μ (mergeD ks xs (ak, ad)).2 vs' ∧ (mergeD ks xs (ak, ad)).1.length = (mergeD ks xs (ak, ad)).2.length
  | [], [], _, _, h, ak, ad, av, hl, ha => by
    cases h
    exact ⟨av, rfl, ha, hl⟩
  | j :: ks, x :: xs, _, hl, h, ak, ad, av, hl2, ha => by
    cases h with
    | cons hx hr =>
      obtain ⟨vs', g1, g2, g3⟩ := putK_ok (j := j) hx hl2 ha
      obtain ⟨vs'', f1, f2, f3⟩ := merge_ok (ks := ks) (by simpa using hl) hr g3 g2
      refine ⟨vs'', ?_, f2, f3⟩
      show mergeK (putK ((ak.map kC).zip av) (kC j) _) ((ks.map kC).zip _) = _
      rw [g1]
      exact f1
theorem snd_dd {keys : List (Option Expr)} {values : List Expr} {ks : List DK} {as : List IE} {pos : Pos} (h : SndKV c W T mnm k keys values ks as) (h0 : keys ≠ []) (h15 : keys.length ≤ 15) : SndE c W T mnm k (.Dict keys values pos) (.dd ks as) := by
  refine snd_of (fun X ok => ?_) fun _ _ => rfl
  obtain ⟨a1, a2, a3, a4⟩ := h.pps (pos := pos) ok
  refine PE.imp (pe_disp a1 a2 a3 h0 h15) ?_
  rintro σ H Q ⟨env, S, B, μ, d, S', r, eo, ee, q⟩ p hp
  simp only [evE] at ee
  split at ee
  · rename_i xs S1 e1
    split at ee
    · rename_i hc
      cases ee
      rw [Bool.and_eq_true, Bool.and_eq_true, decide_eq_true_eq, decide_eq_true_eq] at hc
      obtain ⟨hc1, hc2, hc3⟩ := hc
      obtain ⟨s1, r1⟩ := r.newc (o := .dK []) (c := .dct [] []) hp ⟨[], by rw [upd_same]; rfl, rfl, .nil⟩
      refine run_pairs a4 r1 (eo.step s1) e1 fun B' μ' H' vs s2 r2 dl => ?_
      have hm : μ'[S.length]? = some p := by
        refine s2.p.at ?_
        rw [← r.len]; simp
      have hS : S1[S.length]? = some (.dct [] []) := by
        revert hc1
        unfold emptyD
        split <;> intro hc1
        · assumption
        · cases hc1
      obtain ⟨_, vs0, h1, _, _⟩ := r2.cell _ _ _ hm hS
      have h1' : H' p = some (.dK []) := h1
      obtain ⟨vs', g1, g2, g3⟩ := merge_ok (ks := ks) hc2 dl (ak := []) (ad := []) rfl .nil
      obtain ⟨s3, r3⟩ := r2.write (o := .dK (mergeK [] ((ks.map kC).zip vs))) (c := .dct (mergeD ks xs ([], [])).1 (mergeD ks xs ([], [])).2) hm ⟨vs', by rw [upd_same]; exact congrArg (fun z => some (HO.dK z)) g1, g3, g2⟩
      refine ⟨h1', _, rfl, ?_, q _ _ _ _ ((s1.trans s2).trans s3) r3 (.obj hm)⟩
      rw [List.length_zip, List.length_map]
      omega
    · cases ee
  · cases ee
/-! ### v[k1], v[k2] = e1, e2 -/
theorem snd_asI2 {o1 o2 i1 i2 ea eb : Expr} {v : Nat} {k1 k2 : DK} {e1 e2 : IE} {q1 q2 pt pt2 pos : Pos} {kt kk : Nat} (h1 : notSlice i1 = true) (h2 : notSlice i2 = true) (ho1 : SndE c W T mnm k o1 (.var v)) (ho2 : SndE c W T mnm k o2 (.var v)) (hi1 : SndE c W T mnm k i1 (.con (dkD k1))) (hi2 : SndE c W T mnm k i2 (.con (dkD k2)))
    (he : SndE c W T mnm k (.Tuple [ea, eb] kk pt2) (.disp .tup [false, false] [e1, e2])) : SndS c W T mnm k (.Assign [.Tuple [.Subscript o1 i1 q1, .Subscript o2 i2 q2] kt pt] (.Tuple [ea, eb] kk pt2) pos) (.asI2 v k1 k2 e1 e2) := fun X ok => by
  refine PS.imp (ps_asg (he X ok).1 (pg_tup ok.calm (pgs_cons (pg_sub (ho1 X ok).1 (hi1 X ok).1 (set_SI ok) (by intro v; cases i1 <;> first | rfl | cases h1)) (pgs_cons (pg_sub (ho2 X ok).1 (hi2 X ok).1 (set_SI ok) (by intro v; cases i2 <;> first | rfl | cases h2)) pgs_nil))) rfl (swapN ok (by simp [noSwap, anyCell])) (one_star rfl)) ?_
  rintro D σ H ⟨env, S, B, μ, ot, r, eo, e, q⟩
  simp only [ex] at e
  split at e
  · rename_i x S1 e1'
    split at e
    · rename_i y S2 e2'
      split at e
      · rename_i d hv
        split at e
        · rename_i S3 e3
          split at e
          · rename_i S4 e4
            cases e
            have hev : ∀ S, evE T (.var v) env S = some (d, S) := fun S => by simp [evE, hv]
            refine ⟨env, S, B, μ, .tup [x, y], S2, r, eo, by simp [evE, evP, e1', e2', szOk], fun B1 μ1 H1 w s1 r1 d1 => ?_⟩
            cases d1 with
            | tup h rl =>
            cases rl with
            | cons dx rl =>
            cases rl with
            | cons dy rl =>
            cases rl
            refine ⟨_, _, rfl, by rw [ok.hK]; exact ex_t r1.sub h, rfl, _, _, rfl, ?_⟩
            have eo1 := eo.step s1
            refine ⟨env, S2, B1, μ1, d, S2, r1, eo1, hev _, fun B2 μ2 H2 z s2 r2 dz => ?_⟩
            refine ⟨env, S2, B2, μ2, dkD k1, S2, r2, eo1.step s2, rfl, fun B3 μ3 H3 z1 s3 r3 dz1 => ?_⟩
            refine ⟨B3, μ3, S2, d, dkD k1, x, S3, r3, Den.mono s3.grow s3.p _ _ dz, dz1, Den.mono s3.grow s3.p _ _ (Den.mono s2.grow s2.p _ _ dx), e3, fun H4 s4 r4 => ?_⟩
            have eo4 := ((eo1.step s2).step s3).step s4
            have dy4 := Den.mono s4.grow s4.p _ _ (Den.mono s3.grow s3.p _ _ (Den.mono s2.grow s2.p _ _ dy))
            refine ⟨_, _, rfl, ?_⟩
            refine ⟨env, S3, _, _, d, S3, r4, eo4, hev _, fun B5 μ5 H5 z5 s5 r5 dz5 => ?_⟩
            refine ⟨env, S3, B5, μ5, dkD k2, S3, r5, eo4.step s5, rfl, fun B6 μ6 H6 z6 s6 r6 dz6 => ?_⟩
            refine ⟨B6, μ6, S3, d, dkD k2, y, S4, r6, Den.mono s6.grow s6.p _ _ dz5, dz6, Den.mono s6.grow s6.p _ _ (Den.mono s5.grow s5.p _ _ dy4), e4, fun H7 s7 r7 => ?_⟩
            exact ⟨rfl, q _ _ _ ((((((s1.trans s2).trans s3).trans s4).trans s5).trans s6).trans s7) r7 σ (((eo4.step s5).step s6).step s7)⟩
          · cases e
        · cases e
      · cases e
    · cases e
  · cases e
end LN

set_option Elab.async false
set_option linter.all false
set_option maxRecDepth 100000
set_option maxHeartbeats 4000000
namespace LN
open PySem L2
variable {W : WP} {T : Tab} {mnm : Nat → Str} {k : Nat}
/-- the names of the fields, of the methods -/
structure Nms (W : WP) (mnm : Nat → Str) (fs ms : List Str) : Prop where
  f : ∀ i x, fs[i]? = some x → W.fnm i = x
  m : ∀ i x, ms[i]? = some x → mnm i = x
section
variable (v : VE W T mnm k) (c : Cn)
def vI (tg e : Expr) (kd : Nat) (it : List IE) : Ok (SndI c W T mnm k tg e kd it) := match kd, it, e with
  | 0, [i], e => if h : notSet e = true then (v c e i).imp fun a => sndI_seq h a else .no
  | 1, [i], .Call (.Name x p) [a] [] pos => if h : (decide (x = "range") && glB c.sc x) = true then (isBn c x).and (vL v c [a] [i]) fun h1 h2 => by
      obtain ⟨h, h'⟩ := ba h
      have h := of_decide_eq_true h
      subst h
      exact sndI_rng1 h' h1 h2
    else .no
  | 1, [i, j], .Call (.Name x p) [a, b] [] pos => if h : (decide (x = "range") && glB c.sc x) = true then (isBn c x).and (vL v c [a, b] [i, j]) fun h1 h2 => by
      obtain ⟨h, h'⟩ := ba h
      have h := of_decide_eq_true h
      subst h
      exact sndI_rng2 h' h1 h2
    else .no
  | 2, [i], .Call (.Name x p) [a] [] pos => match tg with
    | .Tuple elts kk tpos => if h : (decide (x = "enumerate") && glB c.sc x) = true then (isBn c x).and (vL v c [a] [i]) fun h1 h2 => by
        obtain ⟨h, h'⟩ := ba h
        have h := of_decide_eq_true h
        subst h
        exact sndI_enum h' h1 h2
      else .no
    | _ => .no
  | 3, [i, j], .Call (.Name x p) [a, b] [] pos => match tg with
    | .Tuple elts kk tpos => if h : (decide (x = "zip") && glB c.sc x) = true then (isBn c x).and (vL v c [a, b] [i, j]) fun h1 h2 => by
        obtain ⟨h, h'⟩ := ba h
        have h := of_decide_eq_true h
        subst h
        exact sndI_zip h' h1 h2
      else .no
    | _ => .no
  | _, _, _ => .no
def ownOf (N : List Str) (vs : List Nat) : List (Str × Nat) := vs.map fun j => (N.getD j "", j)
theorem ownOf_2 (N : List Str) (vs : List Nat) : (ownOf N vs).map (·.2) = vs := by
  unfold ownOf
  rw [List.map_map]
  induction vs with
  | nil => rfl
  | cons j vs ih => exact congrArg (j :: ·) ih
def vLc (elt : Expr) (gs : List Comprehension) (scope : Scope) (pos : Pos) (cell : Bool) (vs : List Nat) (itg : Tg) (kd : Nat) (it : List IE) (cd : Option IE) (ie : IE) : Ok (SndE c W T mnm k (.ListComp elt gs scope pos) (.lc cell vs itg kd it cd ie)) := match gs with
  | [⟨tg, iter, ifs, 0⟩] => if h : (blkC c.N c.sc scope (ownOf c.N vs) && (slots itg).all (fun j => vs.contains j)) = true then
      (vI v c tg iter kd it).and ((vG (blkCn c scope) W T mnm k itg tg).and ((vC v (blkCn c scope) ifs cd).and (v (blkCn c scope) elt ie) And.intro) And.intro) fun h1 h2 => by
        have := snd_lc (own := ownOf c.N vs) (pos := pos) (cell := cell) (ba h).1 (by rw [ownOf_2]; exact (ba h).2) h1 h2.1 h2.2.1 h2.2.2
        rwa [ownOf_2] at this
    else .no
  | _ => .no
def vLcd (elt : Expr) (gs : List Comprehension) (scope : Scope) (pos : Pos) (cell : Bool) (vs : List Nat) (itg : Tg) (j0 : Nat) (cd : Option IE) (ie : IE) : Ok (SndE c W T mnm k (.ListComp elt gs scope pos) (.lcd cell vs itg (.var j0) cd ie)) := match gs with
  | [⟨tg, .Name x px, ifs, 0⟩] => if h : (blkC c.N c.sc scope (ownOf c.N vs) && ((slots itg).all (fun j => vs.contains j) && (decide (c.N[j0]? = some x) && (visB c.sc x && plainN x)))) = true then
      (vG (blkCn c scope) W T mnm k itg tg).and ((vC v (blkCn c scope) ifs cd).and (v (blkCn c scope) elt ie) And.intro) fun h1 h2 => by
        have := snd_lcd (own := ownOf c.N vs) (px := px) (pos := pos) (cell := cell) (ba h).1 (by rw [ownOf_2]; exact (ba (ba h).2).1) (of_decide_eq_true (ba (ba (ba h).2).2).1) (ba (ba (ba (ba h).2).2).2).1 (ba (ba (ba (ba h).2).2).2).2 h1 h2.1 h2.2
        rwa [ownOf_2] at this
    else .no
  | _ => .no
def vDc (kx vx : Expr) (gs : List Comprehension) (scope : Scope) (pos : Pos) (vs : List Nat) (itg : Tg) (kd : Nat) (it : List IE) (cd : Option IE) (ik iv : IE) : Ok (SndE c W T mnm k (.DictComp kx vx gs scope pos) (.dc vs itg kd it cd ik iv)) := match gs with
  | [⟨tg, iter, ifs, 0⟩] => if h : (blkC c.N c.sc scope (ownOf c.N vs) && (slots itg).all (fun j => vs.contains j)) = true then
      (vI v c tg iter kd it).and ((vG (blkCn c scope) W T mnm k itg tg).and ((vC v (blkCn c scope) ifs cd).and ((v (blkCn c scope) kx ik).and (v (blkCn c scope) vx iv) And.intro) And.intro) And.intro) fun h1 h2 => by
        have := snd_dc (own := ownOf c.N vs) (pos := pos) (ba h).1 (by rw [ownOf_2]; exact (ba h).2) h1 h2.1 h2.2.1 h2.2.2.1 h2.2.2.2
        rwa [ownOf_2] at this
    else .no
  | _ => .no
end
variable {fs ms : List Str}
def vEq1 : (i : IE) → (d : D) → Ok (i = .con d)
  | .con (.bl a), .bl b => if h : a = b then .yes (h ▸ rfl) else .no
  | .con (.int a), .int b => if h : a = b then .yes (h ▸ rfl) else .no
  | .con .non, .non => .yes rfl
  | _, _ => .no
def vEqL : (is : List IE) → (ds : List D) → Ok (is = ds.map .con)
  | [], [] => .yes rfl
  | i :: is, d :: ds => (vEq1 i d).and (vEqL is ds) fun a b => by rw [a, b]; rfl
  | _, _ => .no
def vEq (as : List IE) (dfl : List D) : Ok (as.take (as.length - dfl.length) ++ dfl.map .con = as) := (vEqL (as.drop (as.length - dfl.length)) dfl).imp fun h => by rw [← h]; exact List.take_append_drop _ _
theorem last_app {α : Type} {as : List α} {x : α} (h : as.getLast? = some x) : as.dropLast ++ [x] = as := by
  obtain ⟨ys, rfl⟩ := List.getLast?_eq_some_iff.mp h
  simp
def eq1 (ks : List Str) (kn : Str) : Bool := match ks with
  | [k] => decide (k = kn)
  | _ => false
theorem eq1_of {ks : List Str} {kn : Str} (h : eq1 ks kn = true) : ks = [kn] := by
  unfold eq1 at h
  split at h
  · rw [of_decide_eq_true h]
  · cases h
def vPm (name : Str) (p : PM) (c : Cn) (W : WP) (T : Tab) (mnm : Nat → Str) (k : Nat) : Ok (∃ id, Slot "list" name id ∧ typeOf (.builtin id) = pure (.type "method_descriptor") ∧ ∀ X, CxOk c W T mnm k X → MtR X id (rM W p)) := match p with
  | .append => if h : name = "append" then .yes (h ▸ ⟨_, PySem.F.slot_list_append, rfl, fun X ok => m_append⟩) else .no
  | .extend => if h : name = "extend" then .yes (h ▸ ⟨_, PySem.F.slot_list_extend, rfl, fun X ok => m_extend⟩) else .no
  | .pop => if h : name = "pop" then .yes (h ▸ ⟨_, PySem.F.slot_list_pop, rfl, fun X ok => MtR.imp m_pop fun x xs H Q q => .inl q⟩) else .no
  | .popAt => if h : name = "pop" then .yes (h ▸ ⟨_, PySem.F.slot_list_pop, rfl, fun X ok => MtR.imp m_pop fun x xs H Q q => .inr q⟩) else .no
  | .index => if h : name = "index" then .yes (h ▸ ⟨_, PySem.F.slot_list_index, rfl, fun X ok => m_index ok⟩) else .no
  | _ => .no
def vLamN (nm : Str) : Ok (LamBind nm) := if h : nm = "name" then .yes (h ▸ bind_name) else if h : nm = "_law_name" then .yes (h ▸ bind_law_name) else .no
def vSrt (c : Cn) (W : WP) (T : Tab) (mnm : Nat → Str) (k : Nat) (v : VE W T mnm k) (x kn : Str) (px : Pos) (e : Expr) (params : Arguments) (body : Expr) (scope : Scope) (lpos kpos pos : Pos) (cell : Bool) (a : IE) : Ok (SndE c W T mnm k (.Call (.Name x px) [e] [⟨some kn, .Lambda params body scope lpos, kpos⟩] pos) (.pb .sortLN cell [a])) := match params, body with
  | ⟨[], [⟨nm, none, apos⟩], none, [], [], none, []⟩, .Tuple [.Call (.Name ln p1) [.Name n1 p2] [] p3, .Name n2 p4] kk p5 =>
    if h : x = "sorted" ∧ kn = "key" ∧ ln = "len" ∧ n1 = nm ∧ n2 = nm ∧ (c.lam && (glB c.sc "sorted" && (nstar e && lamB scope nm))) = true then
      ((isBn c "sorted").and (isBn c "len") And.intro).and ((vLamN nm).and (v c e a) And.intro) fun h1 h2 => by
        obtain ⟨rfl, rfl, rfl, rfl, rfl, hh⟩ := h
        exact snd_sortLN (ba hh).1 (ba (ba hh).2).1 h1.1 h1.2 (ba (ba (ba hh).2).2).1 (ba (ba (ba hh).2).2).2 h2.1 h2.2
    else .no
  | _, _ => .no
def Ok.or {P : Prop} (a b : Ok P) : Ok P := match a with
  | .yes h => .yes h
  | .no => b
def vLg (c : Cn) (W : WP) (T : Tab) (mnm : Nat → Str) (k : Nat) (v : VE W T mnm k) (x : Str) (px : Pos) (es : List Expr) (pos : Pos) (p : PB) (cell : Bool) (as : List IE) : Ok (SndE c W T mnm k (.Call (.Name x px) es [] pos) (.pb p cell as)) := match p, as, es with
  | .list, [.call f ies], [.Call (.Name y p1) (e :: es) [] p2] => if h : x = "list" ∧ (glB c.sc "list" && (glB c.sc y && plainN y)) = true then match hl : c.G.lookup y with
      | some (.gen f' np) => if e1 : f' = f then (isBn c "list").and (vL v c (e :: es) ies) fun h1 h2 => by
          obtain ⟨rfl, hh⟩ := h
          subst e1
          exact snd_listgen (ba hh).1 h1 boot_list (ba (ba hh).2).1 hl (ba (ba hh).2).2 h2
        else .no
      | _ => .no
    else .no
  | _, _, _ => .no
def vKV (v : VE W T mnm k) (c : Cn) : (es : List (Option Expr)) → (vs : List Expr) → (ks : List DK) → (as : List IE) → Ok (SndKV c W T mnm k es vs ks as)
  | [], [], [], [] => .yes .nil
  | some e :: es, x :: vs, j :: ks, a :: as => (v c e (.con (dkD j))).and ((v c x a).and (vKV v c es vs ks as) And.intro) fun g1 g2 => .cons g1 g2.1 g2.2
  | _, _, _, _ => .no
def vE (nm : Nms W mnm fs ms) : Nat → VE W T mnm k
  | 0, _, _, _ => .no
  | n + 1, c, e, ie => match ie, e with
    | .var i, .Name x p => if h : (decide (c.N[i]? = some x) && (visB c.sc x && plainN x)) = true then .yes (snd_var (of_decide_eq_true (ba h).1) (ba (ba h).2).1 (ba (ba h).2).2) else .no
    | .con (.int i), .Constant (.int j) kk p => if h : j = i then .yes (h ▸ snd_int) else .no
    | .con (.bl i), .Constant (.bool j) kk p => if h : j = i then .yes (h ▸ snd_bl) else .no
    | .con .non, .Constant .none kk p => .yes snd_non
    | .con (.str l), .Constant (.str s) kk p => if h : s = ⟨l.toArray⟩ then .yes (snd_str h) else .no
    | .con (.int i), .Name x p => if h : (glB c.sc x && plainN x) = true then match hl : c.G.lookup x with
        | some (.int j) => if e : j = i then .yes (snd_gint (ba h).1 (e ▸ hl) (ba h).2) else .no
        | _ => .no
      else .no
    | .con (.str i), .Name x p => if h : (glB c.sc x && plainN x) = true then match hl : c.G.lookup x with
        | some (.str j) => if e : j = i then .yes (snd_gstr (ba h).1 (e ▸ hl) (ba h).2) else .no
        | _ => .no
      else .no
    | .p2 .idx a b, .Subscript ea eb pos => if h : notSlice eb = true then (vE nm n c ea a).and (vE nm n c eb b) fun x y => snd_idx h x y else .no
    | .p2 p a b, .BinOp ea op eb pos => (vOp c W T mnm k op p).and ((vE nm n c ea a).and (vE nm n c eb b) And.intro) fun o h => snd_bin o h.1 h.2
    | .p2 p a b, .Compare ea [op] [eb] pos => if h : notSet eb = true then (vCm c W T mnm k op p).and ((vE nm n c ea a).and (vE nm n c eb b) And.intro) fun o g => snd_cmp o h g.1 g.2 else .no
    | .neg a, .UnaryOp .USub ea pos => (vE nm n c ea a).imp snd_neg
    | .not a, .UnaryOp .Not ea pos => (vE nm n c ea a).imp snd_not
    | .chain p q a b d, .Compare ea [op, oq] [eb, ed] pos => if h : notSet ed = true then (vCm c W T mnm k op p).and ((vCm c W T mnm k oq q).and ((vE nm n c ea a).and ((vE nm n c eb b).and (vE nm n c ed d) And.intro) And.intro) And.intro) fun o g => snd_chain o g.1 h g.2.1 g.2.2.1 g.2.2.2 else .no
    | .and a b, .BoolOp .And es pos => (vBa (vE nm n) c es (.and a b)).imp snd_bool
    | .or a b, .BoolOp .Or es pos => (vBo (vE nm n) c es (.or a b)).imp snd_bool
    | .ite f a b, .IfExp ef ea eb pos => (vE nm n c ef f).and ((vE nm n c ea a).and (vE nm n c eb b) And.intro) fun x y => snd_ite x y.1 y.2
    | .pb p cell as, .Call (.Name x px) (e :: es) [] pos => (vLg c W T mnm k (vE nm n) x px (e :: es) pos p cell as).or (if h : (glB c.sc x && plainN x) = true then (isBn c x).and ((vPBn x p).and (vL (vE nm n) c (e :: es) as) And.intro) fun h1 h2 => by
        rcases h2.1 with ⟨id, g1, g2⟩ | ⟨id, g1, g2⟩
        · exact snd_pbB g1 (ba h).1 h1 (ba h).2 g2 h2.2
        · exact snd_pbT g1 (ba h).1 h1 (ba h).2 g2 h2.2
      else .no)
    | .pb .sortLN cell [a], .Call (.Name x px) [e] [⟨some kn, .Lambda params body scope lpos, kpos⟩] pos => vSrt c W T mnm k (vE nm n) x kn px e params body scope lpos kpos pos cell a
    | .isi ts a, .Call (.Name x px) [ea, et] [] pos => if h : (decide (x = "isinstance") && (glB c.sc x && nstar ea)) = true then match et with
        | .Tuple es kk p2 => if h2 : (!ts.isEmpty && decide (ts.length < 100)) = true then (isBn c x).and ((vE nm n c ea a).and (vTs c W T mnm k es ts) And.intro) fun h1 g => by
            have e := of_decide_eq_true (ba h).1
            subst e
            exact snd_isiT (ba (ba h).2).1 h1 (ba (ba h).2).2 (by rintro rfl; simp at h2) (of_decide_eq_true (ba h2).2) g.1 g.2
          else .no
        | et => match ts with
          | [t] => (isBn c x).and ((vE nm n c ea a).and (vT c W T mnm k et t) And.intro) fun h1 g => by
            have e := of_decide_eq_true (ba h).1
            subst e
            exact snd_isi1 (ba (ba h).2).1 h1 (ba (ba h).2).2 g.1 g.2
          | _ => .no
      else .no
    | .dget a b, .Subscript ea eb pos => if h : notSlice eb = true then (vE nm n c ea a).and (vE nm n c eb b) fun x y => snd_dget h x y else .no
    | .dd ks as, .Dict keys values pos => if h : (!keys.isEmpty && decide (keys.length ≤ 15)) = true then (vKV (vE nm n) c keys values ks as).imp fun g => snd_dd g (by rintro rfl; cases (ba h).1) (of_decide_eq_true (ba h).2) else .no
    | .call f as, .Call (.Name x px) es kws pos => if h : (glB c.sc x && plainN x) = true then match hl : c.G.lookup x with
        | some (.fn f' np) => if e : f' = f then match kws, es, as with
            | [], [], [] => .yes (e ▸ snd_call0 (ba h).1 hl (ba h).2)
            | [], e1 :: es, as => (vL (vE nm n) c (e1 :: es) as).imp fun g => e ▸ snd_call (ba h).1 hl (ba h).2 g
            | _, _, _ => .no
          else .no
        | some (.two f' g' np) => if e : f = f' ∨ f = g' then match kws, es, as with
            | [], e1 :: es, as => (vL (vE nm n) c (e1 :: es) as).imp fun g => snd_callT (ba h).1 hl e (ba h).2 g
            | _, _, _ => .no
          else .no
        | some (.fnk f' np ks dfl) => if e : f' = f then match kws, es with
            | [], e1 :: es => (vEq as dfl).and (vL (vE nm n) c (e1 :: es) (as.take (as.length - dfl.length))) fun q g => by
                rw [← q]
                exact e ▸ snd_callk (ba h).1 hl (ba h).2 g
            | [⟨some kn, ev, kp⟩], e1 :: es => match hg : as.getLast? with
              | some iv => if h3 : (eq1 ks kn && (decide ((e1 :: es).length + 1 = np) && decide (as.dropLast.length = (e1 :: es).length))) = true then (vL (vE nm n) c (e1 :: es) as.dropLast).and (vE nm n c ev iv) fun g g2 => by
                  have e2 := last_app hg
                  rw [← e2]
                  have e3 := eq1_of (ba h3).1
                  subst e3
                  exact e ▸ snd_callkw (ba h).1 hl (ba h).2 (of_decide_eq_true (ba (ba h3).2).1) (of_decide_eq_true (ba (ba h3).2).2) g g2
                else .no
              | none => .no
            | _, _ => .no
          else .no
        | _ => .no
      else .no
    | .make cc f fz as, .Call (.Name x px) es [] pos => if h : (glB c.sc x && plainN x) = true then match hl : c.G.lookup x with
        | some (.cls c' f' np) => if e : c' = cc ∧ f' = f then match es, as with
            | [], [] => .yes (e.1 ▸ e.2 ▸ snd_make0 (ba h).1 hl (ba h).2)
            | e1 :: es, as => (vL (vE nm n) c (e1 :: es) as).imp fun g => e.1 ▸ e.2 ▸ snd_make (ba h).1 hl (ba h).2 g
            | _, _ => .no
          else .no
        | _ => .no
      else .no
    | .meth m o as, .Call (.Attribute eo name apos) es [] pos => if h : (decide (ms[m]? = some name) && (noSuper eo && (apos.endLine == pos.line))) = true then match es, as with
        | [], [] => (vE nm n c eo o).imp fun g => snd_meth0 (nm.m _ _ (of_decide_eq_true (ba h).1)) (ba (ba h).2).1 (ba (ba h).2).2 g
        | e1 :: es, as => if hz : (e1 :: es).length < 20 then (vE nm n c eo o).and (vL (vE nm n) c (e1 :: es) as) fun g g2 => snd_meth (nm.m _ _ (of_decide_eq_true (ba h).1)) (ba (ba h).2).1 (ba (ba h).2).2 hz g g2 else .no
        | _, _ => .no
      else .no
    | .pm p o as, .Call (.Attribute eo name apos) es [] pos => if h : (noSuper eo && (apos.endLine == pos.line)) = true then match es, as with
        | [], [] => (vPm name p c W T mnm k).and (vE nm n c eo o) fun ⟨id, q1, q2, q3⟩ g => snd_pm0 q1 q2 q3 (ba h).1 (ba h).2 g
        | e1 :: es, as => if hz : (e1 :: es).length < 20 then (vPm name p c W T mnm k).and ((vE nm n c eo o).and (vL (vE nm n) c (e1 :: es) as) And.intro) fun ⟨id, q1, q2, q3⟩ g => snd_pm q1 q2 q3 (ba h).1 (ba h).2 hz g.1 g.2 else .no
        | _, _ => .no
      else .no
    | .attr f o, .Attribute eo name pos => if h : (decide (fs[f]? = some name) && noSuper eo) = true then (vE nm n c eo o).imp fun g => snd_attr (ba h).2 (nm.f _ _ (of_decide_eq_true (ba h).1)) g else .no
    | .disp .tup st as, .Tuple es kk pos => (vP (vE nm n) c es st as).imp snd_tup
    | .disp .lst st as, .List es pos => (vP (vE nm n) c es st as).imp (snd_lst false)
    | .disp .cell st as, .List es pos => (vP (vE nm n) c es st as).imp (snd_lst true)
    | .slice a lo hi cell, .Subscript ea (.Slice el eh none p2) pos => (vE nm n c ea a).and ((vO (vE nm n) c el lo).and (vO (vE nm n) c eh hi) And.intro) fun x y => snd_slice x y.1 y.2
    | .dict [], .Dict [] [] pos => .yes snd_dict
    | .lc cell vs tg kd it cd e, .ListComp elt gs scope pos => vLc (vE nm n) c elt gs scope pos cell vs tg kd it cd e
    | .lcd cell vs tg (.var j) cd e, .ListComp elt gs scope pos => vLcd (vE nm n) c elt gs scope pos cell vs tg j cd e
    | .dc vs tg kd it cd kx vx, .DictComp ek ev gs scope pos => vDc (vE nm n) c ek ev gs scope pos vs tg kd it cd kx vx
    | _, _ => .no
end LN

set_option Elab.async false
set_option linter.all false
set_option maxRecDepth 100000
set_option maxHeartbeats 4000000
namespace LN
open PySem L2
variable {W : WP} {T : Tab} {mnm : Nat → Str} {k : Nat} {fs ms : List Str}
section
variable (v : VE W T mnm k) (c : Cn)
def vSs (f : (s : Stmt) → (i : IS) → Ok (SndS c W T mnm k s i)) : (ss : List Stmt) → (is : List IS) → Ok (SndSs c W T mnm k ss is)
  | [], [] => .yes sndSs_nil
  | s :: ss, i :: is => (f s i).and (vSs f ss is) sndSs_cons
  | _, _ => .no
def vPar2 (ts vs : List Expr) (kt k2 : Nat) (pt pt2 pos : Pos) (is : List Nat) (es : List IE) : Ok (SndS c W T mnm k (.Assign [.Tuple ts kt pt] (.Tuple vs k2 pt2) pos) (.par is es)) := match ts, vs, is with
  | [.Name x px, .Name y py], [a, b], [i, j] => if h : (fnK c && (decide (c.N[i]? = some x) && (decide (c.N[j]? = some y) && (decide (i ≠ j) && (isLoc c x && (isLoc c y && (!(x == y) && ((py.line == px.line) && (!([a, b].all (foldedForSure 8)) && !([a, b].all (constantsAlone 8))))))))))) = true then
      (vL v c [a, b] es).imp fun g => by
        simp only [Bool.and_eq_true, Bool.not_eq_true', decide_eq_true_eq] at h
        obtain ⟨h1, h2, h3, h4, h5, h6, h7, h8, h9, h10⟩ := h
        exact snd_par2 h1 h2 h3 h4 h5 h6 h7 h8 h9 h10 g
    else .no
  | [.Name x px, .Name y py, .Name z pz], [a, b, d], [i, j, l] => if h : (fnK c && (decide (c.N[i]? = some x) && (decide (c.N[j]? = some y) && (decide (c.N[l]? = some z) && (decide (i ≠ j) && (decide (i ≠ l) && (decide (j ≠ l) && (isLoc c x && (isLoc c y && (isLoc c z && (!(x == y) && (!(x == z) && (!(y == z) && ((py.line == px.line) && ((pz.line == px.line) && (!([a, b, d].all (foldedForSure 8)) && !([a, b, d].all (constantsAlone 8)))))))))))))))))) = true then
      (vL v c [a, b, d] es).imp fun g => by
        simp only [Bool.and_eq_true, Bool.not_eq_true', decide_eq_true_eq] at h
        obtain ⟨h1, h2, h3, h4, h5, h6, h7, h8, h9, h10, h11, h12, h13, h14, h15, h16, h17⟩ := h
        exact snd_par3 h1 h2 h3 h4 h5 h6 h7 h8 h9 h10 h11 h12 h13 h14 h15 h16 h17 g
    else .no
  | _, _, _ => .no
def vAsgLc (x : Str) (py : Pos) (elt : Expr) (gs : List Comprehension) (scope : Scope) (pos spos : Pos) (i : Nat) (cell : Bool) (vs : List Nat) (itg : Tg) (kd : Nat) (it : List IE) (cd : Option IE) (ie : IE) : Ok (SndS c W T mnm k (.Assign [.Name x py] (.ListComp elt gs scope pos) spos) (.asg (.nm i) (.lc cell vs itg kd it cd ie))) := match gs with
  | [⟨tg, iter, ifs, 0⟩] => if h : (decide (c.N[i]? = some x) && (swC c x scope py pos && (blkC c.N c.sc scope (ownOf c.N vs) && (slots itg).all (fun j => vs.contains j)))) = true then
      (vI v c tg iter kd it).and ((vG (blkCn c scope) W T mnm k itg tg).and ((vC v (blkCn c scope) ifs cd).and (v (blkCn c scope) elt ie) And.intro) And.intro) fun h1 h2 => by
        have := snd_asgLc (own := ownOf c.N vs) (pos := pos) (spos := spos) (cell := cell) (of_decide_eq_true (ba h).1) (ba (ba h).2).1 (ba (ba (ba h).2).2).1 (by rw [ownOf_2]; exact (ba (ba (ba h).2).2).2) h1 h2.1 h2.2.1 h2.2.2
        rwa [ownOf_2] at this
    else .no
  | _ => .no
theorem snd_asgLcd {c : Cn} {x : Str} {i : Nat} {py : Pos} {elt tg : Expr} {y : Str} {px : Pos} {j0 : Nat} {ifs : List Expr} {scope : Scope} {own : List (Str × Nat)} {pos spos : Pos} {itg : Tg} {cd : Option IE} {ie : IE} {cell : Bool} (hi : c.N[i]? = some x) (hsw : swC c x scope py pos = true)
    (hb : blkC c.N c.sc scope own = true) (hsl : (slots itg).all (fun j => (own.map (·.2)).contains j) = true) (hj : c.N[j0]? = some y) (hv : visB c.sc y = true) (hp : plainN y = true)
    (hg : SndG (blkCn c scope) W T mnm k tg itg) (hc : SndC (blkCn c scope) W T mnm k ifs cd) (he : SndE (blkCn c scope) W T mnm k elt ie) :
    SndS c W T mnm k (.Assign [.Name x py] (.ListComp elt [⟨tg, .Name y px, ifs, 0⟩] scope pos) spos) (.asg (.nm i) (.lcd cell (own.map (·.2)) itg (.var j0) cd ie)) := fun X ok => by
  unfold swC at hsw
  rw [Bool.and_eq_true, Bool.and_eq_true, Bool.and_eq_true] at hsw
  obtain ⟨⟨⟨h1, h2⟩, h3⟩, h4⟩ := hsw
  obtain ⟨p1, p2, _⟩ := plainN_of hp
  have hk : X.env.scope.kind = .function := by
    rw [ok.hs]; revert h1; split <;> intro h1
    · assumption
    · cases h1
  have hl : X.env.scope.names.lookup x = some .local := by
    rw [ok.hs]; revert h2; split <;> intro h2
    · assumption
    · cases h2
  refine PS.imp (ps_lock (ps_setLc ok.calm (by rw [ok.hN]; exact ok.nd) (by rw [ok.hN]; exact hi) hl (sw_true hk hl h3 (by simpa using h4)) (pi_keys (pe_var (i := j0) (by rw [ok.hN]; exact hj) (by rw [ok.hs]; exact vis_of hv) p1 p2)) (blkOk_by (by rw [ok.hN, ok.hs]; exact hb)) (fun s H C cl fp => hg.1 _ (blk_ok ok)) (fun s H C cl fp => hc _ (blk_ok ok)) (fun s H C cl fp => (he _ (blk_ok ok)).1) (fun _ => rfl))) ?_
  intro D σ H h
  have g := run_asg h
  have : tE W (evE T (.lcd cell (own.map (·.2)) itg (.var j0) cd ie)) σ H fun v H1 => D.nx (σ.set i (some v)) H1 := by
    obtain ⟨env, S, B, μ, d, S', r, eo, ee, q⟩ := g
    refine ⟨env, S, B, μ, d, S', r, eo, ee, fun B' μ' H' v s1 r1 d1 => ?_⟩
    obtain ⟨B2, μ2, S2, env2, d2, env', r2, eo2, hd2, es, q2⟩ := q B' μ' H' v s1 r1 d1
    simp only [setT] at es
    cases es
    exact q2 _ (eo2.set hd2) ⟨by simp, fun j hj => by rw [List.getElem?_set_ne]; simp [slots] at hj; exact Ne.symm hj⟩
  refine run_lcd ?_ this
  intro j hj
  have := List.all_eq_true.mp hsl j hj
  simpa using this
def vAsgLcd (x : Str) (py : Pos) (elt : Expr) (gs : List Comprehension) (scope : Scope) (pos spos : Pos) (i : Nat) (cell : Bool) (vs : List Nat) (itg : Tg) (j0 : Nat) (cd : Option IE) (ie : IE) : Ok (SndS c W T mnm k (.Assign [.Name x py] (.ListComp elt gs scope pos) spos) (.asg (.nm i) (.lcd cell vs itg (.var j0) cd ie))) := match gs with
  | [⟨tg, .Name y px, ifs, 0⟩] => if h : (decide (c.N[i]? = some x) && (swC c x scope py pos && (blkC c.N c.sc scope (ownOf c.N vs) && ((slots itg).all (fun j => vs.contains j) && (decide (c.N[j0]? = some y) && (visB c.sc y && plainN y)))))) = true then
      (vG (blkCn c scope) W T mnm k itg tg).and ((vC v (blkCn c scope) ifs cd).and (v (blkCn c scope) elt ie) And.intro) fun h1 h2 => by
        have a1 := ba h
        have a2 := ba a1.2
        have a3 := ba a2.2
        have a4 := ba a3.2
        have a5 := ba a4.2
        have a6 := ba a5.2
        have := snd_asgLcd (own := ownOf c.N vs) (px := px) (pos := pos) (spos := spos) (cell := cell) (of_decide_eq_true a1.1) a2.1 a3.1 (by rw [ownOf_2]; exact a4.1) (of_decide_eq_true a5.1) a6.1 a6.2 h1 h2.1 h2.2
        rwa [ownOf_2] at this
    else .no
  | _ => .no
end
def vS (nm : Nms W mnm fs ms) : Nat → (c : Cn) → (s : Stmt) → (i : IS) → Ok (SndS c W T mnm k s i)
  | 0, _, _, _ => .no
  | n + 1, c, s, i => match i, s with
    | .nev, _ => .yes snd_nev
    | .pass, .Pass pos => .yes snd_pass
    | .pass, .Expr (.Constant (.str x) j p) pos => .yes snd_doc
    | .brk, .Break pos => .yes snd_brk
    | .cnt, .Continue pos => .yes snd_cnt
    | .ret ie, .Return (some e) pos => (vE nm n c e ie).imp snd_ret
    | .ret (.con .non), .Return none pos => .yes snd_retN
    | .drop ie, .Expr e pos => if h : notComp e = true then (vE nm n c e ie).imp (snd_drop h) else .no
    | .ite ie a b, .If t ea eb pos => (vE nm n c t ie).and ((vSs c (vS nm n c) ea a).and (vSs c (vS nm n c) eb b) And.intro) fun x y => snd_if x y.1 y.2
    | .whl ie b, .While t eb [] pos => (vE nm n c t ie).and (vSs c (vS nm n c) eb b) snd_whl
    | .for tg kd it b, .For etg iter eb [] pos => (vI (vE nm n) c etg iter kd it).and ((vG c W T mnm k tg etg).and (vSs c (vS nm n c) eb b) And.intro) fun x y => snd_for x y.1 y.2
    | .aug j p ie, .AugAssign (.Name x px) op e pos => if h : (decide (c.N[j]? = some x) && locB c x) = true then (vAg c W T mnm k op p).and (vE nm n c e ie) fun x y => snd_aug (of_decide_eq_true (ba h).1) (ba h).2 x y else .no
    | .setF o f ie, .Assign [.Attribute eo attr p1] e pos => if h : decide (fs[f]? = some attr) = true then (vE nm n c eo o).and (vE nm n c e ie) fun x y => snd_setF (nm.f _ _ (of_decide_eq_true h)) x y else .no
    | .setI o i ie, .Assign [.Subscript eo ei p1] e pos => if h : notSlice ei = true then (vE nm n c eo o).and ((vE nm n c ei i).and (vE nm n c e ie) And.intro) fun x y => snd_setI h x y.1 y.2 else .no
    | .asI2 v k1 k2 e1 e2, .Assign [.Tuple [.Subscript o1 i1 q1, .Subscript o2 i2 q2] kt pt] (.Tuple [ea, eb] kk pt2) pos => if h : (notSlice i1 && notSlice i2) = true then
        ((vE nm n c o1 (.var v)).and (vE nm n c o2 (.var v)) And.intro).and (((vE nm n c i1 (.con (dkD k1))).and (vE nm n c i2 (.con (dkD k2))) And.intro).and (vE nm n c (.Tuple [ea, eb] kk pt2) (.disp .tup [false, false] [e1, e2])) And.intro) fun g1 g2 => snd_asI2 (ba h).1 (ba h).2 g1.1 g1.2 g2.1.1 g2.1.2 g2.2
      else .no
    | .par is es, .Assign [.Tuple ts kt pt] (.Tuple vs k2 pt2) pos => vPar2 (vE nm n) c ts vs kt k2 pt pt2 pos is es
    | .asg (.nm i) (.lc cell vs itg kd it cd ie), .Assign [.Name x py] (.ListComp elt gs scope pos) spos => if h : swOffB c (.Name x py) (.ListComp elt gs scope pos) = true then (vG c W T mnm k (.nm i) (.Name x py)).and (vE nm n c (.ListComp elt gs scope pos) (.lc cell vs itg kd it cd ie)) (snd_asg h rfl) else vAsgLc (vE nm n) c x py elt gs scope pos spos i cell vs itg kd it cd ie
    | .asg (.nm i) (.lcd cell vs itg (.var j0) cd ie), .Assign [.Name x py] (.ListComp elt gs scope pos) spos => if h : swOffB c (.Name x py) (.ListComp elt gs scope pos) = true then (vG c W T mnm k (.nm i) (.Name x py)).and (vE nm n c (.ListComp elt gs scope pos) (.lcd cell vs itg (.var j0) cd ie)) (snd_asg h rfl) else vAsgLcd (vE nm n) c x py elt gs scope pos spos i cell vs itg j0 cd ie
    | .asg tg ie, .Assign [.Tuple ts kt pt] (.Tuple vs k2 pt2) pos => if h : noSwap c ts vs = true then (vG c W T mnm k tg (.Tuple ts kt pt)).and (vE nm n c (.Tuple vs k2 pt2) ie) (snd_asgT h) else .no
    | .asg tg ie, .Assign [t] e pos => if h : (swOffB c t e && (notTup t || notTup e)) = true then (vG c W T mnm k tg t).and (vE nm n c e ie) (snd_asg (ba h).1 (ba h).2) else .no
    | _, _ => .no

def vGn (nm : Nms W mnm fs ms) (n : Nat) (c : Cn) (g : GD) : (body : List Stmt) → (pre : List IS) → Ok (SndGn c W T mnm k body g pre)
  | [.For tg iter [.Expr (.Yield (some e) yp) p2] [] p3], [] => (vI (vE nm n) c tg iter g.kd g.it).and ((vG c W T mnm k g.tg tg).and (vE nm n c e g.e) And.intro) fun a b => sndGn_for a b.1 b.2
  | s :: ss, i :: is => (vS nm n c s i).and (vGn nm n c g ss is) sndGn_cons
  | _, _ => .no
def gscC (N P : List Str) (sc : Scope) : Bool :=
  decide (sc.kind = .function) && (!sc.isCoroutine && (sc.isGenerator && (decide N.Nodup && (decide (N.take P.length = P) && (P.all (fun x => decide (sc.names.lookup x = some .local) || decide (sc.names.lookup x = some .cell)) && sc.names.all (fun y => !decide (y.2 = .free)))))))
theorem gScope_by {N P : List Str} {sc : Scope} (h : gscC N P sc = true) : GScope N P sc := by
  unfold gscC at h
  simp only [Bool.and_eq_true, Bool.not_eq_true', decide_eq_true_eq, List.all_eq_true, Bool.or_eq_true, decide_eq_false_iff_not] at h
  obtain ⟨h1, h2, h3, h4, h5, h6, h7⟩ := h
  exact ⟨h1, h2, h3, h4, h5, h6, h7⟩
end LN

set_option Elab.async false
set_option linter.all false
set_option maxRecDepth 100000
set_option maxHeartbeats 1000000
namespace LN
open PySem L2

/-! ### names by number -/
def nmF (l : List Str) (z : Nat) (i : Nat) : Str := match l[i]? with
  | some x => x
  | none => ⟨(z :: List.replicate i 2).toArray⟩
def okNm (l : List Str) (z : Nat) : Bool := decide l.Nodup && l.all fun x => !(x.cps.toList.headD 99 == z)
theorem nmF_get {l : List Str} {z i : Nat} {x : Str} (h : l[i]? = some x) : nmF l z i = x := by unfold nmF; rw [h]
theorem nmF_cases (l : List Str) (z i : Nat) : (∃ x, l[i]? = some x ∧ nmF l z i = x) ∨ (l[i]? = none ∧ nmF l z i = ⟨(z :: List.replicate i 2).toArray⟩) := by
  unfold nmF
  cases h : l[i]? with
  | some x => exact .inl ⟨x, rfl, rfl⟩
  | none => exact .inr ⟨rfl, rfl⟩
theorem okNm_head {l : List Str} {z i n : Nat} {x : Str} (h : okNm l z = true) (hx : l[i]? = some x) : x ≠ ⟨(z :: List.replicate n 2).toArray⟩ := by
  unfold okNm at h
  obtain ⟨_, h2⟩ := ba h
  have := List.all_eq_true.mp h2 x (List.mem_of_getElem? hx)
  rintro rfl
  simp at this
theorem nodupS {l : List Str} (nd : l.Nodup) {i j : Nat} {a : Str} (h1 : l[i]? = some a) (h2 : l[j]? = some a) : i = j := by
  obtain ⟨hi, e1⟩ := List.getElem?_eq_some_iff.mp h1
  obtain ⟨hj, e2⟩ := List.getElem?_eq_some_iff.mp h2
  exact (List.getElem_inj nd).mp (e1.trans e2.symm)
theorem nmF_inj {l : List Str} {z : Nat} (h : okNm l z = true) : ∀ f g, nmF l z f = nmF l z g → f = g := by
  intro f g e
  rcases nmF_cases l z f with ⟨x, h1, h2⟩ | ⟨h1, h2⟩ <;> rcases nmF_cases l z g with ⟨y, g1, g2⟩ | ⟨g1, g2⟩
  · rw [h2, g2] at e
    subst e
    obtain ⟨nd, _⟩ := ba h
    exact nodupS (of_decide_eq_true nd) h1 g1
  · rw [h2, g2] at e
    exact absurd e (okNm_head h h1)
  · rw [h2, g2] at e
    exact absurd e.symm (okNm_head h g1)
  · rw [h2, g2] at e
    have := congrArg (fun s : Str => s.cps.size) e
    simpa using this
theorem nmF_apart {l m : List Str} {y z : Nat} (hl : okNm l y = true) (hm : okNm m z = true) (h : (l.all fun a => !(m.contains a) && !(a.cps.toList.headD 99 == z)) = true) (h2 : (m.all fun a => !(a.cps.toList.headD 99 == y)) = true) (hyz : y ≠ z) : ∀ i j, nmF l y j ≠ nmF m z i := by
  intro i j e
  rcases nmF_cases l y j with ⟨a, h1, g1⟩ | ⟨h1, g1⟩ <;> rcases nmF_cases m z i with ⟨b, k1, k2⟩ | ⟨k1, k2⟩
  · rw [g1, k2] at e
    subst e
    have := (ba (List.all_eq_true.mp h a (List.mem_of_getElem? h1))).1
    rw [Bool.not_eq_true'] at this
    have hm2 : m.contains a = true := by simpa using List.mem_of_getElem? k1
    rw [hm2] at this
    cases this
  · rw [g1, k2] at e
    subst e
    have := (ba (List.all_eq_true.mp h _ (List.mem_of_getElem? h1))).2
    simp at this
  · rw [g1, k2] at e
    subst e
    have := List.all_eq_true.mp h2 _ (List.mem_of_getElem? k1)
    simp at this
  · rw [g1, k2] at e
    have := congrArg (fun s : Str => s.cps.toList.head?) e
    simp at this
    exact hyz this
/-! ### tables of facts -/
def AllD (P : Nat → FD → Prop) : Nat → List (Option FD) → Prop
  | _, [] => True
  | i, some d :: r => P i d ∧ AllD P (i + 1) r
  | i, none :: r => AllD P (i + 1) r
theorem AllD.get {P : Nat → FD → Prop} : ∀ {l : List (Option FD)} {i f : Nat} {d : FD}, AllD P i l → l[f]? = some (some d) → P (i + f) d
  | [], _, _, _, _, e => by simp at e
  | some a :: r, i, 0, d, h, e => by simp at e; subst e; exact h.1
  | none :: r, i, 0, d, h, e => by simp at e
  | some a :: r, i, f + 1, d, h, e => by
    have := AllD.get (f := f) h.2 (by simpa using e)
    rwa [show i + 1 + f = i + (f + 1) by omega] at this
  | none :: r, i, f + 1, d, h, e => by
    have := AllD.get (l := r) (i := i + 1) (f := f) h (by simpa using e)
    rwa [show i + 1 + f = i + (f + 1) by omega] at this
def AllG (P : Str → GK → Prop) : List (Str × GK) → Prop
  | [] => True
  | p :: r => P p.1 p.2 ∧ AllG P r
theorem AllG.get {P : Str → GK → Prop} : ∀ {l : List (Str × GK)} {x : Str} {g : GK}, AllG P l → l.lookup x = some g → P x g
  | [], _, _, _, e => by cases e
  | (y, k) :: r, x, g, h, e => by
    have e2 : (match x == y with | true => some k | false => r.lookup x) = some g := e
    cases q : (x == y) with
    | true =>
      rw [q] at e2
      have : k = g := Option.some.inj e2
      subst this
      rw [beq_iff_eq.mp q]
      exact h.1
    | false =>
      rw [q] at e2
      exact AllG.get h.2 e2
theorem AllG.app {P : Str → GK → Prop} : ∀ {l m : List (Str × GK)}, AllG P l → AllG P m → AllG P (l ++ m)
  | [], _, _, h => h
  | _ :: _, _, h, k => ⟨h.1, AllG.app h.2 k⟩
def AllL (P : Nat → FD → Prop) : List (Nat × FD) → Prop
  | [] => True
  | (i, d) :: r => P i d ∧ AllL P r
theorem AllL.app {P : Nat → FD → Prop} : ∀ {l m : List (Nat × FD)}, AllL P l → AllL P m → AllL P (l ++ m)
  | [], _, _, h => h
  | (_, _) :: _, _, h, k => ⟨h.1, AllL.app h.2 k⟩
theorem AllL.get {P : Nat → FD → Prop} : ∀ {l : List (Nat × FD)} {f : Nat} {d : FD}, AllL P l → l.lookup f = some d → P f d
  | [], _, _, _, e => by cases e
  | (i, x) :: r, f, d, h, e => by
    have h2 : (match f == i with | true => some x | false => r.lookup f) = some d := e
    cases q : (f == i) with
    | true =>
      rw [q] at h2
      have e1 : f = i := beq_iff_eq.mp q
      have e2 : x = d := Option.some.inj h2
      subst e1 e2
      exact h.1
    | false =>
      rw [q] at h2
      exact AllL.get h.2 h2
end LN

set_option maxRecDepth 100000
namespace LP
open PySem L2 LN
def B3 : List IS := [(.ret (.and (.isi [.bt .int] (.var 0)) (.not (.isi [.bt .bool] (.var 0)))))]
def D3 : FD := ⟨0, 1, 1, B3, .pl, false⟩ -- is_whole
def B4 : List IS := [(.ret (.and (.call 3 [(.var 0)]) (.chain .le .le (.var 1) (.var 0) (.var 2))))]
def D4 : FD := ⟨0, 3, 3, B4, .pl, false⟩ -- is_number
def B5 : List IS := [(.ite (.or (.not (.isi [.bt .str] (.var 0))) (.not (.chain .le .le (.con (.int 1)) (.pb .len false [(.var 0)]) (.con (.int 8))))) [(.ret (.con (.bl false)))] []), (.ret (.pb .all false [(.lc false [1] (.nm 1) 0 [(.var 0)] none (.p2 .inn (.var 1) (.con (.str [97,98,99,100,101,102,103,104,105,106,107,108,109,110,111,112,113,114,115,116,117,118,119,120,121,122]))))]))]
def D5 : FD := ⟨0, 1, 2, B5, .pl, false⟩ -- is_name
def B6 : List IS := [(.ite (.or (.not (.isi [.bt .tup] (.var 0))) (.or (.not (.chain .le .le (.con (.int 2)) (.pb .len false [(.var 0)]) (.con (.int 4)))) (.not (.call 5 [(.p2 .idx (.var 0) (.con (.int 1)))])))) [(.ret (.con (.bl false)))] []), (.ite (.not (.isi [.bt .str] (.p2 .idx (.var 0) (.con (.int 0))))) [(.ret (.con (.bl false)))] []), (.ite (.p2 .eq (.p2 .idx (.var 0) (.con (.int 0))) (.con (.str [117,115,101]))) [(.ret (.p2 .eq (.pb .len false [(.var 0)]) (.con (.int 2))))] []), (.ite (.p2 .eq (.p2 .idx (.var 0) (.con (.int 0))) (.con (.str [106,111,105,110]))) [(.ret (.and (.p2 .eq (.pb .len false [(.var 0)]) (.con (.int 3))) (.call 7 [(.p2 .idx (.var 0) (.con (.int 2)))])))] []), (.ret (.and (.p2 .eq (.p2 .idx (.var 0) (.con (.int 0))) (.con (.str [98,105,110,100]))) (.and (.p2 .eq (.pb .len false [(.var 0)]) (.con (.int 4))) (.and (.call 7 [(.p2 .idx (.var 0) (.con (.int 2)))]) (.call 6 [(.p2 .idx (.var 0) (.con (.int 3)))])))))]
def D6 : FD := ⟨0, 1, 1, B6, .pl, false⟩ -- is_tree
def B7 : List IS := [(.ret (.and (.isi [.bt .tup] (.var 0)) (.pb .all false [(.lc false [1] (.nm 1) 0 [(.var 0)] none (.call 6 [(.var 1)]))])))]
def D7 : FD := ⟨0, 1, 2, B7, .pl, false⟩ -- are_trees
def B8 : List IS := [(.ite (.p2 .eq (.p2 .idx (.var 0) (.con (.int 0))) (.con (.str [117,115,101]))) [(.ret (.disp .lst [] []))] []), (.ret (.ite (.p2 .eq (.p2 .idx (.var 0) (.con (.int 0))) (.con (.str [106,111,105,110]))) (.pb .list false [(.p2 .idx (.var 0) (.con (.int 2)))]) (.disp .lst [true,false] [(.p2 .idx (.var 0) (.con (.int 2))),(.p2 .idx (.var 0) (.con (.int 3)))])))]
def D8 : FD := ⟨0, 1, 1, B8, .pl, false⟩ -- parts_of
def B9 : List IS := [(.ret (.p2 .add (.con (.int 1)) (.pb .max false [(.disp .lst [false,true] [(.con (.int 0)),(.lc false [1] (.nm 1) 0 [(.call 8 [(.var 0)])] none (.pb .int false [(.call 9 [(.var 1)])]))])])))]
def D9 : FD := ⟨0, 1, 2, B9, .pl, false⟩ -- deep_of
def B10 : List IS := [(.setF (.var 0) 1 (.disp .cell [] [])), (.setF (.var 0) 2 (.disp .cell [] [])), (.setF (.var 0) 3 (.disp .cell [] [])), (.setF (.var 0) 4 (.disp .cell [] [])), (.drop (.meth 1 (.var 0) [(.var 1),(.disp .tup [] [])]))]
def D10 : FD := ⟨2, 2, 2, B10, .pl, false⟩ -- Flat.__init__
def B11 : List IS := [(.drop (.pm .append (.attr 1 (.var 0)) [(.var 1)])), (.drop (.pm .append (.attr 2 (.var 0)) [(.var 2)])), (.ite (.p2 .eq (.p2 .idx (.var 1) (.con (.int 0))) (.con (.str [117,115,101]))) [(.drop (.pm .append (.attr 4 (.var 0)) [(.p2 .sub (.pb .len false [(.attr 1 (.var 0))]) (.con (.int 1)))]))] [(.ite (.p2 .eq (.p2 .idx (.var 1) (.con (.int 0))) (.con (.str [106,111,105,110]))) [(.for (.nm 3) 0 [(.p2 .idx (.var 1) (.con (.int 2)))] [(.drop (.meth 1 (.var 0) [(.var 3),(.var 2)]))])] [(.asg (.nm 4) (.pb .len false [(.attr 3 (.var 0))])), (.drop (.pm .append (.attr 3 (.var 0)) [(.p2 .sub (.pb .len false [(.attr 1 (.var 0))]) (.con (.int 1)))])), (.for (.nm 3) 0 [(.p2 .idx (.var 1) (.con (.int 2)))] [(.drop (.meth 1 (.var 0) [(.var 3),(.var 2)]))]), (.drop (.meth 1 (.var 0) [(.p2 .idx (.var 1) (.con (.int 3))),(.disp .tup [true,false] [(.var 2),(.var 4)])]))])])]
def D11 : FD := ⟨2, 3, 5, B11, .pl, false⟩ -- Flat.add
def B12 : List IS := [(.ite (.not (.call 6 [(.var 1)])) [.nev] []), (.asg (.nm 2) (.make 0 10 false [(.var 1)])), (.ite (.p2 .gt (.pb .len false [(.attr 1 (.var 2))]) (.con (.int 400))) [.nev] []), (.ite (.p2 .gt (.pb .len false [(.attr 3 (.var 2))]) (.con (.int 60))) [.nev] []), (.ite (.p2 .gt (.call 9 [(.var 1)]) (.con (.int 100))) [.nev] []), (.setF (.var 0) 5 (.var 1)), (.setF (.var 0) 6 (.attr 1 (.var 2))), (.setF (.var 0) 7 (.attr 2 (.var 2))), (.setF (.var 0) 3 (.attr 3 (.var 2))), (.setF (.var 0) 4 (.attr 4 (.var 2))), (.setF (.var 0) 8 (.pb .tuple true [(.lc false [3] (.nm 3) 0 [(.attr 3 (.var 2))] none (.p2 .idx (.p2 .idx (.attr 1 (.var 2)) (.var 3)) (.con (.int 1))))])), (.setF (.var 0) 9 (.lc true [3] (.nm 3) 0 [(.attr 4 (.var 2))] none (.p2 .idx (.attr 2 (.var 2)) (.var 3)))), (.setF (.var 0) 10 (.lc true [3] (.nm 3) 0 [(.attr 4 (.var 2))] none (.meth 2 (.var 0) [(.var 3)])))]
def D12 : FD := ⟨2, 2, 4, B12, .pl, false⟩ -- Term.__init__
def B13 : List IS := [(.asg (.nm 2) (.p2 .idx (.p2 .idx (.attr 6 (.var 0)) (.var 1)) (.con (.int 1)))), (.asg (.nm 3) (.lc false [4] (.nm 4) 0 [(.p2 .idx (.attr 7 (.var 0)) (.var 1))] (some (.p2 .eq (.p2 .idx (.attr 8 (.var 0)) (.var 4)) (.var 2))) (.var 4))), (.ret (.ite (.p2 .ne (.var 3) (.disp .lst [] [])) (.p2 .idx (.var 3) (.neg (.con (.int 1)))) (.var 2)))]
def D13 : FD := ⟨2, 2, 5, B13, .pl, false⟩ -- Term.meant
def B14 : List IS := [(.ret (.attr 5 (.var 0)))]
def D14 : FD := ⟨0, 1, 1, B14, .pl, false⟩ -- Term.tree
def B15 : List IS := [(.ret (.pb .list false [(.attr 6 (.var 0))]))]
def D15 : FD := ⟨0, 1, 1, B15, .pl, false⟩ -- Term.listed
def B16 : List IS := [(.ret (.pb .list false [(.attr 3 (.var 0))]))]
def D16 : FD := ⟨0, 1, 1, B16, .pl, false⟩ -- Term.binders
def B17 : List IS := [(.ret (.pb .list false [(.attr 4 (.var 0))]))]
def D17 : FD := ⟨0, 1, 1, B17, .pl, false⟩ -- Term.uses
def B18 : List IS := [(.ret (.call 9 [(.attr 5 (.var 0))]))]
def D18 : FD := ⟨0, 1, 1, B18, .pl, false⟩ -- Term.depth
def B19 : List IS := [(.ret (.pb .len false [(.attr 6 (.var 0))]))]
def D19 : FD := ⟨0, 1, 1, B19, .pl, false⟩ -- Term.__len__
def B20 : List IS := [(.ite (.not (.call 4 [(.var 1),(.con (.int 0)),(.p2 .sub (.pb .len false [(.attr 6 (.var 0))]) (.con (.int 1)))])) [.nev] []), (.ret (.p2 .idx (.attr 6 (.var 0)) (.var 1)))]
def D20 : FD := ⟨0, 2, 2, B20, .pl, false⟩ -- Term.__getitem__
def B21 : List IS := [(.ret (.and (.call 6 [(.var 1)]) (.p2 .inn (.var 1) (.attr 6 (.var 0)))))]
def D21 : FD := ⟨0, 2, 2, B21, .pl, false⟩ -- Term.__contains__
def B23 : List IS := [(.ret (.and (.isi [.cls 1] (.var 1)) (.p2 .eq (.attr 5 (.var 0)) (.attr 5 (.var 1)))))]
def D23 : FD := ⟨0, 2, 2, B23, .pl, false⟩ -- Term.__eq__
def B24 : List IS := [(.ret (.make 1 12 true [(.disp .tup [false,false] [(.con (.str [117,115,101])),(.var 0)])]))]
def D24 : FD := ⟨0, 1, 1, B24, .pl, false⟩ -- Term.of_use
def B28 : List IS := [(.ret (.isi [.bt .lst,.bt .tup] (.var 0)))]
def D28 : FD := ⟨0, 1, 1, B28, .pl, false⟩ -- is_line
def B29 : List IS := [(.ret (.pb .list false [(.dc [1] (.nm 1) 0 [(.var 0)] none (.var 1) (.con (.bl true)))]))]
def D29 : FD := ⟨0, 1, 2, B29, .pl, false⟩ -- each_once
def B30 : List IS := [(.ret (.pb .sortLN false [(.call 29 [(.var 0)])]))]
def D30 : FD := ⟨0, 1, 1, B30, .pl, true⟩ -- ordered
def B31 : List IS := [(.ite (.or (.not (.call 28 [(.var 0)])) (.not (.pb .all false [(.lc false [1] (.nm 1) 0 [(.var 0)] none (.call 5 [(.var 1)]))]))) [.nev] []), (.ret (.call 30 [(.var 0)]))]
def D31 : FD := ⟨0, 1, 2, B31, .pl, false⟩ -- in_order
def B32 : List IS := [(.ret (.ite (.isi [.cls 1] (.var 0)) (.attr 5 (.var 0)) (.var 0)))]
def D32 : FD := ⟨0, 1, 1, B32, .pl, false⟩ -- tree_in
def B34 : List IS := [(.ite (.not (.isi [.cls 1] (.var 0))) [.nev] [])]
def D34 : FD := ⟨0, 1, 1, B34, .pl, false⟩ -- look_at_term
def B35 : List IS := [(.drop (.call 34 [(.var 0)])), (.ite (.not (.call 4 [(.var 1),(.con (.int 0)),(.p2 .sub (.pb .len false [(.attr 8 (.var 0))]) (.con (.int 1)))])) [.nev] [])]
def D35 : FD := ⟨0, 2, 2, B35, .pl, false⟩ -- look_at_binder
def B36 : List IS := [(.drop (.call 34 [(.var 0)])), (.ret (.attr 8 (.var 0)))]
def D36 : FD := ⟨0, 1, 1, B36, .pl, false⟩ -- names_of
def B37 : List IS := [(.ret (.call 30 [(.lc false [1] (.nm 1) 0 [(.attr 10 (.var 0))] (some (.isi [.bt .str] (.var 1))) (.var 1))]))]
def D37 : FD := ⟨0, 1, 2, B37, .pl, false⟩ -- free_of
def B38 : List IS := [(.drop (.call 34 [(.var 0)])), (.ret (.call 37 [(.var 0)]))]
def D38 : FD := ⟨0, 1, 1, B38, .pl, false⟩ -- free_names
def B39 : List IS := [(.drop (.call 34 [(.var 0)])), (.ite (.not (.call 4 [(.var 1),(.con (.int 0)),(.p2 .sub (.pb .len false [(.attr 6 (.var 0))]) (.con (.int 1)))])) [.nev] []), (.ret (.pb .list false [(.p2 .idx (.attr 7 (.var 0)) (.var 1))]))]
def D39 : FD := ⟨0, 2, 2, B39, .pl, false⟩ -- binders_around
def B40 : List IS := [(.drop (.call 34 [(.var 0)])), (.ret (.pb .list false [(.attr 10 (.var 0))]))]
def D40 : FD := ⟨0, 1, 1, B40, .pl, false⟩ -- meaning
def B41 : List IS := [(.drop (.call 35 [(.var 0),(.var 1)])), (.ret (.lc false [2,3] (.tup [(.nm 2),(.nm 3)]) 2 [(.attr 10 (.var 0))] (some (.p2 .eq (.var 3) (.var 1))) (.var 2)))]
def D41 : FD := ⟨0, 2, 4, B41, .pl, false⟩ -- uses_of
def B42 : List IS := [(.ite (.p2 .eq (.p2 .idx (.var 0) (.con (.int 0))) (.con (.str [117,115,101]))) [(.ret (.disp .tup [false,false] [(.con (.str [117,115,101])),(.con .non)]))] []), (.asg (.nm 1) (.pb .tuple false [(.lc false [2] (.nm 2) 0 [(.p2 .idx (.var 0) (.con (.int 2)))] none (.call 42 [(.var 2)]))])), (.ret (.ite (.p2 .eq (.p2 .idx (.var 0) (.con (.int 0))) (.con (.str [106,111,105,110]))) (.disp .tup [false,false,false] [(.con (.str [106,111,105,110])),(.p2 .idx (.var 0) (.con (.int 1))),(.var 1)]) (.disp .tup [false,false,false,false] [(.con (.str [98,105,110,100])),(.con .non),(.var 1),(.call 42 [(.p2 .idx (.var 0) (.con (.int 3)))])])))]
def D42 : FD := ⟨0, 1, 3, B42, .pl, false⟩ -- bare
def B43 : List IS := [(.drop (.call 34 [(.var 0)])), (.ret (.call 42 [(.attr 5 (.var 0))]))]
def D43 : FD := ⟨0, 1, 1, B43, .pl, false⟩ -- shape_of
def B44 : List IS := [(.drop (.call 34 [(.var 0)])), (.drop (.call 34 [(.var 1)])), (.ret (.and (.p2 .eq (.call 42 [(.attr 5 (.var 0))]) (.call 42 [(.attr 5 (.var 1))])) (.p2 .eq (.attr 10 (.var 0)) (.attr 10 (.var 1)))))]
def D44 : FD := ⟨0, 2, 2, B44, .pl, false⟩ -- alike
def B45 : List IS := [(.ite (.or (.not (.call 28 [(.var 1)])) (.p2 .ne (.pb .len false [(.var 1)]) (.pb .len false [(.attr 8 (.var 0))]))) [(.ret (.con (.bl false)))] []), (.ret (.pb .all false [(.lc false [2] (.nm 2) 0 [(.var 1)] none (.call 5 [(.var 2)]))]))]
def D45 : FD := ⟨0, 2, 3, B45, .pl, false⟩ -- are_such_names
def B46 : List IS := [(.drop (.call 34 [(.var 0)])), (.ret (.call 45 [(.var 0),(.var 1)]))]
def D46 : FD := ⟨0, 2, 2, B46, .pl, false⟩ -- are_names
def B47 : List IS := [(.drop (.call 34 [(.var 0)])), (.ite (.not (.call 45 [(.var 0),(.var 1)])) [.nev] [])]
def D47 : FD := ⟨0, 2, 2, B47, .pl, false⟩ -- look_at_names
def B48 : List IS := [(.setF (.var 0) 13 (.pb .list true [(.var 1)])), (.setF (.var 0) 14 (.pb .list true [(.var 2)]))]
def D48 : FD := ⟨0, 3, 3, B48, .pl, false⟩ -- Writer.__init__
def B49 : List IS := [(.ite (.p2 .eq (.p2 .idx (.var 1) (.con (.int 0))) (.con (.str [117,115,101]))) [(.ret (.disp .tup [false,false] [(.con (.str [117,115,101])),(.pm .popAt (.attr 14 (.var 0)) [(.con (.int 0))])]))] []), (.ite (.p2 .eq (.p2 .idx (.var 1) (.con (.int 0))) (.con (.str [106,111,105,110]))) [(.ret (.disp .tup [false,false,false] [(.con (.str [106,111,105,110])),(.p2 .idx (.var 1) (.con (.int 1))),(.pb .tuple false [(.lc false [4] (.nm 4) 0 [(.p2 .idx (.var 1) (.con (.int 2)))] none (.meth 16 (.var 0) [(.var 4)]))])]))] []), (.asg (.nm 2) (.pm .popAt (.attr 13 (.var 0)) [(.con (.int 0))])), (.asg (.nm 3) (.pb .tuple false [(.lc false [4] (.nm 4) 0 [(.p2 .idx (.var 1) (.con (.int 2)))] none (.meth 16 (.var 0) [(.var 4)]))])), (.ret (.disp .tup [false,false,false,false] [(.con (.str [98,105,110,100])),(.var 2),(.var 3),(.meth 16 (.var 0) [(.p2 .idx (.var 1) (.con (.int 3)))])]))]
def D49 : FD := ⟨0, 2, 5, B49, .pl, false⟩ -- Writer.anew
def B50 : List IS := [(.ret (.ite (.isi [.bt .str] (.var 1)) (.var 1) (.p2 .idx (.var 0) (.var 1))))]
def D50 : FD := ⟨2, 2, 2, B50, .pl, false⟩ -- name_for
def B51 : List IS := [(.ret (.make 1 12 true [(.meth 16 (.make 2 48 false [(.var 2),(.lc false [3] (.nm 3) 0 [(.var 1)] none (.call 50 [(.var 2),(.var 3)]))]) [(.var 0)])]))]
def D51 : FD := ⟨0, 3, 4, B51, .pl, false⟩ -- written_by
def B52 : List IS := [(.drop (.call 47 [(.var 0),(.var 1)])), (.ret (.call 51 [(.attr 5 (.var 0)),(.attr 10 (.var 0)),(.var 1)]))]
def D52 : FD := ⟨0, 2, 2, B52, .pl, false⟩ -- written
def B53 : List IS := [(.ret (.ite (.isi [.bt .str] (.var 1)) (.pb .list false [(.var 0)]) (.lc false [2] (.nm 2) 0 [(.var 0)] (some (.p2 .gt (.var 2) (.var 1))) (.var 2))))]
def D53 : FD := ⟨0, 2, 3, B53, .pl, false⟩ -- inner
def B54 : List IS := [(.asg (.nm 2) (.disp .cell [] [])), (.for (.tup [(.nm 3),(.nm 4)]) 2 [(.attr 10 (.var 0))] [(.asg (.nm 5) (.lc false [6] (.nm 6) 0 [(.call 53 [(.p2 .idx (.attr 9 (.var 0)) (.var 3)),(.var 4)])] (some (.p2 .eq (.p2 .idx (.var 1) (.var 6)) (.call 50 [(.var 1),(.var 4)]))) (.var 6))), (.drop (.pm .extend (.var 2) [(.lc false [6] (.nm 6) 0 [(.var 5)] none (.disp .tup [false,false,false] [(.var 3),(.var 6),(.var 4)]))]))]), (.ret (.var 2))]
def D54 : FD := ⟨0, 2, 7, B54, .pl, false⟩ -- catches_of
def B55 : List IS := [(.drop (.call 47 [(.var 0),(.var 1)])), (.ret (.p2 .eq (.call 54 [(.var 0),(.var 1)]) (.disp .lst [] [])))]
def D55 : FD := ⟨0, 2, 2, B55, .pl, false⟩ -- is_right
def B56 : List IS := [(.drop (.call 47 [(.var 0),(.var 1)])), (.ret (.call 54 [(.var 0),(.var 1)]))]
def D56 : FD := ⟨0, 2, 2, B56, .pl, false⟩ -- catches
def B57 : List IS := [(.asg (.nm 1) (.lc true [5] (.nm 5) 0 [(.attr 8 (.var 0))] none (.dict []))), (.for (.tup [(.nm 2),(.nm 3)]) 2 [(.attr 10 (.var 0))] [(.for (.nm 4) 0 [(.call 53 [(.p2 .idx (.attr 9 (.var 0)) (.var 2)),(.var 3)])] [(.setI (.p2 .idx (.var 1) (.var 4)) (.var 3) (.con (.bl true)))])]), (.ret (.lc false [6] (.nm 6) 0 [(.var 1)] none (.call 58 [(.var 6)])))]
def D57 : FD := ⟨0, 1, 7, B57, .pl, false⟩ -- all_live
def B58 : List IS := [(.asg (.nm 1) (.lcd false [2] (.nm 2) (.var 0) (some (.not (.isi [.bt .str] (.var 2)))) (.var 2))), (.ret (.disp .lst [true,true] [(.pb .sorted false [(.var 1)]),(.call 30 [(.lcd false [2] (.nm 2) (.var 0) (some (.isi [.bt .str] (.var 2))) (.var 2))])]))]
def D58 : FD := ⟨2, 1, 3, B58, .pl, false⟩ -- in_line
def B59 : List IS := [(.drop (.call 35 [(.var 0),(.var 1)])), (.ret (.p2 .idx (.call 57 [(.var 0)]) (.var 1)))]
def D59 : FD := ⟨0, 2, 2, B59, .pl, false⟩ -- live_at
def B60 : List IS := [(.asg (.nm 1) (.disp .cell [] [])), (.for (.tup [(.nm 2),(.nm 3)]) 2 [(.call 57 [(.var 0)])] [(.drop (.pm .extend (.var 1) [(.lc false [4] (.nm 4) 0 [(.var 3)] none (.disp .tup [false,false] [(.var 4),(.var 2)]))]))]), (.ret (.var 1))]
def D60 : FD := ⟨0, 1, 5, B60, .pl, false⟩ -- pairs_of
def B61 : List IS := [(.drop (.call 34 [(.var 0)])), (.ret (.call 60 [(.var 0)]))]
def D61 : FD := ⟨0, 1, 1, B61, .pl, false⟩ -- clashes
def B62 : List IS := [(.drop (.call 35 [(.var 0),(.var 1)])), (.drop (.call 35 [(.var 0),(.var 2)])), (.par [3,4] [(.pb .min false [(.var 1),(.var 2)]),(.pb .max false [(.var 1),(.var 2)])]), (.ret (.p2 .inn (.var 3) (.p2 .idx (.call 57 [(.var 0)]) (.var 4))))]
def D62 : FD := ⟨0, 3, 5, B62, .pl, false⟩ -- do_clash
def B63 : List IS := [(.drop (.call 47 [(.var 0),(.var 1)])), (.ret (.lc false [2,3] (.tup [(.nm 2),(.nm 3)]) 0 [(.call 60 [(.var 0)])] (some (.p2 .eq (.call 50 [(.var 1),(.var 2)]) (.p2 .idx (.var 1) (.var 3)))) (.disp .tup [false,false] [(.var 2),(.var 3)])))]
def D63 : FD := ⟨0, 2, 4, B63, .pl, false⟩ -- hurt
def B65 : List IS := [(.ret (.p2 .eq (.pb .len false [(.dc [1] (.nm 1) 0 [(.var 0)] none (.var 1) (.con (.bl true)))]) (.pb .len false [(.var 0)])))]
def D65 : FD := ⟨0, 1, 2, B65, .pl, false⟩ -- are_unlike
def B66 : List IS := [(.asg (.tup [(.nm 2),(.nm 3),(.nm 4)]) (.disp .tup [false,false,false] [(.con (.int 1)),(.con (.int 0)),(.con (.int 26))])), (.whl (.p2 .ge (.var 0) (.p2 .add (.var 3) (.var 4))) [(.par [3,4,2] [(.p2 .add (.var 3) (.var 4)),(.p2 .mul (.var 4) (.con (.int 26))),(.p2 .add (.var 2) (.con (.int 1)))])]), (.par [5,6] [(.p2 .sub (.var 0) (.var 3)),(.con (.str []))]), (.for (.nm 1) 1 [(.var 2)] [(.asg (.nm 6) (.p2 .add (.p2 .idx (.con (.str [97,98,99,100,101,102,103,104,105,106,107,108,109,110,111,112,113,114,115,116,117,118,119,120,121,122])) (.p2 .mod (.var 5) (.con (.int 26)))) (.var 6))), (.aug 5 .fdiv (.con (.int 26)))]), (.ret (.var 6))]
def D66 : FD := ⟨0, 1, 7, B66, .pl, false⟩ -- name_at
def B67 : List IS := [(.par [2,3] [(.disp .cell [] []),(.con (.int 0))]), (.whl (.p2 .lt (.pb .len false [(.var 2)]) (.var 0)) [(.asg (.nm 4) (.call 66 [(.var 3)])), (.ite (.p2 .notin (.var 4) (.var 1)) [(.drop (.pm .append (.var 2) [(.var 4)]))] []), (.aug 3 .add (.con (.int 1)))]), (.ret (.var 2))]
def D67 : FD := ⟨0, 2, 5, B67, .pl, false⟩ -- first_names
def B68 : List IS := [(.ret (.lc false [1] (.nm 1) 0 [(.var 0)] (some (.not (.isi [.bt .str] (.var 1)))) (.var 1)))]
def D68 : FD := ⟨0, 1, 2, B68, .pl, false⟩ -- binders_in
def B69 : List IS := [(.ret (.pb .max false [(.disp .lst [false,true] [(.pb .len false [(.call 37 [(.var 0)])]),(.lc false [1] (.nm 1) 0 [(.call 57 [(.var 0)])] none (.p2 .add (.pb .len false [(.var 1)]) (.con (.int 1))))])]))]
def D69 : FD := ⟨0, 1, 2, B69, .pl, false⟩ -- width_of
def B70 : List IS := [(.drop (.call 34 [(.var 0)])), (.ret (.call 69 [(.var 0)]))]
def D70 : FD := ⟨0, 1, 1, B70, .pl, false⟩ -- width
def B71 : List IS := [(.drop (.call 34 [(.var 0)])), (.ite (.p2 .notB (.var 1) (.con (.bl true))) [(.ret (.call 69 [(.var 0)]))] []), (.ret (.p2 .add (.pb .len false [(.call 37 [(.var 0)])]) (.pb .max false [(.disp .lst [false,true] [(.con (.int 0)),(.lc false [2] (.nm 2) 0 [(.call 57 [(.var 0)])] none (.p2 .add (.pb .len false [(.call 68 [(.var 2)])]) (.con (.int 1))))])])))]
def D71 : FD := ⟨0, 2, 3, B71, .kw [("apart" : PySem.Str)] [(.bl false)], false⟩ -- fewest
def B72 : List IS := [(.asg (.nm 2) (.call 37 [(.var 0)])), (.asg (.nm 3) (.call 67 [(.pb .len false [(.attr 8 (.var 0))]),(.var 2)])), (.ret (.ite (.var 1) (.var 3) (.disp .lst [true,true] [(.var 2),(.var 3)])))]
def D72 : FD := ⟨0, 2, 4, B72, .pl, false⟩ -- pool_for
def B73 : List IS := [(.asg (.tup [(.nm 3),(.nm 4)]) (.disp .tup [false,false] [(.call 72 [(.var 0),(.var 1)]),(.disp .cell [] [])])), (.for (.nm 2) 0 [(.call 57 [(.var 0)])] [(.asg (.nm 5) (.lc false [6] (.nm 6) 0 [(.var 2)] none (.call 50 [(.var 4),(.var 6)]))), (.drop (.pm .append (.var 4) [(.p2 .idx (.lc false [7] (.nm 7) 0 [(.var 3)] (some (.p2 .notin (.var 7) (.var 5))) (.var 7)) (.con (.int 0)))]))]), (.ret (.pb .tuple false [(.var 4)]))]
def D73 : FD := ⟨0, 2, 8, B73, .pl, false⟩ -- told_for
def B74 : List IS := [(.drop (.call 34 [(.var 0)])), (.ret (.call 73 [(.var 0),(.p2 .isB (.var 1) (.con (.bl true)))]))]
def D74 : FD := ⟨0, 2, 2, B74, .kw [("apart" : PySem.Str)] [(.bl false)], false⟩ -- told_naming
def B75 : List IS := [(.ret (.pb .len false [(.dc [2] (.nm 2) 0 [(.disp .lst [true,true] [(.call 37 [(.var 0)]),(.var 1)])] none (.var 2) (.con (.bl true)))]))]
def D75 : FD := ⟨0, 2, 3, B75, .pl, false⟩ -- names_used
def B76 : List IS := [(.drop (.call 34 [(.var 0)])), (.ite (.or (.not (.isi [.bt .tup] (.var 1))) (.or (.p2 .ne (.pb .len false [(.var 1)]) (.con (.int 2))) (.not (.isi [.bt .tup] (.p2 .idx (.var 1) (.con (.int 0))))))) [(.ret (.con (.bl false)))] []), (.asg (.tup [(.nm 2),(.nm 3)]) (.var 1)), (.ite (.or (.not (.call 45 [(.var 0),(.var 2)])) (.p2 .ne (.call 54 [(.var 0),(.var 2)]) (.disp .lst [] []))) [(.ret (.con (.bl false)))] []), (.ite (.p2 .isN (.var 3) (.con .non)) [(.ret (.p2 .eq (.call 75 [(.var 0),(.var 2)]) (.pb .len false [(.call 37 [(.var 0)])])))] []), (.ite (.not (.call 4 [(.var 3),(.con (.int 0)),(.p2 .sub (.pb .len false [(.attr 8 (.var 0))]) (.con (.int 1)))])) [(.ret (.con (.bl false)))] []), (.ret (.p2 .eq (.call 75 [(.var 0),(.var 2)]) (.p2 .add (.pb .len false [(.p2 .idx (.call 57 [(.var 0)]) (.var 3))]) (.con (.int 1)))))]
def D76 : FD := ⟨0, 2, 4, B76, .pl, false⟩ -- accepts_fewest
def B77 : List IS := [(.ite (.or (.not (.call 28 [(.var 0)])) (.or (.p2 .gt (.pb .len false [(.var 0)]) (.con (.int 60))) (.not (.pb .all false [(.lc false [1] (.nm 1) 0 [(.var 0)] none (.call 5 [(.var 1)]))])))) [(.ret (.con (.bl false)))] []), (.ret (.call 65 [(.var 0)]))]
def D77 : FD := ⟨0, 1, 2, B77, .pl, false⟩ -- is_pool
def B78 : List IS := [(.drop (.call 34 [(.var 0)])), (.ite (.not (.call 77 [(.var 1)])) [.nev] [])]
def D78 : FD := ⟨0, 2, 2, B78, .pl, false⟩ -- look_at_pool
def B79 : List IS := [(.asg (.nm 2) (.disp .cell [] [])), (.for (.nm 3) 0 [(.call 57 [(.var 0)])] [(.asg (.nm 4) (.lc false [5] (.nm 5) 0 [(.var 3)] (some (.or (.not (.isi [.bt .str] (.var 5))) (.p2 .inn (.var 5) (.var 1)))) (.var 5))), (.drop (.pm .append (.var 2) [(.pb .max false [(.con (.int 0)),(.p2 .sub (.pb .len false [(.var 1)]) (.pb .len false [(.var 4)]))])]))]), (.ret (.var 2))]
def D79 : FD := ⟨0, 2, 6, B79, .pl, false⟩ -- choices_for
def B80 : List IS := [(.asg (.nm 1) (.con (.int 1))), (.for (.nm 2) 0 [(.var 0)] [(.aug 1 .mul (.var 2))]), (.ret (.var 1))]
def D80 : FD := ⟨0, 1, 3, B80, .pl, false⟩ -- product
def B81 : List IS := [(.drop (.call 78 [(.var 0),(.var 1)])), (.ret (.call 80 [(.call 79 [(.var 0),(.var 1)])]))]
def D81 : FD := ⟨0, 2, 2, B81, .pl, false⟩ -- how_many
def B82 : List IS := [(.asg (.nm 3) (.lc false [4] (.nm 4) 0 [(.var 0)] none (.call 50 [(.var 1),(.var 4)]))), (.ret (.lc false [5] (.nm 5) 0 [(.var 2)] (some (.p2 .notin (.var 5) (.var 3))) (.var 5)))]
def D82 : FD := ⟨2, 3, 6, B82, .pl, false⟩ -- let_at
def B83 : List IS := [(.par [3,4,5] [(.call 79 [(.var 0),(.var 1)]),(.disp .cell [] []),(.var 2)]), (.for (.tup [(.nm 6),(.nm 7)]) 2 [(.call 57 [(.var 0)])] [(.asg (.nm 8) (.call 80 [(.slice (.var 3) (some (.p2 .add (.var 6) (.con (.int 1)))) none false)])), (.drop (.pm .append (.var 4) [(.p2 .idx (.call 82 [(.var 7),(.var 4),(.var 1)]) (.p2 .fdiv (.var 5) (.var 8)))])), (.aug 5 .mod (.var 8))]), (.ret (.pb .tuple false [(.var 4)]))]
def D83 : FD := ⟨0, 3, 9, B83, .pl, false⟩ -- naming_by
def B85 : List IS := [(.asg (.nm 1) (.call 69 [(.var 0)])), (.ite (.p2 .eq (.pb .len false [(.call 37 [(.var 0)])]) (.var 1)) [(.ret (.con .non))] []), (.ret (.pm .index (.lc false [2] (.nm 2) 0 [(.call 57 [(.var 0)])] none (.p2 .add (.pb .len false [(.var 2)]) (.con (.int 1)))) [(.var 1)]))]
def D85 : FD := ⟨0, 1, 3, B85, .pl, false⟩ -- crowded
def B86 : List IS := [(.drop (.call 34 [(.var 0)])), (.asg (.nm 1) (.call 85 [(.var 0)])), (.ret (.ite (.p2 .isN (.var 1) (.con .non)) (.call 37 [(.var 0)]) (.disp .lst [true,false] [(.p2 .idx (.call 57 [(.var 0)]) (.var 1)),(.var 1)])))]
def D86 : FD := ⟨0, 1, 2, B86, .pl, false⟩ -- crowd
def B87 : List IS := [(.drop (.call 34 [(.var 0)])), (.ret (.disp .tup [false,false] [(.call 73 [(.var 0),(.con (.bl false))]),(.call 85 [(.var 0)])]))]
def D87 : FD := ⟨0, 1, 1, B87, .pl, false⟩ -- fewest_paper
def B89 : List IS := [(.drop (.call 78 [(.var 0),(.var 1)])), (.ite (.not (.call 4 [(.var 2),(.con (.int 0)),(.p2 .sub (.call 80 [(.call 79 [(.var 0),(.var 1)])]) (.con (.int 1)))])) [.nev] []), (.ret (.call 83 [(.var 0),(.var 1),(.var 2)]))]
def D89 : FD := ⟨0, 3, 3, B89, .pl, false⟩ -- naming_at
def B90 : List IS := [(.ite (.or (.not (.call 45 [(.var 0),(.var 2)])) (.not (.pb .all false [(.lc false [3] (.nm 3) 0 [(.var 2)] none (.p2 .inn (.var 3) (.var 1)))]))) [(.ret (.con (.bl false)))] []), (.ret (.p2 .eq (.call 54 [(.var 0),(.var 2)]) (.disp .lst [] [])))]
def D90 : FD := ⟨0, 3, 4, B90, .pl, false⟩ -- is_from
def B91 : List IS := [(.drop (.call 78 [(.var 0),(.var 1)])), (.ite (.not (.call 90 [(.var 0),(.var 1),(.var 2)])) [.nev] []), (.par [3,4] [(.call 79 [(.var 0),(.var 1)]),(.con (.int 0))]), (.for (.tup [(.nm 5),(.nm 6)]) 2 [(.call 57 [(.var 0)])] [(.asg (.nm 4) (.p2 .add (.p2 .mul (.var 4) (.p2 .idx (.var 3) (.var 5))) (.pm .index (.call 82 [(.var 6),(.pb .list false [(.slice (.var 2) none (some (.var 5)) false)]),(.var 1)]) [(.p2 .idx (.var 2) (.var 5))])))]), (.ret (.var 4))]
def D91 : FD := ⟨0, 3, 7, B91, .pl, false⟩ -- number_of
def B99 : List IS := [(.drop (.call 47 [(.var 0),(.var 1)])), (.ite (.p2 .ne (.call 54 [(.var 0),(.var 1)]) (.disp .lst [] [])) [.nev] [])]
def D99 : FD := ⟨0, 2, 2, B99, .pl, false⟩ -- look_at_right
def B100 : List IS := [(.ite (.or (.not (.call 28 [(.var 1)])) (.p2 .ne (.pb .len false [(.var 1)]) (.pb .len false [(.attr 8 (.var 0))]))) [(.ret (.con (.bl false)))] []), (.ret (.pb .all false [(.lc false [2] (.nm 2) 0 [(.var 1)] none (.or (.p2 .isN (.var 2) (.con .non)) (.call 5 [(.var 2)])))]))]
def D100 : FD := ⟨0, 2, 3, B100, .pl, false⟩ -- are_such_wishes
def B101 : List IS := [(.drop (.call 34 [(.var 0)])), (.ret (.call 100 [(.var 0),(.var 1)]))]
def D101 : FD := ⟨0, 2, 2, B101, .pl, false⟩ -- are_wishes
def B102 : List IS := [(.ite (.or (.not (.call 28 [(.var 1)])) (.p2 .ne (.pb .len false [(.var 1)]) (.pb .len false [(.attr 8 (.var 0))]))) [(.ret (.con (.bl false)))] []), (.ret (.pb .all false [(.lc false [2] (.nm 2) 0 [(.var 1)] none (.call 4 [(.var 2),(.con (.int 0)),(.con (.int 1000))]))]))]
def D102 : FD := ⟨0, 2, 3, B102, .pl, false⟩ -- are_such_weights
def B103 : List IS := [(.drop (.call 34 [(.var 0)])), (.ret (.call 102 [(.var 0),(.var 1)]))]
def D103 : FD := ⟨0, 2, 2, B103, .pl, false⟩ -- are_weights
def B104 : List IS := [(.drop (.call 34 [(.var 0)])), (.ite (.not (.call 100 [(.var 0),(.var 1)])) [.nev] [])]
def D104 : FD := ⟨0, 2, 2, B104, .pl, false⟩ -- look_at_wishes
def B105 : List IS := [(.drop (.call 104 [(.var 0),(.var 1)])), (.ite (.not (.call 102 [(.var 0),(.var 2)])) [.nev] [])]
def D105 : FD := ⟨0, 3, 3, B105, .pl, false⟩ -- look_at_both
def B106 : List IS := [(.ret (.lc false [2,3] (.tup [(.nm 2),(.nm 3)]) 2 [(.var 1)] (some (.and (.p2 .notN (.var 3) (.con .non)) (.p2 .notin (.var 3) (.p2 .idx (.var 0) (.var 2))))) (.var 2)))]
def D106 : FD := ⟨0, 2, 4, B106, .pl, false⟩ -- wishing
def B107 : List IS := [(.ret (.lc false [4] (.nm 4) 0 [(.var 3)] (some (.and (.p2 .ne (.var 4) (.var 2)) (.and (.p2 .eq (.p2 .idx (.var 1) (.var 4)) (.p2 .idx (.var 1) (.var 2))) (.p2 .inn (.var 2) (.p2 .idx (.var 0) (.var 4)))))) (.var 4)))]
def D107 : FD := ⟨0, 4, 5, B107, .pl, false⟩ -- mates_of
def B109 : List IS := [(.par [4,5] [(.call 108 [(.var 0),(.var 1),(.var 2)]),(.disp .cell [] [])]), (.for (.nm 3) 0 [(.call 106 [(.var 0),(.var 1)])] [(.asg (.nm 6) (.lc false [7] (.nm 7) 0 [(.var 5)] (some (.and (.p2 .eq (.p2 .idx (.var 1) (.var 7)) (.p2 .idx (.var 1) (.var 3))) (.p2 .inn (.var 7) (.p2 .idx (.var 0) (.var 3))))) (.var 7))), (.ite (.and (.p2 .gt (.p2 .idx (.var 4) (.var 3)) (.con (.int 0))) (.p2 .eq (.var 6) (.disp .lst [] []))) [(.drop (.pm .append (.var 5) [(.var 3)]))] [])]), (.ret (.var 5))]
def D109 : FD := ⟨0, 3, 8, B109, .pl, false⟩ -- kept_of
def B110 : List IS := [(.asg (.nm 4) (.call 109 [(.call 57 [(.var 0)]),(.var 1),(.var 2)])), (.asg (.nm 5) (.dc [7] (.nm 7) 0 [(.disp .lst [true,true,true] [(.call 37 [(.var 0)]),(.var 1),(.var 3)])] none (.var 7) (.con (.bl true)))), (.asg (.nm 6) (.call 67 [(.pb .len false [(.var 1)]),(.var 5)])), (.ret (.pb .tuple false [(.lc false [8] (.nm 8) 1 [(.pb .len false [(.var 1)])] none (.ite (.p2 .inn (.var 8) (.var 4)) (.p2 .idx (.var 1) (.var 8)) (.pm .popAt (.var 6) [(.con (.int 0))])))]))]
def D110 : FD := ⟨0, 4, 9, B110, .pl, false⟩ -- told_by
def B111 : List IS := [(.ret (.lc false [2,3] (.tup [(.nm 2),(.nm 3)]) 2 [(.var 0)] (some (.and (.p2 .notN (.var 3) (.con .non)) (.p2 .eq (.var 3) (.p2 .idx (.var 1) (.var 2))))) (.var 2)))]
def D111 : FD := ⟨0, 2, 4, B111, .pl, false⟩ -- kept_binders
def B112 : List IS := [(.drop (.call 104 [(.var 0),(.var 1)])), (.drop (.call 99 [(.var 0),(.var 2)])), (.ret (.call 111 [(.var 1),(.var 2)]))]
def D112 : FD := ⟨0, 3, 3, B112, .pl, false⟩ -- kept_by
def B113 : List IS := [(.drop (.call 105 [(.var 0),(.var 1),(.var 2)])), (.drop (.call 99 [(.var 0),(.var 3)])), (.ret (.pb .sum false [(.lc false [4] (.nm 4) 0 [(.call 111 [(.var 1),(.var 3)])] none (.p2 .idx (.var 2) (.var 4)))]))]
def D113 : FD := ⟨0, 4, 5, B113, .pl, false⟩ -- kept_weight
def B114 : List IS := [(.drop (.call 105 [(.var 0),(.var 1),(.var 2)])), (.ret (.call 110 [(.var 0),(.var 1),(.var 2),(.attr 8 (.var 0))]))]
def D114 : FD := ⟨0, 3, 3, B114, .pl, false⟩ -- told_kept
def B115 : List IS := [(.drop (.call 105 [(.var 0),(.var 1),(.var 2)])), (.ret (.pb .sum false [(.call 108 [(.call 57 [(.var 0)]),(.var 1),(.var 2)])]))]
def D115 : FD := ⟨0, 3, 3, B115, .pl, false⟩ -- most_kept
def B116 : List IS := [(.drop (.call 105 [(.var 0),(.var 1),(.var 2)])), (.ret (.call 108 [(.call 57 [(.var 0)]),(.var 1),(.var 2)]))]
def D116 : FD := ⟨0, 3, 3, B116, .pl, false⟩ -- told_prices
def B117 : List IS := [(.ite (.or (.not (.isi [.bt .lst] (.var 3))) (.p2 .ne (.pb .len false [(.var 3)]) (.pb .len false [(.var 1)]))) [(.ret (.con (.bl false)))] []), (.ite (.not (.pb .all false [(.lc false [8] (.nm 8) 0 [(.var 3)] none (.and (.call 3 [(.var 8)]) (.p2 .ge (.var 8) (.con (.int 0)))))])) [(.ret (.con (.bl false)))] []), (.asg (.nm 4) (.call 57 [(.var 0)])), (.asg (.nm 5) (.call 106 [(.var 4),(.var 1)])), (.ite (.pb .any false [(.lc false [6] (.nm 6) 1 [(.pb .len false [(.var 1)])] (some (.p2 .notin (.var 6) (.var 5))) (.p2 .ne (.p2 .idx (.var 3) (.var 6)) (.con (.int 0))))]) [(.ret (.con (.bl false)))] []), (.for (.nm 6) 0 [(.var 5)] [(.asg (.nm 7) (.pb .sum false [(.lc false [9] (.nm 9) 0 [(.call 107 [(.var 4),(.var 1),(.var 6),(.var 5)])] none (.p2 .idx (.var 3) (.var 9)))])), (.ite (.p2 .lt (.p2 .add (.p2 .idx (.var 3) (.var 6)) (.var 7)) (.p2 .idx (.var 2) (.var 6))) [(.ret (.con (.bl false)))] [])]), (.ret (.con (.bl true)))]
def D117 : FD := ⟨0, 4, 10, B117, .pl, false⟩ -- are_such_prices
def B118 : List IS := [(.drop (.call 105 [(.var 0),(.var 1),(.var 2)])), (.ret (.call 117 [(.var 0),(.var 1),(.var 2),(.var 3)]))]
def D118 : FD := ⟨0, 4, 4, B118, .pl, false⟩ -- are_prices
def B119 : List IS := [(.drop (.call 105 [(.var 0),(.var 1),(.var 2)])), (.ret (.disp .tup [false,false] [(.call 110 [(.var 0),(.var 1),(.var 2),(.attr 8 (.var 0))]),(.call 108 [(.call 57 [(.var 0)]),(.var 1),(.var 2)])]))]
def D119 : FD := ⟨0, 3, 3, B119, .pl, false⟩ -- kept_paper
def B120 : List IS := [(.drop (.call 105 [(.var 0),(.var 1),(.var 2)])), (.ite (.or (.not (.isi [.bt .tup] (.var 3))) (.or (.p2 .ne (.pb .len false [(.var 3)]) (.con (.int 2))) (.not (.isi [.bt .tup] (.p2 .idx (.var 3) (.con (.int 0))))))) [(.ret (.con (.bl false)))] []), (.asg (.tup [(.nm 4),(.nm 5)]) (.var 3)), (.ite (.or (.not (.call 45 [(.var 0),(.var 4)])) (.p2 .ne (.call 54 [(.var 0),(.var 4)]) (.disp .lst [] []))) [(.ret (.con (.bl false)))] []), (.ite (.not (.call 117 [(.var 0),(.var 1),(.var 2),(.var 5)])) [(.ret (.con (.bl false)))] []), (.ret (.p2 .eq (.pb .sum false [(.lc false [6] (.nm 6) 0 [(.call 111 [(.var 1),(.var 4)])] none (.p2 .idx (.var 2) (.var 6)))]) (.pb .sum false [(.var 5)])))]
def D120 : FD := ⟨0, 4, 7, B120, .pl, false⟩ -- accepts_kept
def B121 : List IS := [(.drop (.call 34 [(.var 0)])), (.asg (.nm 1) (.p2 .idx (.call 67 [(.con (.int 1)),(.call 37 [(.var 0)])]) (.con (.int 0)))), (.asg (.nm 2) (.pb .len false [(.attr 8 (.var 0))])), (.ret (.call 109 [(.call 57 [(.var 0)]),(.p2 .mul (.disp .lst [false] [(.var 1)]) (.var 2)),(.p2 .mul (.disp .lst [false] [(.con (.int 1))]) (.var 2))]))]
def D121 : FD := ⟨0, 1, 3, B121, .pl, false⟩ -- shared
def B122 : List IS := [(.setF (.var 0) 24 (.pb .list true [(.var 1)]))]
def D122 : FD := ⟨0, 2, 2, B122, .pl, false⟩ -- Numberer.__init__
def B123 : List IS := [(.ite (.p2 .eq (.p2 .idx (.var 1) (.con (.int 0))) (.con (.str [117,115,101]))) [(.ret (.disp .tup [false,false] [(.con (.str [117,115,101])),(.pm .popAt (.attr 24 (.var 0)) [(.con (.int 0))])]))] []), (.asg (.nm 2) (.pb .tuple false [(.lc false [3] (.nm 3) 0 [(.p2 .idx (.var 1) (.con (.int 2)))] none (.meth 16 (.var 0) [(.var 3)]))])), (.ret (.ite (.p2 .eq (.p2 .idx (.var 1) (.con (.int 0))) (.con (.str [106,111,105,110]))) (.disp .tup [false,false,false] [(.con (.str [106,111,105,110])),(.p2 .idx (.var 1) (.con (.int 1))),(.var 2)]) (.disp .tup [false,false,false] [(.con (.str [98,105,110,100])),(.var 2),(.meth 16 (.var 0) [(.p2 .idx (.var 1) (.con (.int 3)))])])))]
def D123 : FD := ⟨0, 2, 4, B123, .pl, false⟩ -- Numberer.anew
def B124 : List IS := [(.ret (.ite (.isi [.bt .str] (.var 1)) (.var 1) (.pb .len false [(.call 53 [(.var 0),(.var 1)])])))]
def D124 : FD := ⟨0, 2, 2, B124, .pl, false⟩ -- use_number
def B125 : List IS := [(.drop (.call 34 [(.var 0)])), (.asg (.nm 1) (.lc false [2,3] (.tup [(.nm 2),(.nm 3)]) 3 [(.attr 9 (.var 0)),(.attr 10 (.var 0))] none (.call 124 [(.var 2),(.var 3)]))), (.ret (.meth 16 (.make 3 122 false [(.var 1)]) [(.attr 5 (.var 0))]))]
def D125 : FD := ⟨0, 1, 4, B125, .pl, false⟩ -- numbered
def B126 : List IS := [(.ret (.or (.call 5 [(.var 0)]) (.call 4 [(.var 0),(.con (.int 0)),(.p2 .sub (.var 1) (.con (.int 1)))])))]
def D126 : FD := ⟨0, 2, 2, B126, .pl, false⟩ -- is_form_use
def B127 : List IS := [(.ite (.or (.not (.isi [.bt .tup] (.var 0))) (.or (.not (.chain .le .le (.con (.int 2)) (.pb .len false [(.var 0)]) (.con (.int 3)))) (.not (.isi [.bt .str] (.p2 .idx (.var 0) (.con (.int 0))))))) [(.ret (.con (.bl false)))] []), (.ite (.p2 .eq (.p2 .idx (.var 0) (.con (.int 0))) (.con (.str [117,115,101]))) [(.ret (.and (.p2 .eq (.pb .len false [(.var 0)]) (.con (.int 2))) (.call 126 [(.p2 .idx (.var 0) (.con (.int 1))),(.var 1)])))] []), (.ite (.p2 .eq (.p2 .idx (.var 0) (.con (.int 0))) (.con (.str [106,111,105,110]))) [(.ret (.and (.p2 .eq (.pb .len false [(.var 0)]) (.con (.int 3))) (.and (.call 5 [(.p2 .idx (.var 0) (.con (.int 1)))]) (.call 128 [(.p2 .idx (.var 0) (.con (.int 2))),(.var 1)]))))] []), (.ite (.or (.p2 .ne (.p2 .idx (.var 0) (.con (.int 0))) (.con (.str [98,105,110,100]))) (.p2 .ne (.pb .len false [(.var 0)]) (.con (.int 3)))) [(.ret (.con (.bl false)))] []), (.ret (.and (.call 128 [(.p2 .idx (.var 0) (.con (.int 1))),(.var 1)]) (.call 127 [(.p2 .idx (.var 0) (.con (.int 2))),(.p2 .add (.var 1) (.con (.int 1)))])))]
def D127 : FD := ⟨0, 2, 2, B127, .pl, false⟩ -- is_form_tree
def B128 : List IS := [(.ret (.and (.isi [.bt .tup] (.var 0)) (.pb .all false [(.lc false [2] (.nm 2) 0 [(.var 0)] none (.call 127 [(.var 2),(.var 1)]))])))]
def D128 : FD := ⟨0, 2, 3, B128, .pl, false⟩ -- are_form_trees
def B129 : List IS := [(.ite (.p2 .eq (.p2 .idx (.var 0) (.con (.int 0))) (.con (.str [117,115,101]))) [(.ret (.disp .tup [false,false] [(.ite (.isi [.bt .str] (.p2 .idx (.var 0) (.con (.int 1)))) (.disp .lst [false] [(.p2 .idx (.var 0) (.con (.int 1)))]) (.disp .lst [] [])),(.con (.int 0))]))] []), (.par [2,3] [(.disp .cell [] []),(.pb .int false [(.p2 .eq (.p2 .idx (.var 0) (.con (.int 0))) (.con (.str [98,105,110,100])))])]), (.for (.nm 1) 0 [(.ite (.p2 .eq (.p2 .idx (.var 0) (.con (.int 0))) (.con (.str [106,111,105,110]))) (.p2 .idx (.var 0) (.con (.int 2))) (.disp .lst [true,false] [(.p2 .idx (.var 0) (.con (.int 1))),(.p2 .idx (.var 0) (.con (.int 2)))]))] [(.asg (.tup [(.nm 4),(.nm 5)]) (.call 129 [(.var 1)])), (.drop (.pm .extend (.var 2) [(.var 4)])), (.aug 3 .add (.var 5))]), (.ret (.disp .tup [false,false] [(.var 2),(.var 3)]))]
def D129 : FD := ⟨0, 1, 6, B129, .pl, false⟩ -- names_in
def B130 : List IS := [(.asg (.tup [(.nm 2),(.nm 3)]) (.call 129 [(.var 1)])), (.setF (.var 0) 24 (.call 67 [(.var 3),(.var 2)]))]
def D130 : FD := ⟨0, 2, 4, B130, .pl, false⟩ -- Namer.__init__
def B131 : List IS := [(.ite (.p2 .eq (.p2 .idx (.var 1) (.con (.int 0))) (.con (.str [117,115,101]))) [(.ret (.ite (.isi [.bt .str] (.p2 .idx (.var 1) (.con (.int 1)))) (.var 1) (.disp .tup [false,false] [(.con (.str [117,115,101])),(.p2 .idx (.var 2) (.p2 .sub (.p2 .sub (.pb .len false [(.var 2)]) (.con (.int 1))) (.p2 .idx (.var 1) (.con (.int 1)))))])))] []), (.ite (.p2 .eq (.p2 .idx (.var 1) (.con (.int 0))) (.con (.str [106,111,105,110]))) [(.ret (.disp .tup [false,false,false] [(.con (.str [106,111,105,110])),(.p2 .idx (.var 1) (.con (.int 1))),(.pb .tuple false [(.lc false [5] (.nm 5) 0 [(.p2 .idx (.var 1) (.con (.int 2)))] none (.meth 16 (.var 0) [(.var 5),(.var 2)]))])]))] []), (.asg (.nm 3) (.pm .popAt (.attr 24 (.var 0)) [(.con (.int 0))])), (.asg (.nm 4) (.pb .tuple false [(.lc false [5] (.nm 5) 0 [(.p2 .idx (.var 1) (.con (.int 1)))] none (.meth 16 (.var 0) [(.var 5),(.var 2)]))])), (.ret (.disp .tup [false,false,false,false] [(.con (.str [98,105,110,100])),(.var 3),(.var 4),(.meth 16 (.var 0) [(.p2 .idx (.var 1) (.con (.int 2))),(.disp .tup [true,false] [(.var 2),(.var 3)])])]))]
def D131 : FD := ⟨0, 3, 6, B131, .pl, false⟩ -- Namer.anew
def B132 : List IS := [(.ret (.call 51 [(.attr 5 (.var 0)),(.attr 10 (.var 0)),(.call 73 [(.var 0),(.con (.bl false))])]))]
def D132 : FD := ⟨0, 1, 1, B132, .pl, false⟩ -- told_term
def B133 : List IS := [(.ite (.not (.call 127 [(.var 0),(.con (.int 0))])) [.nev] []), (.ret (.call 132 [(.make 1 12 true [(.meth 16 (.make 4 130 false [(.var 0)]) [(.var 0),(.disp .tup [] [])])])]))]
def D133 : FD := ⟨0, 1, 1, B133, .pl, false⟩ -- from_form
def B135 : List IS := [(.ret (.p2 .add (.con (.int 1)) (.pb .sum false [(.lc false [1] (.nm 1) 0 [(.call 8 [(.var 0)])] none (.call 135 [(.var 1)]))])))]
def D135 : FD := ⟨0, 1, 2, B135, .pl, false⟩ -- size_of
def B136 : List IS := [(.par [3,4] [(.disp .cell [] []),(.p2 .add (.var 1) (.con (.int 1)))]), (.for (.nm 2) 0 [(.call 8 [(.p2 .idx (.attr 6 (.var 0)) (.var 1))])] [(.drop (.pm .append (.var 3) [(.var 4)])), (.aug 4 .add (.call 135 [(.var 2)]))]), (.ret (.var 3))]
def D136 : FD := ⟨0, 2, 5, B136, .pl, false⟩ -- spots_below
def B137 : List IS := [(.setF (.var 0) 25 (.var 1)), (.setF (.var 0) 26 (.dict [])), (.setF (.var 0) 27 (.dc [2,3] (.tup [(.nm 2),(.nm 3)]) 2 [(.attr 3 (.var 1))] none (.var 3) (.var 2))), (.setF (.var 0) 28 (.dc [4,3] (.tup [(.nm 4),(.nm 3)]) 2 [(.attr 4 (.var 1))] none (.var 3) (.var 4)))]
def D137 : FD := ⟨0, 2, 5, B137, .pl, false⟩ -- Copy.__init__
def B138 : List IS := [(.ret (.con (.bl false)))]
def D138 : FD := ⟨0, 2, 2, B138, .pl, false⟩ -- Copy.is_gone
def B139 : List IS := [(.ret (.var 1))]
def D139 : FD := ⟨0, 2, 2, B139, .pl, false⟩ -- Copy.free_name
def B140 : List IS := [(.asg (.nm 3) (.p2 .idx (.attr 10 (.attr 25 (.var 0))) (.var 2))), (.ret (.disp .tup [false,false] [(.con (.str [117,115,101])),(.ite (.isi [.bt .str] (.var 3)) (.meth 18 (.var 0) [(.var 3)]) (.p2 .idx (.attr 26 (.var 0)) (.var 3)))]))]
def D140 : FD := ⟨0, 3, 4, B140, .pl, false⟩ -- Copy.use_tree
def B142 : List IS := [(.asg (.nm 2) (.p2 .idx (.attr 21 (.var 0)) (.var 1))), (.ret (.ite (.p2 .isN (.var 2) (.con .non)) (.var 1) (.p2 .idx (.attr 26 (.attr 29 (.var 0))) (.var 2))))]
def D142 : FD := ⟨0, 2, 3, B142, .pl, false⟩ -- Guest.free_name
def B145 : List IS := [(.setF (.var 0) 31 (.var 1)), (.setF (.var 0) 32 (.disp .cell [] []))]
def D145 : FD := ⟨0, 2, 2, B145, .pl, false⟩ -- Weaver.__init__
def B146 : List IS := [(.drop (.pm .append (.attr 32 (.var 0)) [(.var 1)])), (.ret (.p2 .idx (.call 67 [(.pb .len false [(.attr 32 (.var 0))]),(.attr 31 (.var 0))]) (.neg (.con (.int 1)))))]
def D146 : FD := ⟨0, 2, 2, B146, .pl, false⟩ -- Weaver.met
def B147 : List IS := [(.par [5,6] [(.p2 .idx (.attr 6 (.attr 25 (.var 1))) (.var 2)),(.call 136 [(.attr 25 (.var 1)),(.var 2)])]), (.ite (.p2 .eq (.p2 .idx (.var 5) (.con (.int 0))) (.con (.str [117,115,101]))) [(.ret (.meth 19 (.var 1) [(.var 0),(.p2 .idx (.attr 28 (.var 1)) (.var 2))]))] []), (.ite (.p2 .eq (.p2 .idx (.var 5) (.con (.int 0))) (.con (.str [106,111,105,110]))) [(.ret (.disp .tup [false,false,false] [(.con (.str [106,111,105,110])),(.p2 .idx (.var 5) (.con (.int 1))),(.pb .tuple false [(.lc false [7] (.nm 7) 0 [(.var 6)] none (.meth 21 (.var 0) [(.var 1),(.var 7)]))])]))] []), (.asg (.nm 3) (.p2 .idx (.attr 27 (.var 1)) (.var 2))), (.ite (.meth 17 (.var 1) [(.var 3)]) [(.ret (.meth 21 (.var 0) [(.var 1),(.p2 .idx (.var 6) (.neg (.con (.int 1))))]))] []), (.setI (.attr 26 (.var 1)) (.var 3) (.meth 20 (.var 0) [(.p2 .idx (.var 5) (.con (.int 1)))])), (.asg (.nm 4) (.pb .tuple false [(.lc false [7] (.nm 7) 0 [(.slice (.var 6) none (some (.neg (.con (.int 1)))) false)] none (.meth 21 (.var 0) [(.var 1),(.var 7)]))])), (.ret (.disp .tup [false,false,false,false] [(.con (.str [98,105,110,100])),(.p2 .idx (.attr 26 (.var 1)) (.var 3)),(.var 4),(.meth 21 (.var 0) [(.var 1),(.p2 .idx (.var 6) (.neg (.con (.int 1))))])]))]
def D147 : FD := ⟨0, 3, 8, B147, .pl, false⟩ -- Weaver.woven
def B148 : List IS := [(.asg (.nm 3) (.make 8 145 false [(.var 2)])), (.setF (.var 0) 33 (.make 1 12 true [(.meth 21 (.var 3) [(.var 1),(.con (.int 0))])])), (.setF (.var 0) 32 (.pb .tuple true [(.attr 32 (.var 3))]))]
def D148 : FD := ⟨0, 3, 4, B148, .pl, false⟩ -- Outcome.__init__
def B149 : List IS := [(.ret (.call 110 [(.attr 33 (.var 0)),(.attr 32 (.var 0)),(.lc false [1] (.nm 1) 0 [(.attr 32 (.var 0))] none (.con (.int 1))),(.attr 32 (.var 0))]))]
def D149 : FD := ⟨0, 1, 2, B149, .pl, false⟩ -- Outcome.called
def B150 : List IS := [(.ret (.call 51 [(.attr 5 (.attr 33 (.var 0))),(.attr 10 (.attr 33 (.var 0))),(.meth 22 (.var 0) [])]))]
def D150 : FD := ⟨0, 1, 1, B150, .pl, false⟩ -- Outcome.made
def B152 : List IS := [(.ret (.call 54 [(.attr 33 (.var 0)),(.attr 32 (.var 0))]))]
def D152 : FD := ⟨0, 1, 1, B152, .pl, false⟩ -- Outcome.caught
def B154 : List IS := [(.drop (.call 34 [(.var 0)])), (.drop (.call 34 [(.var 2)])), (.ite (.not (.call 4 [(.var 1),(.con (.int 0)),(.p2 .sub (.pb .len false [(.attr 4 (.var 0))]) (.con (.int 1)))])) [.nev] [])]
def D154 : FD := ⟨0, 3, 3, B154, .pl, false⟩ -- look_at_use
def B155 : List IS := [(.drop (.call 154 [(.var 0),(.var 1),(.var 2)])), (.ret (.call 153 [(.var 0),(.var 1),(.var 2),(.var 3)]))]
def D155 : FD := ⟨0, 4, 4, B155, .pl, false⟩ -- are_links
def B156 : List IS := [(.drop (.call 154 [(.var 0),(.var 1),(.var 2)])), (.ite (.not (.call 153 [(.var 0),(.var 1),(.var 2),(.var 3)])) [.nev] []), (.ret (.make 9 148 false [(.make 7 143 false [(.var 0),(.var 1),(.var 2),(.var 3)]),(.disp .lst [true,true] [(.call 37 [(.var 0)]),(.call 37 [(.var 2)])])]))]
def D156 : FD := ⟨0, 4, 4, B156, .pl, false⟩ -- put_outcome
def B157 : List IS := [(.ret (.meth 23 (.call 156 [(.var 0),(.var 1),(.var 2),(.var 3)]) []))]
def D157 : FD := ⟨0, 4, 4, B157, .pl, false⟩ -- put
def B158 : List IS := [(.ret (.meth 24 (.call 156 [(.var 0),(.var 1),(.var 2),(.var 3)]) []))]
def D158 : FD := ⟨0, 4, 4, B158, .pl, false⟩ -- put_renamed
def B159 : List IS := [(.ret (.meth 25 (.call 156 [(.var 0),(.var 1),(.var 2),(.var 3)]) []))]
def D159 : FD := ⟨0, 4, 4, B159, .pl, false⟩ -- put_catches
def B160 : List IS := [(.ret (.p2 .idx (.p2 .idx (.attr 6 (.var 0)) (.p2 .idx (.attr 3 (.var 0)) (.var 1))) (.con (.int 2))))]
def D160 : FD := ⟨0, 2, 2, B160, .pl, false⟩ -- ahead_of
def B163 : List IS := [(.ret (.p2 .eq (.var 1) (.attr 12 (.var 0))))]
def D163 : FD := ⟨0, 2, 2, B163, .pl, false⟩ -- Inlined.is_gone
def B165 : List IS := [(.drop (.call 35 [(.var 0),(.var 1)])), (.ret (.p2 .gt (.pb .len false [(.call 160 [(.var 0),(.var 1)])]) (.con (.int 0))))]
def D165 : FD := ⟨0, 2, 2, B165, .pl, false⟩ -- can_inline
def B166 : List IS := [(.asg (.nm 2) (.lc false [4] (.nm 4) 0 [(.call 160 [(.var 0),(.var 1)])] none (.call 135 [(.var 4)]))), (.asg (.nm 3) (.lc false [5] (.nm 5) 0 [(.attr 10 (.var 0))] (some (.p2 .eq (.var 5) (.var 1))) (.var 5))), (.ret (.p2 .add (.p2 .sub (.p2 .sub (.pb .len false [(.attr 6 (.var 0))]) (.con (.int 1))) (.pb .sum false [(.var 2)])) (.p2 .mul (.pb .len false [(.var 3)]) (.p2 .sub (.p2 .idx (.var 2) (.con (.int 0))) (.con (.int 1))))))]
def D166 : FD := ⟨0, 2, 6, B166, .pl, false⟩ -- size_behind
def B167 : List IS := [(.ite (.not (.call 165 [(.var 0),(.var 1)])) [.nev] []), (.ite (.p2 .gt (.call 166 [(.var 0),(.var 1)]) (.con (.int 400))) [.nev] []), (.ret (.make 9 148 false [(.make 11 162 false [(.var 0),(.var 1)]),(.call 37 [(.var 0)])]))]
def D167 : FD := ⟨0, 2, 2, B167, .pl, false⟩ -- inline_outcome
def B168 : List IS := [(.ret (.meth 23 (.call 167 [(.var 0),(.var 1)]) []))]
def D168 : FD := ⟨0, 2, 2, B168, .pl, false⟩ -- inline
def B169 : List IS := [(.ret (.meth 24 (.call 167 [(.var 0),(.var 1)]) []))]
def D169 : FD := ⟨0, 2, 2, B169, .pl, false⟩ -- inline_renamed
def B170 : List IS := [(.ret (.meth 25 (.call 167 [(.var 0),(.var 1)]) []))]
def D170 : FD := ⟨0, 2, 2, B170, .pl, false⟩ -- inline_catches
def B171 : List IS := [(.drop (.call 34 [(.var 1)])), (.setF (.var 0) 34 (.var 1)), (.setF (.var 0) 35 (.disp .tup [] []))]
def D171 : FD := ⟨0, 2, 2, B171, .pl, false⟩ -- Live.__init__
def B172 : List IS := [(.ret (.ite (.p2 .gt (.pb .len false [(.attr 35 (.var 0))]) (.con (.int 0))) (.p2 .idx (.attr 35 (.var 0)) (.neg (.con (.int 1)))) (.attr 34 (.var 0))))]
def D172 : FD := ⟨0, 1, 1, B172, .pl, false⟩ -- Live.kept
def B173 : List IS := [(.ret (.attr 8 (.meth 26 (.var 0) [])))]
def D173 : FD := ⟨0, 1, 1, B173, .pl, false⟩ -- Live.named
def B174 : List IS := [(.setF (.var 0) 35 (.disp .tup [true,false] [(.attr 35 (.var 0)),(.var 1)]))]
def D174 : FD := ⟨0, 2, 2, B174, .pl, false⟩ -- Live.turn
def B175 : List IS := [(.asg (.nm 3) (.meth 26 (.var 0) [])), (.drop (.call 35 [(.var 3),(.var 1)])), (.ite (.not (.call 5 [(.var 2)])) [.nev] []), (.asg (.nm 4) (.lc false [5,6] (.tup [(.nm 5),(.nm 6)]) 2 [(.attr 8 (.var 3))] none (.ite (.p2 .eq (.var 5) (.var 1)) (.var 2) (.var 6)))), (.ite (.p2 .ne (.call 54 [(.var 3),(.var 4)]) (.disp .lst [] [])) [.nev] []), (.drop (.meth 28 (.var 0) [(.call 51 [(.attr 5 (.var 3)),(.attr 10 (.var 3)),(.var 4)])]))]
def D175 : FD := ⟨0, 3, 7, B175, .pl, false⟩ -- Live.rename
def B176 : List IS := [(.asg (.nm 1) (.meth 26 (.var 0) [])), (.drop (.meth 28 (.var 0) [(.call 51 [(.attr 5 (.var 1)),(.attr 10 (.var 1)),(.call 73 [(.var 1),(.con (.bl false))])])]))]
def D176 : FD := ⟨0, 1, 2, B176, .pl, false⟩ -- Live.tune
def B179 : List IS := [(.asg (.nm 3) (.meth 26 (.var 0) [])), (.ite (.not (.call 4 [(.var 1),(.con (.int 0)),(.p2 .sub (.pb .len false [(.var 3)]) (.con (.int 1)))])) [.nev] []), (.ite (.not (.call 5 [(.var 2)])) [.nev] []), (.drop (.meth 28 (.var 0) [(.call 210 [(.var 3),(.var 1),(.var 2)])]))]
def D179 : FD := ⟨0, 3, 4, B179, .pl, false⟩ -- Live.wrap
def B181 : List IS := [(.ite (.p2 .eq (.pb .len false [(.attr 35 (.var 0))]) (.con (.int 0))) [.nev] []), (.setF (.var 0) 35 (.slice (.attr 35 (.var 0)) none (some (.neg (.con (.int 1)))) true))]
def D181 : FD := ⟨0, 1, 1, B181, .pl, false⟩ -- Live.undo
def B182 : List IS := [(.ret (.pb .len false [(.attr 35 (.var 0))]))]
def D182 : FD := ⟨0, 1, 1, B182, .pl, false⟩ -- Live.__len__
def B183 : List IS := [(.asg (.nm 1) (.make 12 171 false [(.attr 34 (.var 0))])), (.setF (.var 1) 35 (.attr 35 (.var 0))), (.ret (.var 1))]
def D183 : FD := ⟨0, 1, 2, B183, .pl, false⟩ -- Live.twin
def B184 : List IS := [(.ret (.make 15 211 false [(.var 0)]))]
def D184 : FD := ⟨0, 1, 1, B184, .pl, false⟩ -- Live.trial
def B186 : List IS := [(.ite (.not (.pb .all false [(.lc false [3] (.nm 3) 0 [(.call 37 [(.var 0)])] none (.p2 .inn (.var 3) (.var 1)))])) [(.ret (.con (.bl false)))] []), (.ret (.pb .all false [(.lc false [2] (.nm 2) 0 [(.call 57 [(.var 0)])] none (.p2 .le (.p2 .add (.pb .len false [(.var 2)]) (.con (.int 2))) (.pb .len false [(.var 1)])))]))]
def D186 : FD := ⟨0, 2, 4, B186, .pl, false⟩ -- has_enough
def B187 : List IS := [(.drop (.call 78 [(.var 0),(.var 1)])), (.ret (.call 186 [(.var 0),(.var 1)]))]
def D187 : FD := ⟨0, 2, 2, B187, .pl, false⟩ -- is_enough
def B188 : List IS := [(.for (.nm 4) 0 [(.disp .tup [false,false] [(.var 2),(.var 3)])] [(.ite (.not (.call 90 [(.var 0),(.var 1),(.var 4)])) [.nev] [])])]
def D188 : FD := ⟨0, 4, 5, B188, .pl, false⟩ -- look_at_ends
def B189 : List IS := [(.ite (.or (.not (.isi [.bt .tup] (.var 2))) (.or (.p2 .ne (.pb .len false [(.var 2)]) (.con (.int 2))) (.not (.call 4 [(.p2 .idx (.var 2) (.con (.int 0))),(.con (.int 0)),(.p2 .sub (.pb .len false [(.attr 8 (.var 0))]) (.con (.int 1)))])))) [(.ret (.con (.bl false)))] []), (.ret (.and (.call 5 [(.p2 .idx (.var 2) (.con (.int 1)))]) (.p2 .inn (.p2 .idx (.var 2) (.con (.int 1))) (.var 1))))]
def D189 : FD := ⟨0, 3, 3, B189, .pl, false⟩ -- is_step
def B190 : List IS := [(.drop (.call 78 [(.var 0),(.var 1)])), (.drop (.call 188 [(.var 0),(.var 1),(.var 2),(.var 3)])), (.ite (.not (.isi [.bt .lst] (.var 4))) [(.ret (.con (.bl false)))] []), (.asg (.nm 5) (.pb .list true [(.var 2)])), (.for (.nm 6) 0 [(.var 4)] [(.ite (.or (.not (.call 189 [(.var 0),(.var 1),(.var 6)])) (.p2 .eq (.p2 .idx (.var 5) (.p2 .idx (.var 6) (.con (.int 0)))) (.p2 .idx (.var 6) (.con (.int 1))))) [(.ret (.con (.bl false)))] []), (.setI (.var 5) (.p2 .idx (.var 6) (.con (.int 0))) (.p2 .idx (.var 6) (.con (.int 1)))), (.ite (.p2 .ne (.call 54 [(.var 0),(.var 5)]) (.disp .lst [] [])) [(.ret (.con (.bl false)))] [])]), (.ret (.p2 .eq (.var 5) (.pb .list false [(.var 3)])))]
def D190 : FD := ⟨0, 5, 7, B190, .pl, false⟩ -- is_way
def B191 : List IS := [(.asg (.nm 4) (.disp .lst [false,true] [(.p2 .idx (.var 1) (.var 3)),(.lc false [6] (.nm 6) 0 [(.var 2)] none (.call 50 [(.var 1),(.var 6)]))])), (.ret (.p2 .idx (.lc false [5] (.nm 5) 0 [(.var 0)] (some (.p2 .notin (.var 5) (.var 4))) (.var 5)) (.con (.int 0))))]
def D191 : FD := ⟨0, 4, 7, B191, .pl, false⟩ -- other_name
def B192 : List IS := [(.ite (.p2 .eq (.pb .len false [(.var 1)]) (.con (.int 0))) [(.ret (.disp .lst [] []))] []), (.par [4,5,6] [(.p2 .sub (.pb .len false [(.var 1)]) (.con (.int 1))),(.pb .list true [(.var 2)]),(.disp .cell [] [])]), (.for (.tup [(.nm 7),(.nm 8)]) 0 [(.call 192 [(.var 0),(.slice (.var 1) none (some (.neg (.con (.int 1)))) false),(.slice (.var 2) none (some (.neg (.con (.int 1)))) false),(.slice (.var 3) none (some (.neg (.con (.int 1)))) false)])] [(.ite (.and (.p2 .eq (.var 8) (.p2 .idx (.var 5) (.var 4))) (.p2 .inn (.var 7) (.p2 .idx (.var 1) (.var 4)))) [(.setI (.var 5) (.var 4) (.call 191 [(.var 0),(.var 5),(.p2 .idx (.var 1) (.var 4)),(.var 4)])), (.drop (.pm .append (.var 6) [(.disp .tup [false,false] [(.var 4),(.p2 .idx (.var 5) (.var 4))])]))] []), (.setI (.var 5) (.var 7) (.var 8)), (.drop (.pm .append (.var 6) [(.disp .tup [false,false] [(.var 7),(.var 8)])]))]), (.ite (.p2 .ne (.p2 .idx (.var 5) (.var 4)) (.p2 .idx (.var 3) (.var 4))) [(.drop (.pm .append (.var 6) [(.disp .tup [false,false] [(.var 4),(.p2 .idx (.var 3) (.var 4))])]))] []), (.ret (.var 6))]
def D192 : FD := ⟨0, 4, 9, B192, .pl, false⟩ -- steps_among
def B193 : List IS := [(.drop (.call 78 [(.var 0),(.var 1)])), (.ite (.not (.call 186 [(.var 0),(.var 1)])) [.nev] []), (.drop (.call 188 [(.var 0),(.var 1),(.var 2),(.var 3)])), (.ite (.p2 .gt (.pb .len false [(.var 2)]) (.con (.int 10))) [.nev] []), (.ret (.call 192 [(.var 1),(.call 57 [(.var 0)]),(.pb .list false [(.var 2)]),(.pb .list false [(.var 3)])]))]
def D193 : FD := ⟨0, 4, 4, B193, .pl, false⟩ -- lead
def B195 : List IS := [(.drop (.call 34 [(.var 0)])), (.ret (.call 194 [(.attr 5 (.var 0))]))]
def D195 : FD := ⟨0, 1, 1, B195, .pl, false⟩ -- write_term
def B196 : List IS := [(.setF (.var 0) 36 (.var 1)), (.setF (.var 0) 37 (.con (.int 0))), (.setF (.var 0) 38 (.disp .cell [] []))]
def D196 : FD := ⟨0, 2, 2, B196, .pl, false⟩ -- Reader.__init__
def B197 : List IS := [(.ret (.slice (.attr 36 (.var 0)) (some (.attr 37 (.var 0))) (some (.p2 .add (.attr 37 (.var 0)) (.con (.int 1)))) false))]
def D197 : FD := ⟨0, 1, 1, B197, .pl, false⟩ -- Reader.sign
def B198 : List IS := [.nev]
def D198 : FD := ⟨0, 1, 1, B198, .pl, false⟩ -- Reader.fail
def B203 : List IS := [(.asg (.nm 1) (.meth 43 (.var 0) [])), (.whl (.or (.p2 .isN (.var 1) (.con .non)) (.p2 .gt (.pb .len false [(.attr 38 (.var 0))]) (.con (.int 0)))) [(.asg (.nm 1) (.ite (.p2 .isN (.var 1) (.con .non)) (.meth 43 (.var 0) []) (.meth 44 (.var 0) [(.var 1)])))]), (.ite (.p2 .lt (.attr 37 (.var 0)) (.pb .len false [(.attr 36 (.var 0))])) [(.drop (.meth 40 (.var 0) []))] []), (.ret (.var 1))]
def D203 : FD := ⟨0, 1, 2, B203, .pl, false⟩ -- Reader.whole
def B204 : List IS := [(.ite (.not (.isi [.bt .str] (.var 0))) [.nev] []), (.ret (.make 1 12 true [(.meth 45 (.make 13 196 false [(.var 0)]) [])]))]
def D204 : FD := ⟨0, 1, 1, B204, .pl, false⟩ -- read_term
def B206 : List IS := [(.ite (.not (.call 134 [(.var 0)])) [.nev] []), (.ret (.call 205 [(.var 0)]))]
def D206 : FD := ⟨0, 1, 1, B206, .pl, false⟩ -- write_form
def B209 : List IS := [(.ret (.meth 16 (.make 14 207 false [(.var 1),(.var 2)]) [(.var 0)]))]
def D209 : FD := ⟨0, 3, 3, B209, .pl, false⟩ -- exchanged
def B211 : List IS := [(.setF (.var 0) 40 (.var 1)), (.setF (.var 0) 41 (.attr 35 (.var 1))), (.setF (.var 0) 42 (.con .non))]
def D211 : FD := ⟨0, 2, 2, B211, .pl, false⟩ -- LiveTrial.__init__
def B212 : List IS := [(.setF (.var 0) 41 (.attr 35 (.attr 40 (.var 0)))), (.ret (.attr 40 (.var 0)))]
def D212 : FD := ⟨0, 1, 1, B212, .pl, false⟩ -- LiveTrial.__enter__
def B213 : List IS := [(.ite (.and (.p2 .isN (.var 1) (.con .non)) (.p2 .notN (.attr 42 (.var 0)) (.con .non))) [(.setF (.var 0) 41 (.attr 35 (.attr 40 (.var 0))))] []), (.setF (.attr 40 (.var 0)) 35 (.attr 41 (.var 0)))]
def D213 : FD := ⟨0, 4, 4, B213, .pl, false⟩ -- LiveTrial.__exit__
def B214 : List IS := [(.setF (.var 0) 42 (.con (.bl true)))]
def D214 : FD := ⟨0, 1, 1, B214, .pl, false⟩ -- LiveTrial.keep
def B215 : List IS := [(.ite (.or (.not (.chain .le .le (.con (.int 1)) (.pb .len false [(.var 0)]) (.con (.int 60)))) (.not (.pb .all false [(.lc false [1] (.nm 1) 0 [(.var 0)] none (.p2 .inn (.var 1) (.con (.str [48,49,50,51,52,53,54,55,56,57]))))]))) [(.ret (.con .non))] []), (.ret (.ite (.or (.p2 .eq (.var 0) (.con (.str [48]))) (.p2 .ne (.p2 .idx (.var 0) (.con (.int 0))) (.con (.str [48])))) (.pb .int false [(.var 0)]) (.con .non)))]
def D215 : FD := ⟨0, 1, 2, B215, .pl, false⟩ -- number_read
def B217 : List IS := [(.setF (.var 0) 43 (.con .non))]
def D217 : FD := ⟨0, 1, 1, B217, .pl, false⟩ -- Console.__init__
def B221 : List IS := [(.ite (.p2 .eq (.p2 .idx (.var 1) (.con (.int 0))) (.con (.str [116,117,110,101]))) [(.drop (.meth 30 (.attr 43 (.var 0)) []))] [(.ite (.p2 .eq (.p2 .idx (.var 1) (.con (.int 0))) (.con (.str [117,110,100,111]))) [(.drop (.meth 35 (.attr 43 (.var 0)) []))] [(.ite (.p2 .eq (.p2 .idx (.var 1) (.con (.int 0))) (.con (.str [105,110,108,105,110,101]))) [(.drop (.meth 32 (.attr 43 (.var 0)) [(.p2 .idx (.var 1) (.con (.int 1)))]))] [(.ite (.p2 .eq (.p2 .idx (.var 1) (.con (.int 0))) (.con (.str [117,110,119,114,97,112]))) [(.drop (.meth 34 (.attr 43 (.var 0)) [(.p2 .idx (.var 1) (.con (.int 1)))]))] [(.ite (.p2 .eq (.p2 .idx (.var 1) (.con (.int 0))) (.con (.str [114,101,110,97,109,101]))) [(.drop (.meth 29 (.attr 43 (.var 0)) [(.p2 .idx (.var 1) (.con (.int 1))),(.p2 .idx (.var 1) (.con (.int 2)))]))] [(.drop (.meth 33 (.attr 43 (.var 0)) [(.p2 .idx (.var 1) (.con (.int 1))),(.p2 .idx (.var 1) (.con (.int 2)))]))])])])])]), (.ret (.con (.str [111,107])))]
def D221 : FD := ⟨0, 2, 2, B221, .pl, false⟩ -- Console.led
def B300 : List IS := [(.drop (.call 34 [(.var 0)])), (.ret (.call 301 [(.var 0)]))]
def D300 : FD := ⟨2, 1, 1, B300, .pl, false⟩ -- clashes!
def B301 : List IS := [(.asg (.nm 1) (.disp .cell [] [])), (.for (.tup [(.nm 2),(.nm 3)]) 2 [(.call 57 [(.var 0)])] [(.drop (.pm .extend (.var 1) [(.lc false [4] (.nm 4) 0 [(.var 3)] none (.disp .tup [false,false] [(.var 4),(.var 2)]))]))]), (.ret (.var 1))]
def D301 : FD := ⟨2, 1, 5, B301, .pl, false⟩ -- pairs_of!
def B302 : List IS := [(.drop (.call 35 [(.var 0),(.var 1)])), (.ret (.p2 .idx (.call 303 [(.var 0)]) (.var 1)))]
def D302 : FD := ⟨2, 2, 2, B302, .pl, false⟩ -- live_at!
def B303 : List IS := [(.asg (.nm 1) (.lc true [5] (.nm 5) 0 [(.attr 8 (.var 0))] none (.dict []))), (.for (.tup [(.nm 2),(.nm 3)]) 2 [(.attr 10 (.var 0))] [(.for (.nm 4) 0 [(.call 53 [(.p2 .idx (.attr 9 (.var 0)) (.var 2)),(.var 3)])] [(.setI (.p2 .idx (.var 1) (.var 4)) (.var 3) (.con (.bl true)))])]), (.ret (.lc false [6] (.nm 6) 0 [(.var 1)] none (.call 304 [(.var 6)])))]
def D303 : FD := ⟨2, 1, 7, B303, .pl, false⟩ -- all_live!
def B304 : List IS := [(.asg (.nm 1) (.lcd false [2] (.nm 2) (.var 0) (some (.not (.isi [.bt .str] (.var 2)))) (.var 2))), (.ret (.disp .cell [true,true] [(.pb .sorted false [(.var 1)]),(.call 30 [(.lcd false [2] (.nm 2) (.var 0) (some (.isi [.bt .str] (.var 2))) (.var 2))])]))]
def D304 : FD := ⟨2, 1, 3, B304, .pl, false⟩ -- in_line!
def pkT : List (Nat × FD) := [(3, D3), (4, D4), (5, D5), (6, D6), (7, D7), (8, D8), (9, D9), (10, D10), (11, D11), (12, D12), (13, D13), (14, D14)] ++ [(15, D15), (16, D16), (17, D17), (18, D18), (19, D19), (20, D20), (21, D21), (23, D23), (24, D24), (28, D28), (29, D29), (30, D30)] ++ [(31, D31), (32, D32), (34, D34), (35, D35), (36, D36), (37, D37), (38, D38), (39, D39), (40, D40), (41, D41), (42, D42), (43, D43)] ++ [(44, D44), (45, D45), (46, D46), (47, D47), (48, D48), (49, D49), (50, D50), (51, D51), (52, D52), (53, D53), (54, D54), (55, D55)] ++ [(56, D56), (57, D57), (58, D58), (59, D59), (60, D60), (61, D61), (62, D62), (63, D63), (65, D65), (66, D66), (67, D67), (68, D68)] ++ [(69, D69), (70, D70), (71, D71), (72, D72), (73, D73), (74, D74), (75, D75), (76, D76), (77, D77), (78, D78), (79, D79), (80, D80)] ++ [(81, D81), (82, D82), (83, D83), (85, D85), (86, D86), (87, D87), (89, D89), (90, D90), (91, D91), (99, D99), (100, D100), (101, D101)] ++ [(102, D102), (103, D103), (104, D104), (105, D105), (106, D106), (107, D107), (109, D109), (110, D110), (111, D111), (112, D112), (113, D113), (114, D114)] ++ [(115, D115), (116, D116), (117, D117), (118, D118), (119, D119), (120, D120), (121, D121), (122, D122), (123, D123), (124, D124), (125, D125), (126, D126)] ++ [(127, D127), (128, D128), (129, D129), (130, D130), (131, D131), (132, D132), (133, D133), (135, D135), (136, D136), (137, D137), (138, D138), (139, D139)] ++ [(140, D140), (142, D142), (145, D145), (146, D146), (147, D147), (148, D148), (149, D149), (150, D150), (152, D152), (154, D154), (155, D155), (156, D156)] ++ [(157, D157), (158, D158), (159, D159), (160, D160), (163, D163), (165, D165), (166, D166), (167, D167), (168, D168), (169, D169), (170, D170), (171, D171)] ++ [(172, D172), (173, D173), (174, D174), (175, D175), (176, D176), (179, D179), (181, D181), (182, D182), (183, D183), (184, D184), (186, D186), (187, D187)] ++ [(188, D188), (189, D189), (190, D190), (191, D191), (192, D192), (193, D193), (195, D195), (196, D196), (197, D197), (198, D198), (203, D203), (204, D204)] ++ [(206, D206), (209, D209), (211, D211), (212, D212), (213, D213), (214, D214), (215, D215), (217, D217), (221, D221), (300, D300), (301, D301), (302, D302)] ++ [(303, D303), (304, D304)]
end LP
set_option maxRecDepth 100000
namespace LP
open PySem L2 LN
def B400 : List IS := [(.asg (.nm 2) (.con (.int 0))), (.ite (.p2 .lt (.var 1) (.pb .len false [(.var 0)])) [(.asg (.nm 2) (.p2 .idx (.var 0) (.var 1)))] []), (.asg (.nm 3) (.pb .max false [(.pb .int false [(.var 2)]),(.pb .int false [(.p2 .sub (.neg (.con (.int 1))) (.var 2))])])), (.asg (.nm 4) (.p2 .mod (.pb .int false [(.p2 .mul (.p2 .add (.p2 .add (.p2 .add (.p2 .mod (.pb .int false [(.var 3)]) (.con (.int 2147483629))) (.p2 .mul (.p2 .mul (.con (.int 7919)) (.var 1)) (.var 1))) (.p2 .mul (.con (.int 31)) (.var 1))) (.con (.int 17))) (.con (.int 48271)))]) (.con (.int 2147483647)))), (.ret (.disp .cell [false,false] [(.p2 .mul (.var 3) (.pb .int false [(.p2 .ge (.var 3) (.p2 .pow (.con (.int 10)) (.con (.int 18))))])),(.var 4)]))]
def D400 : FD := ⟨2, 2, 5, B400, .pl, false⟩ -- _law_pool
def B401 : List IS := [(.ite (.p2 .gt (.p2 .idx (.var 0) (.con (.int 0))) (.con (.int 0))) [(.asg (.nm 2) (.p2 .mod (.pb .int false [(.p2 .idx (.var 0) (.con (.int 0)))]) (.var 1))), (.setI (.var 0) (.con (.int 0)) (.p2 .fdiv (.p2 .idx (.var 0) (.con (.int 0))) (.var 1))), (.ret (.var 2))] []), (.setI (.var 0) (.con (.int 1)) (.p2 .mod (.pb .int false [(.p2 .add (.p2 .mul (.p2 .idx (.var 0) (.con (.int 1))) (.con (.int 39373))) (.con (.int 7)))]) (.con (.int 2147483647)))), (.ret (.p2 .mod (.pb .int false [(.p2 .fdiv (.p2 .mod (.pb .int false [(.p2 .mul (.p2 .idx (.var 0) (.con (.int 1))) (.p2 .idx (.var 0) (.con (.int 1))))]) (.con (.int 2147483629))) (.con (.int 32)))]) (.var 1)))]
def D401 : FD := ⟨2, 2, 3, B401, .pl, false⟩ -- _law_take
def B402 : List IS := [(.ret (.p2 .idx (.var 1) (.call 401 [(.var 0),(.pb .len false [(.var 1)])])))]
def D402 : FD := ⟨2, 2, 2, B402, .pl, false⟩ -- _law_one
def B403 : List IS := [(.asg (.nm 1) (.disp .cell [] [])), (.for (.nm 2) 0 [(.var 0)] [(.ite (.p2 .notin (.var 2) (.var 1)) [(.drop (.pm .append (.var 1) [(.var 2)]))] [])]), (.ret (.var 1))]
def D403 : FD := ⟨0, 1, 3, B403, .pl, false⟩ -- _law_unlike
def B404 : List IS := [(.asg (.nm 1) (.disp .lst [false,false,false,false] [(.disp .lst [false,false] [(.con (.str [120])),(.con (.str [121]))]),(.disp .lst [false,false,false,false] [(.con (.str [120])),(.con (.str [121])),(.con (.str [122])),(.con (.str [97]))]),(.disp .lst [false,false,false,false,false,false] [(.con (.str [97])),(.con (.str [98])),(.con (.str [99])),(.con (.str [100])),(.con (.str [101])),(.con (.str [102]))]),(.disp .lst [false,false,false,false,false] [(.con (.str [120])),(.con (.str [97,98,99,100,101,102,103,104])),(.con (.str [97,97])),(.con (.str [98])),(.con (.str [122,122]))])])), (.ret (.call 402 [(.var 0),(.var 1)]))]
def D404 : FD := ⟨2, 1, 2, B404, .pl, false⟩ -- _law_words
def B405 : List IS := [(.ret (.disp .tup [false,false] [(.con (.str [117,115,101])),(.call 402 [(.var 0),(.var 1)])]))]
def D405 : FD := ⟨2, 2, 2, B405, .pl, false⟩ -- _law_leaf
def B406 : List IS := [(.ite (.or (.p2 .lt (.p2 .idx (.var 2) (.con (.int 0))) (.con (.int 3))) (.p2 .eq (.call 401 [(.var 0),(.con (.int 7))]) (.con (.int 0)))) [(.ret (.disp .lst [false,false] [(.call 405 [(.var 0),(.var 1)]),(.disp .lst [false,false] [(.p2 .sub (.p2 .idx (.var 2) (.con (.int 0))) (.con (.int 1))),(.p2 .idx (.var 2) (.con (.int 1)))])]))] []), (.ite (.and (.p2 .gt (.p2 .idx (.var 2) (.con (.int 1))) (.con (.int 0))) (.p2 .gt (.call 401 [(.var 0),(.con (.int 3))]) (.con (.int 0)))) [(.ret (.call 407 [(.var 0),(.var 1),(.var 2)]))] []), (.par [4,5] [(.disp .cell [] []),(.disp .lst [false,false] [(.p2 .sub (.p2 .idx (.var 2) (.con (.int 0))) (.con (.int 1))),(.p2 .idx (.var 2) (.con (.int 1)))])]), (.for (.nm 3) 1 [(.call 402 [(.var 0),(.disp .lst [false,false,false,false,false] [(.con (.int 0)),(.con (.int 1)),(.con (.int 2)),(.con (.int 2)),(.con (.int 3))])])] [(.ite (.p2 .gt (.p2 .idx (.var 5) (.con (.int 0))) (.con (.int 0))) [(.asg (.tup [(.nm 6),(.nm 5)]) (.call 406 [(.var 0),(.var 1),(.var 5)])), (.drop (.pm .append (.var 4) [(.var 6)]))] [])]), (.ret (.disp .lst [false,false] [(.disp .tup [false,false,false] [(.con (.str [106,111,105,110])),(.call 402 [(.var 0),(.disp .lst [false,false,false] [(.con (.str [102])),(.con (.str [120])),(.con (.str [106,111,105,110]))])]),(.pb .tuple false [(.var 4)])]),(.var 5)]))]
def D406 : FD := ⟨2, 3, 7, B406, .pl, false⟩ -- _law_grown
def B407 : List IS := [(.par [4,5] [(.disp .cell [] []),(.disp .lst [false,false] [(.p2 .sub (.p2 .idx (.var 2) (.con (.int 0))) (.con (.int 1))),(.p2 .sub (.p2 .idx (.var 2) (.con (.int 1))) (.con (.int 1)))])]), (.for (.nm 3) 1 [(.call 402 [(.var 0),(.disp .lst [false,false,false,false,false,false] [(.con (.int 0)),(.con (.int 0)),(.con (.int 0)),(.con (.int 1)),(.con (.int 1)),(.con (.int 2))])])] [(.ite (.p2 .gt (.p2 .idx (.var 5) (.con (.int 0))) (.con (.int 3))) [(.asg (.tup [(.nm 6),(.nm 5)]) (.call 406 [(.var 0),(.var 1),(.var 5)])), (.drop (.pm .append (.var 4) [(.var 6)]))] [])]), (.ite (.p2 .lt (.p2 .idx (.var 5) (.con (.int 0))) (.con (.int 1))) [(.ret (.disp .lst [false,false] [(.disp .tup [false,false,false,false] [(.con (.str [98,105,110,100])),(.call 402 [(.var 0),(.var 1)]),(.disp .tup [] []),(.p2 .idx (.var 4) (.con (.int 0)))]),(.var 5)]))] []), (.asg (.tup [(.nm 6),(.nm 5)]) (.call 406 [(.var 0),(.var 1),(.var 5)])), (.ret (.disp .lst [false,false] [(.disp .tup [false,false,false,false] [(.con (.str [98,105,110,100])),(.call 402 [(.var 0),(.var 1)]),(.pb .tuple false [(.var 4)]),(.var 6)]),(.var 5)]))]
def D407 : FD := ⟨2, 3, 7, B407, .pl, false⟩ -- _law_bound
def B408 : List IS := [(.asg (.nm 3) (.disp .tup [false,false,false] [(.con (.str [106,111,105,110])),(.con (.str [102])),(.pb .tuple false [(.lc false [4] (.nm 4) 1 [(.p2 .add (.con (.int 1)) (.call 401 [(.var 0),(.con (.int 4))]))] none (.call 405 [(.var 0),(.var 1)]))])])), (.for (.nm 4) 1 [(.var 2)] [(.asg (.nm 5) (.lc false [8] (.nm 8) 1 [(.call 401 [(.var 0),(.con (.int 2))])] none (.call 405 [(.var 0),(.var 1)]))), (.asg (.nm 6) (.ite (.p2 .eq (.var 5) (.disp .lst [] [])) (.var 3) (.disp .tup [false,false,false] [(.con (.str [106,111,105,110])),(.con (.str [103])),(.pb .tuple false [(.p2 .add (.var 5) (.disp .lst [false] [(.var 3)]))])]))), (.asg (.nm 7) (.ite (.p2 .eq (.call 401 [(.var 0),(.con (.int 4))]) (.con (.int 0))) (.disp .lst [false] [(.call 405 [(.var 0),(.var 1)])]) (.disp .lst [] []))), (.asg (.nm 3) (.disp .tup [false,false,false,false] [(.con (.str [98,105,110,100])),(.call 402 [(.var 0),(.var 1)]),(.pb .tuple false [(.var 7)]),(.var 6)]))]), (.ret (.var 3))]
def D408 : FD := ⟨2, 3, 9, B408, .pl, false⟩ -- _law_nested
def B409 : List IS := [(.par [3,4] [(.call 404 [(.var 0)]),(.call 401 [(.var 0),(.con (.int 4))])]), (.ite (.p2 .eq (.var 4) (.con (.int 0))) [(.ret (.call 408 [(.var 0),(.var 3),(.call 401 [(.var 0),(.p2 .add (.pb .min false [(.var 2),(.p2 .fdiv (.var 1) (.con (.int 6)))]) (.con (.int 1)))])]))] []), (.ite (.p2 .eq (.var 4) (.con (.int 1))) [(.asg (.nm 5) (.disp .lst [false,false] [(.p2 .fdiv (.var 1) (.con (.int 2))),(.p2 .fdiv (.var 2) (.con (.int 2)))])), (.par [6,7] [(.p2 .idx (.call 406 [(.var 0),(.var 3),(.var 5)]) (.con (.int 0))),(.p2 .idx (.call 406 [(.var 0),(.var 3),(.var 5)]) (.con (.int 0)))]), (.ret (.disp .tup [false,false,false] [(.con (.str [106,111,105,110])),(.con (.str [102])),(.disp .tup [false,false] [(.var 6),(.var 7)])]))] []), (.ret (.p2 .idx (.call 406 [(.var 0),(.var 3),(.disp .lst [false,false] [(.var 1),(.var 2)])]) (.con (.int 0))))]
def D409 : FD := ⟨2, 3, 8, B409, .pl, false⟩ -- _law_tree
def B410 : List IS := [(.ite (.p2 .eq (.p2 .idx (.var 0) (.con (.int 0))) (.con (.str [117,115,101]))) [(.ret (.disp .lst [] []))] []), (.ret (.ite (.p2 .eq (.p2 .idx (.var 0) (.con (.int 0))) (.con (.str [106,111,105,110]))) (.pb .list false [(.p2 .idx (.var 0) (.con (.int 2)))]) (.p2 .add (.pb .list false [(.p2 .idx (.var 0) (.con (.int 2)))]) (.disp .lst [false] [(.p2 .idx (.var 0) (.con (.int 3)))]))))]
def D410 : FD := ⟨0, 1, 1, B410, .pl, false⟩ -- _law_below
def B411 : List IS := [(.asg (.nm 3) (.disp .lst [false] [(.disp .lst [false,false,false] [(.var 2),(.var 0),(.var 1)])])), (.for (.tup [(.nm 4),(.nm 5)]) 2 [(.call 410 [(.var 0)])] [(.asg (.nm 6) (.var 1)), (.ite (.and (.p2 .eq (.p2 .idx (.var 0) (.con (.int 0))) (.con (.str [98,105,110,100]))) (.p2 .eq (.var 4) (.pb .len false [(.p2 .idx (.var 0) (.con (.int 2)))]))) [(.asg (.nm 6) (.p2 .add (.var 1) (.disp .lst [false] [(.var 2)])))] []), (.asg (.nm 3) (.p2 .add (.var 3) (.call 411 [(.var 5),(.var 6),(.p2 .add (.var 2) (.pb .len false [(.var 3)]))])))]), (.ret (.var 3))]
def D411 : FD := ⟨0, 3, 7, B411, .pl, false⟩ -- _law_spots
def B412 : List IS := [(.asg (.nm 1) (.call 411 [(.var 0),(.disp .lst [] []),(.con (.int 0))])), (.asg (.nm 2) (.lc false [4,5,6] (.tup [(.nm 4),(.nm 5),(.nm 6)]) 0 [(.var 1)] (some (.p2 .eq (.p2 .idx (.var 5) (.con (.int 0))) (.con (.str [98,105,110,100])))) (.var 4))), (.asg (.nm 3) (.dd [.inr [110,97,109,101,115],.inr [117,115,101,115],.inr [97,114,111,117,110,100]] [(.lc false [4,5,6] (.tup [(.nm 4),(.nm 5),(.nm 6)]) 0 [(.var 1)] (some (.p2 .eq (.p2 .idx (.var 5) (.con (.int 0))) (.con (.str [98,105,110,100])))) (.p2 .idx (.var 5) (.con (.int 1)))),(.disp .cell [] []),(.disp .cell [] [])])), (.asI2 3 (.inr [97,108,108]) (.inr [110,111,100,101,115]) (.lc false [4,5,6] (.tup [(.nm 4),(.nm 5),(.nm 6)]) 0 [(.var 1)] none (.lc false [9] (.nm 9) 0 [(.var 6)] none (.pm .index (.var 2) [(.var 9)]))) (.var 2)), (.for (.tup [(.nm 4),(.nm 5),(.nm 6)]) 0 [(.var 1)] [(.asg (.nm 7) (.lc false [9] (.nm 9) 0 [(.var 6)] none (.pm .index (.var 2) [(.var 9)]))), (.ite (.p2 .eq (.p2 .idx (.var 5) (.con (.int 0))) (.con (.str [98,105,110,100]))) [(.drop (.pm .append (.dget (.var 3) (.con (.str [97,114,111,117,110,100]))) [(.var 7)]))] []), (.ite (.p2 .eq (.p2 .idx (.var 5) (.con (.int 0))) (.con (.str [117,115,101]))) [(.asg (.nm 8) (.lc false [10] (.nm 10) 0 [(.var 7)] (some (.p2 .eq (.p2 .idx (.dget (.var 3) (.con (.str [110,97,109,101,115]))) (.var 10)) (.p2 .idx (.var 5) (.con (.int 1))))) (.var 10))), (.drop (.pm .append (.dget (.var 3) (.con (.str [117,115,101,115]))) [(.disp .lst [false,false,false] [(.p2 .idx (.var 5) (.con (.int 1))),(.var 7),(.ite (.p2 .ne (.var 8) (.disp .lst [] [])) (.p2 .idx (.var 8) (.neg (.con (.int 1)))) (.p2 .idx (.var 5) (.con (.int 1))))])]))] [])]), (.ret (.var 3))]
def D412 : FD := ⟨2, 1, 11, B412, .pl, false⟩ -- _law_page
def B413 : List IS := [(.ret (.pb .sortLN false [(.call 403 [(.var 0)])]))]
def D413 : FD := ⟨0, 1, 1, B413, .pl, true⟩ -- _law_in_order
def B414 : List IS := [(.ret (.p2 .inn (.var 1) (.p2 .idx (.dget (.var 0) (.con (.str [97,114,111,117,110,100]))) (.var 2))))]
def D414 : FD := ⟨2, 3, 3, B414, .pl, false⟩ -- _law_inside
def B415 : List IS := [(.asg (.nm 2) (.lc false [4] (.nm 4) 0 [(.dget (.var 0) (.con (.str [117,115,101,115])))] (some (.p2 .inn (.var 1) (.p2 .idx (.var 4) (.con (.int 1))))) (.var 4))), (.asg (.nm 3) (.lc false [4] (.nm 4) 0 [(.var 2)] (some (.and (.not (.isi [.bt .str] (.p2 .idx (.var 4) (.con (.int 2))))) (.call 414 [(.var 0),(.p2 .idx (.var 4) (.con (.int 2))),(.var 1)]))) (.p2 .idx (.var 4) (.con (.int 2))))), (.ret (.p2 .add (.pb .sorted false [(.call 403 [(.var 3)])]) (.call 413 [(.lc false [4] (.nm 4) 0 [(.var 2)] (some (.isi [.bt .str] (.p2 .idx (.var 4) (.con (.int 2))))) (.p2 .idx (.var 4) (.con (.int 2))))])))]
def D415 : FD := ⟨2, 2, 5, B415, .pl, false⟩ -- _law_live
def B416 : List IS := [(.ret (.lc false [1] (.nm 1) 1 [(.pb .len false [(.dget (.var 0) (.con (.str [110,97,109,101,115])))])] none (.call 415 [(.var 0),(.var 1)])))]
def D416 : FD := ⟨2, 1, 2, B416, .pl, false⟩ -- _law_all_live
def B417 : List IS := [(.ret (.ite (.isi [.bt .str] (.var 2)) (.var 2) (.p2 .idx (.var 1) (.var 2))))]
def D417 : FD := ⟨2, 3, 3, B417, .pl, false⟩ -- _law_named
def B418 : List IS := [(.ret (.pb .tuple false [(.lc false [3] (.nm 3) 0 [(.dget (.var 1) (.con (.str [110,97,109,101,115])))] none (.call 402 [(.var 0),(.var 2)]))]))]
def D418 : FD := ⟨2, 3, 4, B418, .pl, false⟩ -- _law_any_naming
def B419 : List IS := [(.asg (.nm 1) (.disp .lst [] [])), (.for (.tup [(.nm 2),(.nm 3)]) 2 [(.var 0)] [(.asg (.nm 1) (.p2 .add (.var 1) (.lc false [4] (.nm 4) 0 [(.var 3)] none (.disp .tup [false,false] [(.var 4),(.var 2)]))))]), (.ret (.var 1))]
def D419 : FD := ⟨0, 1, 5, B419, .pl, false⟩ -- _law_pairs
def B420 : List IS := [(.for (.nm 3) 0 [(.var 1)] [(.for (.nm 4) 0 [(.var 1)] [(.ite (.and (.not (.isi [.bt .str] (.var 4))) (.and (.p2 .ne (.var 3) (.var 4)) (.and (.isi [.bt .str] (.var 3)) (.p2 .notin (.disp .tup [false,false] [(.var 3),(.var 4)]) (.var 0))))) [(.ret (.con (.bl false)))] []), (.ite (.and (.not (.isi [.bt .str] (.var 3))) (.and (.not (.isi [.bt .str] (.var 4))) (.and (.p2 .lt (.var 3) (.var 4)) (.p2 .notin (.disp .tup [false,false] [(.var 3),(.var 4)]) (.var 0))))) [(.ret (.con (.bl false)))] [])])]), (.ret (.con (.bl true)))]
def D420 : FD := ⟨0, 3, 5, B420, .pl, false⟩ -- _law_crowded
def B421 : List IS := [(.for (.nm 1) 1 [(.pb .max false [(.con (.int 1)),(.pb .min false [(.con (.int 8)),(.pb .len false [(.var 0)])])])] [(.asg (.nm 2) (.call 400 [(.var 0),(.var 1)])), (.asg (.nm 3) (.call 409 [(.var 2),(.con (.int 24)),(.con (.int 7))])), (.asg (.tup [(.nm 8),(.nm 9)]) (.disp .tup [false,false] [(.call 412 [(.var 3)]),(.make 1 12 true [(.var 3)])])), (.asg (.nm 4) (.call 416 [(.var 8)])), (.asg (.nm 5) (.call 419 [(.var 4)])), (.ite (.p2 .ne (.call 61 [(.var 9)]) (.var 5)) [(.ret (.con (.bl false)))] []), (.ite (.p2 .ne (.lc false [13] (.nm 13) 1 [(.pb .len false [(.var 4)])] none (.call 59 [(.var 9),(.var 13)])) (.var 4)) [(.ret (.con (.bl false)))] []), (.drop (.pm .append (.call 300 [(.var 9)]) [(.con .non)])), (.for (.nm 6) 1 [(.pb .len false [(.var 4)])] [(.drop (.pm .append (.call 302 [(.var 9),(.var 6)]) [(.con .non)])), (.ite (.p2 .ne (.call 59 [(.var 9),(.var 6)]) (.p2 .idx (.var 4) (.var 6))) [(.ret (.con (.bl false)))] []), (.ite (.not (.call 420 [(.var 5),(.p2 .idx (.var 4) (.var 6)),(.var 6)])) [(.ret (.con (.bl false)))] []), (.for (.nm 10) 1 [(.pb .len false [(.var 4)])] [(.ite (.p2 .ne (.call 62 [(.var 9),(.var 6),(.var 10)]) (.or (.p2 .inn (.disp .tup [false,false] [(.var 6),(.var 10)]) (.var 5)) (.p2 .inn (.disp .tup [false,false] [(.var 10),(.var 6)]) (.var 5)))) [(.ret (.con (.bl false)))] [])])]), (.for (.nm 7) 1 [(.con (.int 8))] [(.asg (.nm 11) (.call 418 [(.var 2),(.var 8),(.slice (.disp .lst [false,false,false,false] [(.con (.str [120])),(.con (.str [121])),(.con (.str [122])),(.con (.str [97]))]) none (some (.p2 .add (.con (.int 2)) (.call 401 [(.var 2),(.con (.int 3))]))) false)])), (.asg (.nm 12) (.lc false [14] (.nm 14) 0 [(.var 5)] (some (.p2 .eq (.call 417 [(.var 8),(.var 11),(.p2 .idx (.var 14) (.con (.int 0)))]) (.p2 .idx (.var 11) (.p2 .idx (.var 14) (.con (.int 1)))))) (.var 14))), (.ite (.p2 .ne (.call 63 [(.var 9),(.var 11)]) (.var 12)) [(.ret (.con (.bl false)))] []), (.ite (.p2 .ne (.p2 .eq (.var 12) (.disp .lst [] [])) (.call 55 [(.var 9),(.var 11)])) [(.ret (.con (.bl false)))] []), (.ite (.p2 .ne (.call 61 [(.var 9)]) (.var 5)) [(.ret (.con (.bl false)))] [])])]), (.ret (.con (.bl true)))]
def D421 : FD := ⟨0, 1, 15, B421, .pl, false⟩ -- law
def lwT : List (Nat × FD) := [(400, D400), (401, D401), (402, D402), (403, D403), (404, D404), (405, D405), (406, D406), (407, D407), (408, D408), (409, D409), (410, D410), (411, D411)] ++ [(412, D412), (413, D413), (414, D414), (415, D415), (416, D416), (417, D417), (418, D418), (419, D419), (420, D420), (421, D421)]
def Has (p : Prog) (l : List Nat) : Prop := ∀ f ∈ l, p.fs f = (pkT ++ lwT).lookup f
theorem Has.mono {p : Prog} {l m : List Nat} (h : Has p l) (k : (m.all fun f => l.contains f) = true) : Has p m := fun f hf => h f (by simpa using List.all_eq_true.mp k f hf)
end LP
set_option Elab.async false
set_option linter.all false
set_option maxRecDepth 100000
set_option maxHeartbeats 0
namespace LP
open PySem PySem.Spec PyProof.Rows L2 LN

def fnms : List Str := [("most" : PySem.Str), ("nodes" : PySem.Str), ("around" : PySem.Str), ("binder_nodes" : PySem.Str), ("use_nodes" : PySem.Str), ("own_tree" : PySem.Str), ("own_nodes" : PySem.Str), ("own_around" : PySem.Str), ("own_names" : PySem.Str), ("use_around" : PySem.Str), ("own_meaning" : PySem.Str), ("names" : PySem.Str)] ++ [("binder" : PySem.Str), ("names_left" : PySem.Str), ("uses_left" : PySem.Str), ("pool" : PySem.Str), ("value" : PySem.Str), ("number" : PySem.Str), ("wishes" : PySem.Str), ("weights" : PySem.Str), ("form" : PySem.Str), ("links" : PySem.Str), ("many" : PySem.Str), ("line" : PySem.Str)] ++ [("left" : PySem.Str), ("term" : PySem.Str), ("fresh_names" : PySem.Str), ("binder_at" : PySem.Str), ("use_at" : PySem.Str), ("host" : PySem.Str), ("other" : PySem.Str), ("taken" : PySem.Str), ("old_names" : PySem.Str), ("raw" : PySem.Str), ("first" : PySem.Str), ("pages" : PySem.Str)] ++ [("text" : PySem.Str), ("at" : PySem.Str), ("open_ones" : PySem.Str), ("maker" : PySem.Str), ("live" : PySem.Str), ("was" : PySem.Str), ("held" : PySem.Str), ("guest" : PySem.Str)]
def mnms : List Str := [("__init__" : PySem.Str), ("add" : PySem.Str), ("meant" : PySem.Str), ("tree" : PySem.Str), ("listed" : PySem.Str), ("binders" : PySem.Str), ("uses" : PySem.Str), ("depth" : PySem.Str), ("__len__" : PySem.Str), ("__getitem__" : PySem.Str), ("__contains__" : PySem.Str), ("__iter__" : PySem.Str)] ++ [("__eq__" : PySem.Str), ("of_use" : PySem.Str), ("of_join" : PySem.Str), ("of_bind" : PySem.Str), ("anew" : PySem.Str), ("is_gone" : PySem.Str), ("free_name" : PySem.Str), ("use_tree" : PySem.Str), ("met" : PySem.Str), ("woven" : PySem.Str), ("called" : PySem.Str), ("made" : PySem.Str)] ++ [("renamed" : PySem.Str), ("caught" : PySem.Str), ("kept" : PySem.Str), ("named" : PySem.Str), ("turn" : PySem.Str), ("rename" : PySem.Str), ("tune" : PySem.Str), ("put" : PySem.Str), ("inline" : PySem.Str), ("wrap" : PySem.Str), ("unwrap" : PySem.Str), ("undo" : PySem.Str)] ++ [("twin" : PySem.Str), ("trial" : PySem.Str), ("trying" : PySem.Str), ("sign" : PySem.Str), ("fail" : PySem.Str), ("take" : PySem.Str), ("name" : PySem.Str), ("begun" : PySem.Str), ("put_in" : PySem.Str), ("whole" : PySem.Str), ("__enter__" : PySem.Str), ("__exit__" : PySem.Str)] ++ [("keep" : PySem.Str), ("run" : PySem.Str), ("answered" : PySem.Str), ("led" : PySem.Str)]
def G0 : List (Str × GK) := [(("is_whole" : PySem.Str), .fn 3 1), (("is_number" : PySem.Str), .fn 4 3), (("is_name" : PySem.Str), .fn 5 1), (("is_line" : PySem.Str), .fn 28 1), (("each_once" : PySem.Str), .fn 29 1), (("ordered" : PySem.Str), .fn 30 1), (("is_tree" : PySem.Str), .fn 6 1), (("are_trees" : PySem.Str), .fn 7 1), (("parts_of" : PySem.Str), .fn 8 1), (("deep_of" : PySem.Str), .fn 9 1), (("look_at_term" : PySem.Str), .fn 34 1), (("look_at_binder" : PySem.Str), .fn 35 2)]
def G1 : List (Str × GK) := [(("are_such_names" : PySem.Str), .fn 45 2), (("look_at_names" : PySem.Str), .fn 47 2), (("name_for" : PySem.Str), .fn 50 2), (("inner" : PySem.Str), .fn 53 2), (("catches_of" : PySem.Str), .fn 54 2), (("is_right" : PySem.Str), .fn 55 2), (("all_live" : PySem.Str), .two 57 303 1), (("in_line" : PySem.Str), .two 58 304 1), (("live_at" : PySem.Str), .two 59 302 2), (("pairs_of" : PySem.Str), .two 60 301 1), (("clashes" : PySem.Str), .two 61 300 1), (("do_clash" : PySem.Str), .fn 62 3)]
def G2 : List (Str × GK) := [(("hurt" : PySem.Str), .fn 63 2), (("_law_pool" : PySem.Str), .fn 400 2), (("_law_take" : PySem.Str), .fn 401 2), (("_law_one" : PySem.Str), .fn 402 2), (("_law_unlike" : PySem.Str), .fn 403 1), (("_law_words" : PySem.Str), .fn 404 1), (("_law_leaf" : PySem.Str), .fn 405 2), (("_law_grown" : PySem.Str), .fn 406 3), (("_law_bound" : PySem.Str), .fn 407 3), (("_law_nested" : PySem.Str), .fn 408 3), (("_law_tree" : PySem.Str), .fn 409 3), (("_law_below" : PySem.Str), .fn 410 1)]
def G3 : List (Str × GK) := [(("_law_spots" : PySem.Str), .fn 411 3), (("_law_page" : PySem.Str), .fn 412 1), (("_law_in_order" : PySem.Str), .fn 413 1), (("_law_inside" : PySem.Str), .fn 414 3), (("_law_live" : PySem.Str), .fn 415 2), (("_law_all_live" : PySem.Str), .fn 416 1), (("_law_named" : PySem.Str), .fn 417 3), (("_law_any_naming" : PySem.Str), .fn 418 3), (("_law_pairs" : PySem.Str), .fn 419 1), (("_law_crowded" : PySem.Str), .fn 420 3), (("law" : PySem.Str), .fn 421 1), (("Flat" : PySem.Str), .cls 0 10 1)]
def G4 : List (Str × GK) := [(("Term" : PySem.Str), .cls 1 12 1), (("LETTERS" : PySem.Str), .str [97,98,99,100,101,102,103,104,105,106,107,108,109,110,111,112,113,114,115,116,117,118,119,120,121,122]), (("MOST_LETTERS" : PySem.Str), .int 8), (("MOST_NODES" : PySem.Str), .int 400), (("MOST_BINDERS" : PySem.Str), .int 60), (("MOST_DEEP" : PySem.Str), .int 100), (("len" : PySem.Str), .bn), (("list" : PySem.Str), .bn), (("tuple" : PySem.Str), .bn), (("max" : PySem.Str), .bn), (("min" : PySem.Str), .bn), (("all" : PySem.Str), .bn)]
def G5 : List (Str × GK) := [(("int" : PySem.Str), .bn), (("sorted" : PySem.Str), .bn), (("str" : PySem.Str), .bn), (("bool" : PySem.Str), .bn), (("isinstance" : PySem.Str), .bn), (("range" : PySem.Str), .bn), (("enumerate" : PySem.Str), .bn)]
def G : List (Str × GK) := G0 ++ G1 ++ G2 ++ G3 ++ G4 ++ G5
def N3 : List Str := [("value" : PySem.Str)]
theorem s3 {W : WP} {T : Tab} {mnm : Nat → Str} {k : Nat} (nm : Nms W mnm fnms mnms) : SndSs ⟨N3, defScope (top 11), none, G, D3.lam⟩ W T mnm k (defBody (top 11)) B3 := (vSs _ (vS nm 60 _) (defBody (top 11)) B3).get (by kernel_rfl)
theorem f3 : FnScope N3 (N3.take 1) (defScope (top 11)) := C8.fnScope_by (by kernel_rfl)
def N4 : List Str := [("value" : PySem.Str), ("low" : PySem.Str), ("high" : PySem.Str)]
theorem s4 {W : WP} {T : Tab} {mnm : Nat → Str} {k : Nat} (nm : Nms W mnm fnms mnms) : SndSs ⟨N4, defScope (top 12), none, G, D4.lam⟩ W T mnm k (defBody (top 12)) B4 := (vSs _ (vS nm 60 _) (defBody (top 12)) B4).get (by kernel_rfl)
theorem f4 : FnScope N4 (N4.take 3) (defScope (top 12)) := C8.fnScope_by (by kernel_rfl)
def N5 : List Str := [("value" : PySem.Str), ("sign" : PySem.Str)]
theorem s5 {W : WP} {T : Tab} {mnm : Nat → Str} {k : Nat} (nm : Nms W mnm fnms mnms) : SndSs ⟨N5, defScope (top 13), none, G, D5.lam⟩ W T mnm k (defBody (top 13)) B5 := (vSs _ (vS nm 60 _) (defBody (top 13)) B5).get (by kernel_rfl)
theorem f5 : FnScope N5 (N5.take 1) (defScope (top 13)) := C8.fnScope_by (by kernel_rfl)
def N28 : List Str := [("value" : PySem.Str)]
theorem s28 {W : WP} {T : Tab} {mnm : Nat → Str} {k : Nat} (nm : Nms W mnm fnms mnms) : SndSs ⟨N28, defScope (top 14), none, G, D28.lam⟩ W T mnm k (defBody (top 14)) B28 := (vSs _ (vS nm 60 _) (defBody (top 14)) B28).get (by kernel_rfl)
theorem f28 : FnScope N28 (N28.take 1) (defScope (top 14)) := C8.fnScope_by (by kernel_rfl)
def N29 : List Str := [("some" : PySem.Str), ("one" : PySem.Str)]
theorem s29 {W : WP} {T : Tab} {mnm : Nat → Str} {k : Nat} (nm : Nms W mnm fnms mnms) : SndSs ⟨N29, defScope (top 15), none, G, D29.lam⟩ W T mnm k (defBody (top 15)) B29 := (vSs _ (vS nm 60 _) (defBody (top 15)) B29).get (by kernel_rfl)
theorem f29 : FnScope N29 (N29.take 1) (defScope (top 15)) := C8.fnScope_by (by kernel_rfl)
def N30 : List Str := [("names" : PySem.Str)]
theorem s30 {W : WP} {T : Tab} {mnm : Nat → Str} {k : Nat} (nm : Nms W mnm fnms mnms) : SndSs ⟨N30, defScope (top 16), none, G, D30.lam⟩ W T mnm k (defBody (top 16)) B30 := (vSs _ (vS nm 60 _) (defBody (top 16)) B30).get (by kernel_rfl)
theorem f30 : FnScope N30 (N30.take 1) (defScope (top 16)) := C8.fnScope_by (by kernel_rfl)
def N6 : List Str := [("value" : PySem.Str)]
theorem s6 {W : WP} {T : Tab} {mnm : Nat → Str} {k : Nat} (nm : Nms W mnm fnms mnms) : SndSs ⟨N6, defScope (top 21), none, G, D6.lam⟩ W T mnm k (defBody (top 21)) B6 := (vSs _ (vS nm 60 _) (defBody (top 21)) B6).get (by kernel_rfl)
theorem f6 : FnScope N6 (N6.take 1) (defScope (top 21)) := C8.fnScope_by (by kernel_rfl)
def N7 : List Str := [("value" : PySem.Str), ("one" : PySem.Str)]
theorem s7 {W : WP} {T : Tab} {mnm : Nat → Str} {k : Nat} (nm : Nms W mnm fnms mnms) : SndSs ⟨N7, defScope (top 22), none, G, D7.lam⟩ W T mnm k (defBody (top 22)) B7 := (vSs _ (vS nm 60 _) (defBody (top 22)) B7).get (by kernel_rfl)
theorem f7 : FnScope N7 (N7.take 1) (defScope (top 22)) := C8.fnScope_by (by kernel_rfl)
def N8 : List Str := [("tree" : PySem.Str)]
theorem s8 {W : WP} {T : Tab} {mnm : Nat → Str} {k : Nat} (nm : Nms W mnm fnms mnms) : SndSs ⟨N8, defScope (top 23), none, G, D8.lam⟩ W T mnm k (defBody (top 23)) B8 := (vSs _ (vS nm 60 _) (defBody (top 23)) B8).get (by kernel_rfl)
theorem f8 : FnScope N8 (N8.take 1) (defScope (top 23)) := C8.fnScope_by (by kernel_rfl)
def N9 : List Str := [("tree" : PySem.Str), ("part" : PySem.Str)]
theorem s9 {W : WP} {T : Tab} {mnm : Nat → Str} {k : Nat} (nm : Nms W mnm fnms mnms) : SndSs ⟨N9, defScope (top 24), none, G, D9.lam⟩ W T mnm k (defBody (top 24)) B9 := (vSs _ (vS nm 60 _) (defBody (top 24)) B9).get (by kernel_rfl)
theorem f9 : FnScope N9 (N9.take 1) (defScope (top 24)) := C8.fnScope_by (by kernel_rfl)
def N10 : List Str := [("self" : PySem.Str), ("tree" : PySem.Str)]
theorem s10 {W : WP} {T : Tab} {mnm : Nat → Str} {k : Nat} (nm : Nms W mnm fnms mnms) : SndSs ⟨N10, defScope (inClass (top 25) 0), none, G, D10.lam⟩ W T mnm k (defBody (inClass (top 25) 0)) B10 := (vSs _ (vS nm 60 _) (defBody (inClass (top 25) 0)) B10).get (by kernel_rfl)
theorem f10 : FnScope N10 (N10.take 2) (defScope (inClass (top 25) 0)) := C8.fnScope_by (by kernel_rfl)
def N11 : List Str := [("self" : PySem.Str), ("tree" : PySem.Str), ("around" : PySem.Str), ("part" : PySem.Str), ("number" : PySem.Str)]
theorem s11 {W : WP} {T : Tab} {mnm : Nat → Str} {k : Nat} (nm : Nms W mnm fnms mnms) : SndSs ⟨N11, defScope (inClass (top 25) 1), none, G, D11.lam⟩ W T mnm k (defBody (inClass (top 25) 1)) B11 := (vSs _ (vS nm 60 _) (defBody (inClass (top 25) 1)) B11).get (by kernel_rfl)
theorem f11 : FnScope N11 (N11.take 3) (defScope (inClass (top 25) 1)) := C8.fnScope_by (by kernel_rfl)
def N12 : List Str := [("self" : PySem.Str), ("tree" : PySem.Str), ("flat" : PySem.Str), ("at" : PySem.Str)]
theorem s12 {W : WP} {T : Tab} {mnm : Nat → Str} {k : Nat} (nm : Nms W mnm fnms mnms) : SndSs ⟨N12, defScope (inClass (top 26) 0), none, G, D12.lam⟩ W T mnm k (defBody (inClass (top 26) 0)) B12 := (vSs _ (vS nm 60 _) (defBody (inClass (top 26) 0)) B12).get (by kernel_rfl)
theorem f12 : FnScope N12 (N12.take 2) (defScope (inClass (top 26) 0)) := C8.fnScope_by (by kernel_rfl)
def N13 : List Str := [("self" : PySem.Str), ("at" : PySem.Str), ("name" : PySem.Str), ("some" : PySem.Str), ("binder" : PySem.Str)]
theorem s13 {W : WP} {T : Tab} {mnm : Nat → Str} {k : Nat} (nm : Nms W mnm fnms mnms) : SndSs ⟨N13, defScope (inClass (top 26) 1), none, G, D13.lam⟩ W T mnm k (defBody (inClass (top 26) 1)) B13 := (vSs _ (vS nm 60 _) (defBody (inClass (top 26) 1)) B13).get (by kernel_rfl)
theorem f13 : FnScope N13 (N13.take 2) (defScope (inClass (top 26) 1)) := C8.fnScope_by (by kernel_rfl)
def N14 : List Str := [("self" : PySem.Str)]
theorem s14 {W : WP} {T : Tab} {mnm : Nat → Str} {k : Nat} (nm : Nms W mnm fnms mnms) : SndSs ⟨N14, defScope (inClass (top 26) 2), none, G, D14.lam⟩ W T mnm k (defBody (inClass (top 26) 2)) B14 := (vSs _ (vS nm 60 _) (defBody (inClass (top 26) 2)) B14).get (by kernel_rfl)
theorem f14 : FnScope N14 (N14.take 1) (defScope (inClass (top 26) 2)) := C8.fnScope_by (by kernel_rfl)
def N16 : List Str := [("self" : PySem.Str)]
theorem s16 {W : WP} {T : Tab} {mnm : Nat → Str} {k : Nat} (nm : Nms W mnm fnms mnms) : SndSs ⟨N16, defScope (inClass (top 26) 4), none, G, D16.lam⟩ W T mnm k (defBody (inClass (top 26) 4)) B16 := (vSs _ (vS nm 60 _) (defBody (inClass (top 26) 4)) B16).get (by kernel_rfl)
theorem f16 : FnScope N16 (N16.take 1) (defScope (inClass (top 26) 4)) := C8.fnScope_by (by kernel_rfl)
def N17 : List Str := [("self" : PySem.Str)]
theorem s17 {W : WP} {T : Tab} {mnm : Nat → Str} {k : Nat} (nm : Nms W mnm fnms mnms) : SndSs ⟨N17, defScope (inClass (top 26) 5), none, G, D17.lam⟩ W T mnm k (defBody (inClass (top 26) 5)) B17 := (vSs _ (vS nm 60 _) (defBody (inClass (top 26) 5)) B17).get (by kernel_rfl)
theorem f17 : FnScope N17 (N17.take 1) (defScope (inClass (top 26) 5)) := C8.fnScope_by (by kernel_rfl)
def N19 : List Str := [("self" : PySem.Str)]
theorem s19 {W : WP} {T : Tab} {mnm : Nat → Str} {k : Nat} (nm : Nms W mnm fnms mnms) : SndSs ⟨N19, defScope (inClass (top 26) 7), none, G, D19.lam⟩ W T mnm k (defBody (inClass (top 26) 7)) B19 := (vSs _ (vS nm 60 _) (defBody (inClass (top 26) 7)) B19).get (by kernel_rfl)
theorem f19 : FnScope N19 (N19.take 1) (defScope (inClass (top 26) 7)) := C8.fnScope_by (by kernel_rfl)
def N20 : List Str := [("self" : PySem.Str), ("index" : PySem.Str)]
theorem s20 {W : WP} {T : Tab} {mnm : Nat → Str} {k : Nat} (nm : Nms W mnm fnms mnms) : SndSs ⟨N20, defScope (inClass (top 26) 8), none, G, D20.lam⟩ W T mnm k (defBody (inClass (top 26) 8)) B20 := (vSs _ (vS nm 60 _) (defBody (inClass (top 26) 8)) B20).get (by kernel_rfl)
theorem f20 : FnScope N20 (N20.take 2) (defScope (inClass (top 26) 8)) := C8.fnScope_by (by kernel_rfl)
def N21 : List Str := [("self" : PySem.Str), ("tree" : PySem.Str)]
theorem s21 {W : WP} {T : Tab} {mnm : Nat → Str} {k : Nat} (nm : Nms W mnm fnms mnms) : SndSs ⟨N21, defScope (inClass (top 26) 9), none, G, D21.lam⟩ W T mnm k (defBody (inClass (top 26) 9)) B21 := (vSs _ (vS nm 60 _) (defBody (inClass (top 26) 9)) B21).get (by kernel_rfl)
theorem f21 : FnScope N21 (N21.take 2) (defScope (inClass (top 26) 9)) := C8.fnScope_by (by kernel_rfl)
def N23 : List Str := [("self" : PySem.Str), ("other" : PySem.Str)]
theorem s23 {W : WP} {T : Tab} {mnm : Nat → Str} {k : Nat} (nm : Nms W mnm fnms mnms) : SndSs ⟨N23, defScope (inClass (top 26) 11), none, G, D23.lam⟩ W T mnm k (defBody (inClass (top 26) 11)) B23 := (vSs _ (vS nm 60 _) (defBody (inClass (top 26) 11)) B23).get (by kernel_rfl)
theorem f23 : FnScope N23 (N23.take 2) (defScope (inClass (top 26) 11)) := C8.fnScope_by (by kernel_rfl)
def N34 : List Str := [("term" : PySem.Str)]
theorem s34 {W : WP} {T : Tab} {mnm : Nat → Str} {k : Nat} (nm : Nms W mnm fnms mnms) : SndSs ⟨N34, defScope (top 27), none, G, D34.lam⟩ W T mnm k (defBody (top 27)) B34 := (vSs _ (vS nm 60 _) (defBody (top 27)) B34).get (by kernel_rfl)
theorem f34 : FnScope N34 (N34.take 1) (defScope (top 27)) := C8.fnScope_by (by kernel_rfl)
def N35 : List Str := [("term" : PySem.Str), ("binder" : PySem.Str)]
theorem s35 {W : WP} {T : Tab} {mnm : Nat → Str} {k : Nat} (nm : Nms W mnm fnms mnms) : SndSs ⟨N35, defScope (top 28), none, G, D35.lam⟩ W T mnm k (defBody (top 28)) B35 := (vSs _ (vS nm 60 _) (defBody (top 28)) B35).get (by kernel_rfl)
theorem f35 : FnScope N35 (N35.take 2) (defScope (top 28)) := C8.fnScope_by (by kernel_rfl)
def N45 : List Str := [("term" : PySem.Str), ("value" : PySem.Str), ("name" : PySem.Str)]
theorem s45 {W : WP} {T : Tab} {mnm : Nat → Str} {k : Nat} (nm : Nms W mnm fnms mnms) : SndSs ⟨N45, defScope (top 30), none, G, D45.lam⟩ W T mnm k (defBody (top 30)) B45 := (vSs _ (vS nm 60 _) (defBody (top 30)) B45).get (by kernel_rfl)
theorem f45 : FnScope N45 (N45.take 2) (defScope (top 30)) := C8.fnScope_by (by kernel_rfl)
def N47 : List Str := [("term" : PySem.Str), ("names" : PySem.Str)]
theorem s47 {W : WP} {T : Tab} {mnm : Nat → Str} {k : Nat} (nm : Nms W mnm fnms mnms) : SndSs ⟨N47, defScope (top 31), none, G, D47.lam⟩ W T mnm k (defBody (top 31)) B47 := (vSs _ (vS nm 60 _) (defBody (top 31)) B47).get (by kernel_rfl)
theorem f47 : FnScope N47 (N47.take 2) (defScope (top 31)) := C8.fnScope_by (by kernel_rfl)
def N50 : List Str := [("names" : PySem.Str), ("meant" : PySem.Str)]
theorem s50 {W : WP} {T : Tab} {mnm : Nat → Str} {k : Nat} (nm : Nms W mnm fnms mnms) : SndSs ⟨N50, defScope (top 32), none, G, D50.lam⟩ W T mnm k (defBody (top 32)) B50 := (vSs _ (vS nm 60 _) (defBody (top 32)) B50).get (by kernel_rfl)
theorem f50 : FnScope N50 (N50.take 2) (defScope (top 32)) := C8.fnScope_by (by kernel_rfl)
def N53 : List Str := [("around" : PySem.Str), ("meant" : PySem.Str), ("binder" : PySem.Str)]
theorem s53 {W : WP} {T : Tab} {mnm : Nat → Str} {k : Nat} (nm : Nms W mnm fnms mnms) : SndSs ⟨N53, defScope (top 33), none, G, D53.lam⟩ W T mnm k (defBody (top 33)) B53 := (vSs _ (vS nm 60 _) (defBody (top 33)) B53).get (by kernel_rfl)
theorem f53 : FnScope N53 (N53.take 2) (defScope (top 33)) := C8.fnScope_by (by kernel_rfl)
def N54 : List Str := [("term" : PySem.Str), ("names" : PySem.Str), ("found" : PySem.Str), ("use" : PySem.Str), ("meant" : PySem.Str), ("some" : PySem.Str), ("binder" : PySem.Str)]
theorem s54 {W : WP} {T : Tab} {mnm : Nat → Str} {k : Nat} (nm : Nms W mnm fnms mnms) : SndSs ⟨N54, defScope (top 34), none, G, D54.lam⟩ W T mnm k (defBody (top 34)) B54 := (vSs _ (vS nm 60 _) (defBody (top 34)) B54).get (by kernel_rfl)
theorem f54 : FnScope N54 (N54.take 2) (defScope (top 34)) := C8.fnScope_by (by kernel_rfl)
def N55 : List Str := [("term" : PySem.Str), ("names" : PySem.Str)]
theorem s55 {W : WP} {T : Tab} {mnm : Nat → Str} {k : Nat} (nm : Nms W mnm fnms mnms) : SndSs ⟨N55, defScope (top 35), none, G, D55.lam⟩ W T mnm k (defBody (top 35)) B55 := (vSs _ (vS nm 60 _) (defBody (top 35)) B55).get (by kernel_rfl)
theorem f55 : FnScope N55 (N55.take 2) (defScope (top 35)) := C8.fnScope_by (by kernel_rfl)
def N57 : List Str := [("term" : PySem.Str), ("found" : PySem.Str), ("use" : PySem.Str), ("meant" : PySem.Str), ("binder" : PySem.Str), ("name" : PySem.Str), ("some" : PySem.Str)]
theorem s57 {W : WP} {T : Tab} {mnm : Nat → Str} {k : Nat} (nm : Nms W mnm fnms mnms) : SndSs ⟨N57, defScope (top 37), none, G, D57.lam⟩ W T mnm k (defBody (top 37)) B57 := (vSs _ (vS nm 60 _) (defBody (top 37)) B57).get (by kernel_rfl)
theorem f57 : FnScope N57 (N57.take 1) (defScope (top 37)) := C8.fnScope_by (by kernel_rfl)
def N303 : List Str := [("term" : PySem.Str), ("found" : PySem.Str), ("use" : PySem.Str), ("meant" : PySem.Str), ("binder" : PySem.Str), ("name" : PySem.Str), ("some" : PySem.Str)]
theorem s303 {W : WP} {T : Tab} {mnm : Nat → Str} {k : Nat} (nm : Nms W mnm fnms mnms) : SndSs ⟨N303, defScope (top 37), none, G, D303.lam⟩ W T mnm k (defBody (top 37)) B303 := (vSs _ (vS nm 60 _) (defBody (top 37)) B303).get (by kernel_rfl)
theorem f303 : FnScope N303 (N303.take 1) (defScope (top 37)) := C8.fnScope_by (by kernel_rfl)
def N58 : List Str := [("some" : PySem.Str), ("binders" : PySem.Str), ("one" : PySem.Str)]
theorem s58 {W : WP} {T : Tab} {mnm : Nat → Str} {k : Nat} (nm : Nms W mnm fnms mnms) : SndSs ⟨N58, defScope (top 38), none, G, D58.lam⟩ W T mnm k (defBody (top 38)) B58 := (vSs _ (vS nm 60 _) (defBody (top 38)) B58).get (by kernel_rfl)
theorem f58 : FnScope N58 (N58.take 1) (defScope (top 38)) := C8.fnScope_by (by kernel_rfl)
def N304 : List Str := [("some" : PySem.Str), ("binders" : PySem.Str), ("one" : PySem.Str)]
theorem s304 {W : WP} {T : Tab} {mnm : Nat → Str} {k : Nat} (nm : Nms W mnm fnms mnms) : SndSs ⟨N304, defScope (top 38), none, G, D304.lam⟩ W T mnm k (defBody (top 38)) B304 := (vSs _ (vS nm 60 _) (defBody (top 38)) B304).get (by kernel_rfl)
theorem f304 : FnScope N304 (N304.take 1) (defScope (top 38)) := C8.fnScope_by (by kernel_rfl)
def N59 : List Str := [("term" : PySem.Str), ("binder" : PySem.Str)]
theorem s59 {W : WP} {T : Tab} {mnm : Nat → Str} {k : Nat} (nm : Nms W mnm fnms mnms) : SndSs ⟨N59, defScope (top 39), none, G, D59.lam⟩ W T mnm k (defBody (top 39)) B59 := (vSs _ (vS nm 60 _) (defBody (top 39)) B59).get (by kernel_rfl)
theorem f59 : FnScope N59 (N59.take 2) (defScope (top 39)) := C8.fnScope_by (by kernel_rfl)
def N302 : List Str := [("term" : PySem.Str), ("binder" : PySem.Str)]
theorem s302 {W : WP} {T : Tab} {mnm : Nat → Str} {k : Nat} (nm : Nms W mnm fnms mnms) : SndSs ⟨N302, defScope (top 39), none, G, D302.lam⟩ W T mnm k (defBody (top 39)) B302 := (vSs _ (vS nm 60 _) (defBody (top 39)) B302).get (by kernel_rfl)
theorem f302 : FnScope N302 (N302.take 2) (defScope (top 39)) := C8.fnScope_by (by kernel_rfl)
def N60 : List Str := [("term" : PySem.Str), ("found" : PySem.Str), ("binder" : PySem.Str), ("some" : PySem.Str), ("one" : PySem.Str)]
theorem s60 {W : WP} {T : Tab} {mnm : Nat → Str} {k : Nat} (nm : Nms W mnm fnms mnms) : SndSs ⟨N60, defScope (top 40), none, G, D60.lam⟩ W T mnm k (defBody (top 40)) B60 := (vSs _ (vS nm 60 _) (defBody (top 40)) B60).get (by kernel_rfl)
theorem f60 : FnScope N60 (N60.take 1) (defScope (top 40)) := C8.fnScope_by (by kernel_rfl)
def N301 : List Str := [("term" : PySem.Str), ("found" : PySem.Str), ("binder" : PySem.Str), ("some" : PySem.Str), ("one" : PySem.Str)]
theorem s301 {W : WP} {T : Tab} {mnm : Nat → Str} {k : Nat} (nm : Nms W mnm fnms mnms) : SndSs ⟨N301, defScope (top 40), none, G, D301.lam⟩ W T mnm k (defBody (top 40)) B301 := (vSs _ (vS nm 60 _) (defBody (top 40)) B301).get (by kernel_rfl)
theorem f301 : FnScope N301 (N301.take 1) (defScope (top 40)) := C8.fnScope_by (by kernel_rfl)
def N61 : List Str := [("term" : PySem.Str)]
theorem s61 {W : WP} {T : Tab} {mnm : Nat → Str} {k : Nat} (nm : Nms W mnm fnms mnms) : SndSs ⟨N61, defScope (top 41), none, G, D61.lam⟩ W T mnm k (defBody (top 41)) B61 := (vSs _ (vS nm 60 _) (defBody (top 41)) B61).get (by kernel_rfl)
theorem f61 : FnScope N61 (N61.take 1) (defScope (top 41)) := C8.fnScope_by (by kernel_rfl)
def N300 : List Str := [("term" : PySem.Str)]
theorem s300 {W : WP} {T : Tab} {mnm : Nat → Str} {k : Nat} (nm : Nms W mnm fnms mnms) : SndSs ⟨N300, defScope (top 41), none, G, D300.lam⟩ W T mnm k (defBody (top 41)) B300 := (vSs _ (vS nm 60 _) (defBody (top 41)) B300).get (by kernel_rfl)
theorem f300 : FnScope N300 (N300.take 1) (defScope (top 41)) := C8.fnScope_by (by kernel_rfl)
def N62 : List Str := [("term" : PySem.Str), ("one" : PySem.Str), ("other" : PySem.Str), ("low" : PySem.Str), ("high" : PySem.Str)]
theorem s62 {W : WP} {T : Tab} {mnm : Nat → Str} {k : Nat} (nm : Nms W mnm fnms mnms) : SndSs ⟨N62, defScope (top 42), none, G, D62.lam⟩ W T mnm k (defBody (top 42)) B62 := (vSs _ (vS nm 60 _) (defBody (top 42)) B62).get (by kernel_rfl)
theorem f62 : FnScope N62 (N62.take 3) (defScope (top 42)) := C8.fnScope_by (by kernel_rfl)
def N63 : List Str := [("term" : PySem.Str), ("names" : PySem.Str), ("one" : PySem.Str), ("binder" : PySem.Str)]
theorem s63 {W : WP} {T : Tab} {mnm : Nat → Str} {k : Nat} (nm : Nms W mnm fnms mnms) : SndSs ⟨N63, defScope (top 43), none, G, D63.lam⟩ W T mnm k (defBody (top 43)) B63 := (vSs _ (vS nm 60 _) (defBody (top 43)) B63).get (by kernel_rfl)
theorem f63 : FnScope N63 (N63.take 2) (defScope (top 43)) := C8.fnScope_by (by kernel_rfl)
def N400 : List Str := [("_law_script" : PySem.Str), ("_law_k" : PySem.Str), ("_law_cell" : PySem.Str), ("_law_big" : PySem.Str), ("_law_mixed" : PySem.Str)]
theorem s400 {W : WP} {T : Tab} {mnm : Nat → Str} {k : Nat} (nm : Nms W mnm fnms mnms) : SndSs ⟨N400, defScope (top 45), none, G, D400.lam⟩ W T mnm k (defBody (top 45)) B400 := (vSs _ (vS nm 60 _) (defBody (top 45)) B400).get (by kernel_rfl)
theorem f400 : FnScope N400 (N400.take 2) (defScope (top 45)) := C8.fnScope_by (by kernel_rfl)
def N401 : List Str := [("_law_source" : PySem.Str), ("_law_top" : PySem.Str), ("_law_told" : PySem.Str)]
theorem s401 {W : WP} {T : Tab} {mnm : Nat → Str} {k : Nat} (nm : Nms W mnm fnms mnms) : SndSs ⟨N401, defScope (top 46), none, G, D401.lam⟩ W T mnm k (defBody (top 46)) B401 := (vSs _ (vS nm 60 _) (defBody (top 46)) B401).get (by kernel_rfl)
theorem f401 : FnScope N401 (N401.take 2) (defScope (top 46)) := C8.fnScope_by (by kernel_rfl)
def N402 : List Str := [("_law_source" : PySem.Str), ("_law_things" : PySem.Str)]
theorem s402 {W : WP} {T : Tab} {mnm : Nat → Str} {k : Nat} (nm : Nms W mnm fnms mnms) : SndSs ⟨N402, defScope (top 47), none, G, D402.lam⟩ W T mnm k (defBody (top 47)) B402 := (vSs _ (vS nm 60 _) (defBody (top 47)) B402).get (by kernel_rfl)
theorem f402 : FnScope N402 (N402.take 2) (defScope (top 47)) := C8.fnScope_by (by kernel_rfl)
def N403 : List Str := [("_law_things" : PySem.Str), ("_law_found" : PySem.Str), ("_law_thing" : PySem.Str)]
theorem s403 {W : WP} {T : Tab} {mnm : Nat → Str} {k : Nat} (nm : Nms W mnm fnms mnms) : SndSs ⟨N403, defScope (top 48), none, G, D403.lam⟩ W T mnm k (defBody (top 48)) B403 := (vSs _ (vS nm 60 _) (defBody (top 48)) B403).get (by kernel_rfl)
theorem f403 : FnScope N403 (N403.take 1) (defScope (top 48)) := C8.fnScope_by (by kernel_rfl)
def N404 : List Str := [("_law_source" : PySem.Str), ("_law_some" : PySem.Str)]
theorem s404 {W : WP} {T : Tab} {mnm : Nat → Str} {k : Nat} (nm : Nms W mnm fnms mnms) : SndSs ⟨N404, defScope (top 49), none, G, D404.lam⟩ W T mnm k (defBody (top 49)) B404 := (vSs _ (vS nm 60 _) (defBody (top 49)) B404).get (by kernel_rfl)
theorem f404 : FnScope N404 (N404.take 1) (defScope (top 49)) := C8.fnScope_by (by kernel_rfl)
def N405 : List Str := [("_law_source" : PySem.Str), ("_law_words_here" : PySem.Str)]
theorem s405 {W : WP} {T : Tab} {mnm : Nat → Str} {k : Nat} (nm : Nms W mnm fnms mnms) : SndSs ⟨N405, defScope (top 50), none, G, D405.lam⟩ W T mnm k (defBody (top 50)) B405 := (vSs _ (vS nm 60 _) (defBody (top 50)) B405).get (by kernel_rfl)
theorem f405 : FnScope N405 (N405.take 2) (defScope (top 50)) := C8.fnScope_by (by kernel_rfl)
def N406 : List Str := [("_law_source" : PySem.Str), ("_law_words_here" : PySem.Str), ("_law_room" : PySem.Str), ("_law_turn" : PySem.Str), ("_law_parts" : PySem.Str), ("_law_left" : PySem.Str), ("_law_tree_here" : PySem.Str)]
theorem s406 {W : WP} {T : Tab} {mnm : Nat → Str} {k : Nat} (nm : Nms W mnm fnms mnms) : SndSs ⟨N406, defScope (top 51), none, G, D406.lam⟩ W T mnm k (defBody (top 51)) B406 := (vSs _ (vS nm 60 _) (defBody (top 51)) B406).get (by kernel_rfl)
theorem f406 : FnScope N406 (N406.take 3) (defScope (top 51)) := C8.fnScope_by (by kernel_rfl)
def N407 : List Str := [("_law_source" : PySem.Str), ("_law_words_here" : PySem.Str), ("_law_room" : PySem.Str), ("_law_turn" : PySem.Str), ("_law_ahead" : PySem.Str), ("_law_left" : PySem.Str), ("_law_tree_here" : PySem.Str)]
theorem s407 {W : WP} {T : Tab} {mnm : Nat → Str} {k : Nat} (nm : Nms W mnm fnms mnms) : SndSs ⟨N407, defScope (top 52), none, G, D407.lam⟩ W T mnm k (defBody (top 52)) B407 := (vSs _ (vS nm 60 _) (defBody (top 52)) B407).get (by kernel_rfl)
theorem f407 : FnScope N407 (N407.take 3) (defScope (top 52)) := C8.fnScope_by (by kernel_rfl)
def N408 : List Str := [("_law_source" : PySem.Str), ("_law_words_here" : PySem.Str), ("_law_deep" : PySem.Str), ("_law_tree_here" : PySem.Str), ("_law_turn" : PySem.Str), ("_law_beside" : PySem.Str), ("_law_core" : PySem.Str), ("_law_ahead" : PySem.Str), ("_law_one_here" : PySem.Str)]
theorem s408 {W : WP} {T : Tab} {mnm : Nat → Str} {k : Nat} (nm : Nms W mnm fnms mnms) : SndSs ⟨N408, defScope (top 53), none, G, D408.lam⟩ W T mnm k (defBody (top 53)) B408 := (vSs _ (vS nm 60 _) (defBody (top 53)) B408).get (by kernel_rfl)
theorem f408 : FnScope N408 (N408.take 3) (defScope (top 53)) := C8.fnScope_by (by kernel_rfl)
def N409 : List Str := [("_law_source" : PySem.Str), ("_law_most_nodes" : PySem.Str), ("_law_most_binders" : PySem.Str), ("_law_words_here" : PySem.Str), ("_law_way" : PySem.Str), ("_law_half" : PySem.Str), ("_law_one_here" : PySem.Str), ("_law_other" : PySem.Str)]
theorem s409 {W : WP} {T : Tab} {mnm : Nat → Str} {k : Nat} (nm : Nms W mnm fnms mnms) : SndSs ⟨N409, defScope (top 54), none, G, D409.lam⟩ W T mnm k (defBody (top 54)) B409 := (vSs _ (vS nm 60 _) (defBody (top 54)) B409).get (by kernel_rfl)
theorem f409 : FnScope N409 (N409.take 3) (defScope (top 54)) := C8.fnScope_by (by kernel_rfl)
def N410 : List Str := [("_law_tree_here" : PySem.Str)]
theorem s410 {W : WP} {T : Tab} {mnm : Nat → Str} {k : Nat} (nm : Nms W mnm fnms mnms) : SndSs ⟨N410, defScope (top 55), none, G, D410.lam⟩ W T mnm k (defBody (top 55)) B410 := (vSs _ (vS nm 60 _) (defBody (top 55)) B410).get (by kernel_rfl)
theorem f410 : FnScope N410 (N410.take 1) (defScope (top 55)) := C8.fnScope_by (by kernel_rfl)
def N411 : List Str := [("_law_tree_here" : PySem.Str), ("_law_around" : PySem.Str), ("_law_first" : PySem.Str), ("_law_found" : PySem.Str), ("_law_spot" : PySem.Str), ("_law_one_here" : PySem.Str), ("_law_inside_here" : PySem.Str)]
theorem s411 {W : WP} {T : Tab} {mnm : Nat → Str} {k : Nat} (nm : Nms W mnm fnms mnms) : SndSs ⟨N411, defScope (top 56), none, G, D411.lam⟩ W T mnm k (defBody (top 56)) B411 := (vSs _ (vS nm 60 _) (defBody (top 56)) B411).get (by kernel_rfl)
theorem f411 : FnScope N411 (N411.take 3) (defScope (top 56)) := C8.fnScope_by (by kernel_rfl)
def N412 : List Str := [("_law_tree_here" : PySem.Str), ("_law_spots_here" : PySem.Str), ("_law_nodes" : PySem.Str), ("_law_page_here" : PySem.Str), ("_law_spot" : PySem.Str), ("_law_one_here" : PySem.Str), ("_law_around" : PySem.Str), ("_law_within" : PySem.Str), ("_law_meant" : PySem.Str), ("_law_place" : PySem.Str), ("_law_binder" : PySem.Str)]
theorem s412 {W : WP} {T : Tab} {mnm : Nat → Str} {k : Nat} (nm : Nms W mnm fnms mnms) : SndSs ⟨N412, defScope (top 57), none, G, D412.lam⟩ W T mnm k (defBody (top 57)) B412 := (vSs _ (vS nm 60 _) (defBody (top 57)) B412).get (by kernel_rfl)
theorem f412 : FnScope N412 (N412.take 1) (defScope (top 57)) := C8.fnScope_by (by kernel_rfl)
def N413 : List Str := [("_law_some" : PySem.Str)]
theorem s413 {W : WP} {T : Tab} {mnm : Nat → Str} {k : Nat} (nm : Nms W mnm fnms mnms) : SndSs ⟨N413, defScope (top 58), none, G, D413.lam⟩ W T mnm k (defBody (top 58)) B413 := (vSs _ (vS nm 60 _) (defBody (top 58)) B413).get (by kernel_rfl)
theorem f413 : FnScope N413 (N413.take 1) (defScope (top 58)) := C8.fnScope_by (by kernel_rfl)
def N414 : List Str := [("_law_page_here" : PySem.Str), ("_law_outer" : PySem.Str), ("_law_core" : PySem.Str)]
theorem s414 {W : WP} {T : Tab} {mnm : Nat → Str} {k : Nat} (nm : Nms W mnm fnms mnms) : SndSs ⟨N414, defScope (top 59), none, G, D414.lam⟩ W T mnm k (defBody (top 59)) B414 := (vSs _ (vS nm 60 _) (defBody (top 59)) B414).get (by kernel_rfl)
theorem f414 : FnScope N414 (N414.take 3) (defScope (top 59)) := C8.fnScope_by (by kernel_rfl)
def N415 : List Str := [("_law_page_here" : PySem.Str), ("_law_binder" : PySem.Str), ("_law_near" : PySem.Str), ("_law_outer" : PySem.Str), ("_law_use" : PySem.Str)]
theorem s415 {W : WP} {T : Tab} {mnm : Nat → Str} {k : Nat} (nm : Nms W mnm fnms mnms) : SndSs ⟨N415, defScope (top 60), none, G, D415.lam⟩ W T mnm k (defBody (top 60)) B415 := (vSs _ (vS nm 60 _) (defBody (top 60)) B415).get (by kernel_rfl)
theorem f415 : FnScope N415 (N415.take 2) (defScope (top 60)) := C8.fnScope_by (by kernel_rfl)
def N416 : List Str := [("_law_page_here" : PySem.Str), ("_law_binder" : PySem.Str)]
theorem s416 {W : WP} {T : Tab} {mnm : Nat → Str} {k : Nat} (nm : Nms W mnm fnms mnms) : SndSs ⟨N416, defScope (top 61), none, G, D416.lam⟩ W T mnm k (defBody (top 61)) B416 := (vSs _ (vS nm 60 _) (defBody (top 61)) B416).get (by kernel_rfl)
theorem f416 : FnScope N416 (N416.take 1) (defScope (top 61)) := C8.fnScope_by (by kernel_rfl)
def N417 : List Str := [("_law_page_here" : PySem.Str), ("_law_naming" : PySem.Str), ("_law_thing" : PySem.Str)]
theorem s417 {W : WP} {T : Tab} {mnm : Nat → Str} {k : Nat} (nm : Nms W mnm fnms mnms) : SndSs ⟨N417, defScope (top 62), none, G, D417.lam⟩ W T mnm k (defBody (top 62)) B417 := (vSs _ (vS nm 60 _) (defBody (top 62)) B417).get (by kernel_rfl)
theorem f417 : FnScope N417 (N417.take 3) (defScope (top 62)) := C8.fnScope_by (by kernel_rfl)
def N418 : List Str := [("_law_source" : PySem.Str), ("_law_page_here" : PySem.Str), ("_law_words_here" : PySem.Str), ("_law_binder" : PySem.Str)]
theorem s418 {W : WP} {T : Tab} {mnm : Nat → Str} {k : Nat} (nm : Nms W mnm fnms mnms) : SndSs ⟨N418, defScope (top 63), none, G, D418.lam⟩ W T mnm k (defBody (top 63)) B418 := (vSs _ (vS nm 60 _) (defBody (top 63)) B418).get (by kernel_rfl)
theorem f418 : FnScope N418 (N418.take 3) (defScope (top 63)) := C8.fnScope_by (by kernel_rfl)
def N419 : List Str := [("_law_live_here" : PySem.Str), ("_law_found" : PySem.Str), ("_law_binder" : PySem.Str), ("_law_some" : PySem.Str), ("_law_one_here" : PySem.Str)]
theorem s419 {W : WP} {T : Tab} {mnm : Nat → Str} {k : Nat} (nm : Nms W mnm fnms mnms) : SndSs ⟨N419, defScope (top 64), none, G, D419.lam⟩ W T mnm k (defBody (top 64)) B419 := (vSs _ (vS nm 60 _) (defBody (top 64)) B419).get (by kernel_rfl)
theorem f419 : FnScope N419 (N419.take 1) (defScope (top 64)) := C8.fnScope_by (by kernel_rfl)
def N420 : List Str := [("_law_pairs_here" : PySem.Str), ("_law_some" : PySem.Str), ("_law_binder" : PySem.Str), ("_law_one_here" : PySem.Str), ("_law_other" : PySem.Str)]
theorem s420 {W : WP} {T : Tab} {mnm : Nat → Str} {k : Nat} (nm : Nms W mnm fnms mnms) : SndSs ⟨N420, defScope (top 65), none, G, D420.lam⟩ W T mnm k (defBody (top 65)) B420 := (vSs _ (vS nm 60 _) (defBody (top 65)) B420).get (by kernel_rfl)
theorem f420 : FnScope N420 (N420.take 3) (defScope (top 65)) := C8.fnScope_by (by kernel_rfl)
def N421 : List Str := [("_law_script" : PySem.Str), ("_law_k" : PySem.Str), ("_law_source" : PySem.Str), ("_law_tree_here" : PySem.Str), ("_law_live_here" : PySem.Str), ("_law_pairs_here" : PySem.Str), ("_law_one_here" : PySem.Str), ("_law_turn" : PySem.Str), ("_law_page_here" : PySem.Str), ("_law_made" : PySem.Str), ("_law_other" : PySem.Str), ("_law_naming" : PySem.Str)] ++ [("_law_due" : PySem.Str), ("_law_binder" : PySem.Str), ("_law_pair" : PySem.Str)]
theorem s421 {W : WP} {T : Tab} {mnm : Nat → Str} {k : Nat} (nm : Nms W mnm fnms mnms) : SndSs ⟨N421, defScope (top 66), none, G, D421.lam⟩ W T mnm k (defBody (top 66)) B421 := (vSs _ (vS nm 60 _) (defBody (top 66)) B421).get (by kernel_rfl)
theorem f421 : FnScope N421 (N421.take 1) (defScope (top 66)) := C8.fnScope_by (by kernel_rfl)
def fdL : List (Nat × FD) := [(3, D3), (4, D4), (5, D5), (28, D28), (29, D29), (30, D30), (6, D6), (7, D7), (8, D8), (9, D9), (10, D10), (11, D11)] ++ [(12, D12), (13, D13), (14, D14), (16, D16), (17, D17), (19, D19), (20, D20), (21, D21), (23, D23), (34, D34), (35, D35), (45, D45)] ++ [(47, D47), (50, D50), (53, D53), (54, D54), (55, D55), (57, D57), (303, D303), (58, D58), (304, D304), (59, D59), (302, D302), (60, D60)] ++ [(301, D301), (61, D61), (300, D300), (62, D62), (63, D63), (400, D400), (401, D401), (402, D402), (403, D403), (404, D404), (405, D405), (406, D406)] ++ [(407, D407), (408, D408), (409, D409), (410, D410), (411, D411), (412, D412), (413, D413), (414, D414), (415, D415), (416, D416), (417, D417), (418, D418)] ++ [(419, D419), (420, D420), (421, D421)]
def gdL : List (Nat × GD) := []
def mtL : List ((Nat × Nat) × Nat) := [((0, 1), 11), ((1, 2), 13), ((1, 3), 14), ((1, 5), 16), ((1, 6), 17), ((1, 8), 19), ((1, 9), 20), ((1, 10), 21), ((1, 12), 23)]
def flL : List (Nat × Nat) := [(0, 2), (0, 3), (0, 1), (0, 4), (1, 3), (1, 7), (1, 10), (1, 8), (1, 6), (1, 5), (1, 9), (1, 4)]
def ckL : List Nat := [0, 1]
def prog : Prog where
  fs := fun f => fdL.lookup f
  mt := fun c m => mtL.lookup (c, m)
  ck := fun c => ckL.contains c
  fl := fun c f => flL.contains (c, f)
  ic := fun c => decide (c = 1)
  nv := fun _ => none
  gs := fun f => gdL.lookup f
def lawIx : Nat := 421
end LP
set_option Elab.async false
set_option linter.all false
set_option maxRecDepth 100000
set_option maxHeartbeats 0
namespace LP
open PySem PySem.Spec PyProof.Rows L2 LN
def clsN : List Str := [("Flat" : PySem.Str), ("Term" : PySem.Str), ("Writer" : PySem.Str), ("Numberer" : PySem.Str), ("Namer" : PySem.Str), ("Copy" : PySem.Str), ("Guest" : PySem.Str), ("Host" : PySem.Str), ("Weaver" : PySem.Str), ("Outcome" : PySem.Str), ("Part" : PySem.Str), ("Inlined" : PySem.Str)] ++ [("Live" : PySem.Str), ("Reader" : PySem.Str), ("Exchanger" : PySem.Str), ("LiveTrial" : PySem.Str), ("Console" : PySem.Str)]
def ats : List (Nat × He.Defn) := [(3, (("is_whole" : PySem.Str), none)), (4, (("is_number" : PySem.Str), none)), (5, (("is_name" : PySem.Str), none)), (28, (("is_line" : PySem.Str), none)), (29, (("each_once" : PySem.Str), none)), (30, (("ordered" : PySem.Str), none)), (6, (("is_tree" : PySem.Str), none)), (7, (("are_trees" : PySem.Str), none)), (8, (("parts_of" : PySem.Str), none)), (9, (("deep_of" : PySem.Str), none)), (10, (("Flat" : PySem.Str), some ("__init__" : PySem.Str))), (11, (("Flat" : PySem.Str), some ("add" : PySem.Str)))] ++ [(12, (("Term" : PySem.Str), some ("__init__" : PySem.Str))), (13, (("Term" : PySem.Str), some ("meant" : PySem.Str))), (14, (("Term" : PySem.Str), some ("tree" : PySem.Str))), (16, (("Term" : PySem.Str), some ("binders" : PySem.Str))), (17, (("Term" : PySem.Str), some ("uses" : PySem.Str))), (19, (("Term" : PySem.Str), some ("__len__" : PySem.Str))), (20, (("Term" : PySem.Str), some ("__getitem__" : PySem.Str))), (21, (("Term" : PySem.Str), some ("__contains__" : PySem.Str))), (23, (("Term" : PySem.Str), some ("__eq__" : PySem.Str))), (34, (("look_at_term" : PySem.Str), none)), (35, (("look_at_binder" : PySem.Str), none)), (45, (("are_such_names" : PySem.Str), none))] ++ [(47, (("look_at_names" : PySem.Str), none)), (50, (("name_for" : PySem.Str), none)), (53, (("inner" : PySem.Str), none)), (54, (("catches_of" : PySem.Str), none)), (55, (("is_right" : PySem.Str), none)), (57, (("all_live" : PySem.Str), none)), (303, (("all_live" : PySem.Str), none)), (58, (("in_line" : PySem.Str), none)), (304, (("in_line" : PySem.Str), none)), (59, (("live_at" : PySem.Str), none)), (302, (("live_at" : PySem.Str), none)), (60, (("pairs_of" : PySem.Str), none))] ++ [(301, (("pairs_of" : PySem.Str), none)), (61, (("clashes" : PySem.Str), none)), (300, (("clashes" : PySem.Str), none)), (62, (("do_clash" : PySem.Str), none)), (63, (("hurt" : PySem.Str), none)), (400, (("_law_pool" : PySem.Str), none)), (401, (("_law_take" : PySem.Str), none)), (402, (("_law_one" : PySem.Str), none)), (403, (("_law_unlike" : PySem.Str), none)), (404, (("_law_words" : PySem.Str), none)), (405, (("_law_leaf" : PySem.Str), none)), (406, (("_law_grown" : PySem.Str), none))] ++ [(407, (("_law_bound" : PySem.Str), none)), (408, (("_law_nested" : PySem.Str), none)), (409, (("_law_tree" : PySem.Str), none)), (410, (("_law_below" : PySem.Str), none)), (411, (("_law_spots" : PySem.Str), none)), (412, (("_law_page" : PySem.Str), none)), (413, (("_law_in_order" : PySem.Str), none)), (414, (("_law_inside" : PySem.Str), none)), (415, (("_law_live" : PySem.Str), none)), (416, (("_law_all_live" : PySem.Str), none)), (417, (("_law_named" : PySem.Str), none)), (418, (("_law_any_naming" : PySem.Str), none))] ++ [(419, (("_law_pairs" : PySem.Str), none)), (420, (("_law_crowded" : PySem.Str), none)), (421, (("law" : PySem.Str), none))]
def adK (K : PySem.W.Frag) (f : Nat) : Addr := He.fAd K ((ats.lookup f).getD ("", none))
def tabs (K : PySem.W.Frag) : List (Addr × Str) := tf.map fun p => ((He.cT K p).2, (p.1 ++ ".<locals>.") ++ "<lambda>")
def Wk (K : PySem.W.Frag) : WP := ⟨K, fun c => He.ga K (clsN.getD c ""), nmF fnms 0, tabs K⟩
theorem nmsOk (K : PySem.W.Frag) : Nms (Wk K) (nmF mnms 1) fnms mnms := ⟨fun i x h => nmF_get h, fun i x h => nmF_get h⟩
section
variable {K : PySem.W.Frag} (c : He.SaysD fa fn K) (P : Program) (w : World) (mg : Str → Option Value) (base : Heap)
include c
theorem i3 : DefI (Wk K) ⟨P, w, K, mg, base⟩ G (nmF mnms 1) D3 (adK K 3) := by
  obtain ⟨fd, F⟩ := c.def_ 0 (d := d3) rfl
  exact ⟨_, _, _, _, _, _, _, fd, N3, N3.take 1, F, f3, F.bindsN (fun _ _ _ _ _ _ us hl => match us, hl with | [_], _ => rfl), rfl, rfl, fun T k => s3 (nmsOk K)⟩
theorem i4 : DefI (Wk K) ⟨P, w, K, mg, base⟩ G (nmF mnms 1) D4 (adK K 4) := by
  obtain ⟨fd, F⟩ := c.def_ 1 (d := d4) rfl
  exact ⟨_, _, _, _, _, _, _, fd, N4, N4.take 3, F, f4, F.bindsN (fun _ _ _ _ _ _ us hl => match us, hl with | [_, _, _], _ => rfl), rfl, rfl, fun T k => s4 (nmsOk K)⟩
theorem i5 : DefI (Wk K) ⟨P, w, K, mg, base⟩ G (nmF mnms 1) D5 (adK K 5) := by
  obtain ⟨fd, F⟩ := c.def_ 2 (d := d5) rfl
  exact ⟨_, _, _, _, _, _, _, fd, N5, N5.take 1, F, f5, F.bindsN (fun _ _ _ _ _ _ us hl => match us, hl with | [_], _ => rfl), rfl, rfl, fun T k => s5 (nmsOk K)⟩
theorem i28 : DefI (Wk K) ⟨P, w, K, mg, base⟩ G (nmF mnms 1) D28 (adK K 28) := by
  obtain ⟨fd, F⟩ := c.def_ 3 (d := d28) rfl
  exact ⟨_, _, _, _, _, _, _, fd, N28, N28.take 1, F, f28, F.bindsN (fun _ _ _ _ _ _ us hl => match us, hl with | [_], _ => rfl), rfl, rfl, fun T k => s28 (nmsOk K)⟩
theorem i29 : DefI (Wk K) ⟨P, w, K, mg, base⟩ G (nmF mnms 1) D29 (adK K 29) := by
  obtain ⟨fd, F⟩ := c.def_ 4 (d := d29) rfl
  exact ⟨_, _, _, _, _, _, _, fd, N29, N29.take 1, F, f29, F.bindsN (fun _ _ _ _ _ _ us hl => match us, hl with | [_], _ => rfl), rfl, rfl, fun T k => s29 (nmsOk K)⟩
theorem i30 : DefI (Wk K) ⟨P, w, K, mg, base⟩ G (nmF mnms 1) D30 (adK K 30) := by
  obtain ⟨fd, F⟩ := c.def_ 5 (d := d30) rfl
  exact ⟨_, _, _, _, _, _, _, fd, N30, N30.take 1, F, f30, F.bindsN (fun _ _ _ _ _ _ us hl => match us, hl with | [_], _ => rfl), rfl, rfl, fun T k => s30 (nmsOk K)⟩
theorem i6 : DefI (Wk K) ⟨P, w, K, mg, base⟩ G (nmF mnms 1) D6 (adK K 6) := by
  obtain ⟨fd, F⟩ := c.def_ 6 (d := d6) rfl
  exact ⟨_, _, _, _, _, _, _, fd, N6, N6.take 1, F, f6, F.bindsN (fun _ _ _ _ _ _ us hl => match us, hl with | [_], _ => rfl), rfl, rfl, fun T k => s6 (nmsOk K)⟩
theorem i7 : DefI (Wk K) ⟨P, w, K, mg, base⟩ G (nmF mnms 1) D7 (adK K 7) := by
  obtain ⟨fd, F⟩ := c.def_ 7 (d := d7) rfl
  exact ⟨_, _, _, _, _, _, _, fd, N7, N7.take 1, F, f7, F.bindsN (fun _ _ _ _ _ _ us hl => match us, hl with | [_], _ => rfl), rfl, rfl, fun T k => s7 (nmsOk K)⟩
theorem i8 : DefI (Wk K) ⟨P, w, K, mg, base⟩ G (nmF mnms 1) D8 (adK K 8) := by
  obtain ⟨fd, F⟩ := c.def_ 8 (d := d8) rfl
  exact ⟨_, _, _, _, _, _, _, fd, N8, N8.take 1, F, f8, F.bindsN (fun _ _ _ _ _ _ us hl => match us, hl with | [_], _ => rfl), rfl, rfl, fun T k => s8 (nmsOk K)⟩
theorem i9 : DefI (Wk K) ⟨P, w, K, mg, base⟩ G (nmF mnms 1) D9 (adK K 9) := by
  obtain ⟨fd, F⟩ := c.def_ 9 (d := d9) rfl
  exact ⟨_, _, _, _, _, _, _, fd, N9, N9.take 1, F, f9, F.bindsN (fun _ _ _ _ _ _ us hl => match us, hl with | [_], _ => rfl), rfl, rfl, fun T k => s9 (nmsOk K)⟩
theorem i10 : DefI (Wk K) ⟨P, w, K, mg, base⟩ G (nmF mnms 1) D10 (adK K 10) := by
  obtain ⟨fd, F⟩ := c.def_ 10 (d := d10) rfl
  exact ⟨_, _, _, _, _, _, _, fd, N10, N10.take 2, F, f10, F.bindsN (fun _ _ _ _ _ _ us hl => match us, hl with | [_, _], _ => rfl), rfl, rfl, fun T k => s10 (nmsOk K)⟩
theorem i11 : DefI (Wk K) ⟨P, w, K, mg, base⟩ G (nmF mnms 1) D11 (adK K 11) := by
  obtain ⟨fd, F⟩ := c.def_ 11 (d := d11) rfl
  exact ⟨_, _, _, _, _, _, _, fd, N11, N11.take 3, F, f11, F.bindsN (fun _ _ _ _ _ _ us hl => match us, hl with | [_, _, _], _ => rfl), rfl, rfl, fun T k => s11 (nmsOk K)⟩
theorem i12 : DefI (Wk K) ⟨P, w, K, mg, base⟩ G (nmF mnms 1) D12 (adK K 12) := by
  obtain ⟨fd, F⟩ := c.def_ 12 (d := d12) rfl
  exact ⟨_, _, _, _, _, _, _, fd, N12, N12.take 2, F, f12, F.bindsN (fun _ _ _ _ _ _ us hl => match us, hl with | [_, _], _ => rfl), rfl, rfl, fun T k => s12 (nmsOk K)⟩
theorem i13 : DefI (Wk K) ⟨P, w, K, mg, base⟩ G (nmF mnms 1) D13 (adK K 13) := by
  obtain ⟨fd, F⟩ := c.def_ 13 (d := d13) rfl
  exact ⟨_, _, _, _, _, _, _, fd, N13, N13.take 2, F, f13, F.bindsN (fun _ _ _ _ _ _ us hl => match us, hl with | [_, _], _ => rfl), rfl, rfl, fun T k => s13 (nmsOk K)⟩
theorem i14 : DefI (Wk K) ⟨P, w, K, mg, base⟩ G (nmF mnms 1) D14 (adK K 14) := by
  obtain ⟨fd, F⟩ := c.def_ 14 (d := d14) rfl
  exact ⟨_, _, _, _, _, _, _, fd, N14, N14.take 1, F, f14, F.bindsN (fun _ _ _ _ _ _ us hl => match us, hl with | [_], _ => rfl), rfl, rfl, fun T k => s14 (nmsOk K)⟩
theorem i16 : DefI (Wk K) ⟨P, w, K, mg, base⟩ G (nmF mnms 1) D16 (adK K 16) := by
  obtain ⟨fd, F⟩ := c.def_ 15 (d := d16) rfl
  exact ⟨_, _, _, _, _, _, _, fd, N16, N16.take 1, F, f16, F.bindsN (fun _ _ _ _ _ _ us hl => match us, hl with | [_], _ => rfl), rfl, rfl, fun T k => s16 (nmsOk K)⟩
theorem i17 : DefI (Wk K) ⟨P, w, K, mg, base⟩ G (nmF mnms 1) D17 (adK K 17) := by
  obtain ⟨fd, F⟩ := c.def_ 16 (d := d17) rfl
  exact ⟨_, _, _, _, _, _, _, fd, N17, N17.take 1, F, f17, F.bindsN (fun _ _ _ _ _ _ us hl => match us, hl with | [_], _ => rfl), rfl, rfl, fun T k => s17 (nmsOk K)⟩
theorem i19 : DefI (Wk K) ⟨P, w, K, mg, base⟩ G (nmF mnms 1) D19 (adK K 19) := by
  obtain ⟨fd, F⟩ := c.def_ 17 (d := d19) rfl
  exact ⟨_, _, _, _, _, _, _, fd, N19, N19.take 1, F, f19, F.bindsN (fun _ _ _ _ _ _ us hl => match us, hl with | [_], _ => rfl), rfl, rfl, fun T k => s19 (nmsOk K)⟩
theorem i20 : DefI (Wk K) ⟨P, w, K, mg, base⟩ G (nmF mnms 1) D20 (adK K 20) := by
  obtain ⟨fd, F⟩ := c.def_ 18 (d := d20) rfl
  exact ⟨_, _, _, _, _, _, _, fd, N20, N20.take 2, F, f20, F.bindsN (fun _ _ _ _ _ _ us hl => match us, hl with | [_, _], _ => rfl), rfl, rfl, fun T k => s20 (nmsOk K)⟩
theorem i21 : DefI (Wk K) ⟨P, w, K, mg, base⟩ G (nmF mnms 1) D21 (adK K 21) := by
  obtain ⟨fd, F⟩ := c.def_ 19 (d := d21) rfl
  exact ⟨_, _, _, _, _, _, _, fd, N21, N21.take 2, F, f21, F.bindsN (fun _ _ _ _ _ _ us hl => match us, hl with | [_, _], _ => rfl), rfl, rfl, fun T k => s21 (nmsOk K)⟩
theorem i23 : DefI (Wk K) ⟨P, w, K, mg, base⟩ G (nmF mnms 1) D23 (adK K 23) := by
  obtain ⟨fd, F⟩ := c.def_ 20 (d := d23) rfl
  exact ⟨_, _, _, _, _, _, _, fd, N23, N23.take 2, F, f23, F.bindsN (fun _ _ _ _ _ _ us hl => match us, hl with | [_, _], _ => rfl), rfl, rfl, fun T k => s23 (nmsOk K)⟩
theorem i34 : DefI (Wk K) ⟨P, w, K, mg, base⟩ G (nmF mnms 1) D34 (adK K 34) := by
  obtain ⟨fd, F⟩ := c.def_ 21 (d := d34) rfl
  exact ⟨_, _, _, _, _, _, _, fd, N34, N34.take 1, F, f34, F.bindsN (fun _ _ _ _ _ _ us hl => match us, hl with | [_], _ => rfl), rfl, rfl, fun T k => s34 (nmsOk K)⟩
theorem i35 : DefI (Wk K) ⟨P, w, K, mg, base⟩ G (nmF mnms 1) D35 (adK K 35) := by
  obtain ⟨fd, F⟩ := c.def_ 22 (d := d35) rfl
  exact ⟨_, _, _, _, _, _, _, fd, N35, N35.take 2, F, f35, F.bindsN (fun _ _ _ _ _ _ us hl => match us, hl with | [_, _], _ => rfl), rfl, rfl, fun T k => s35 (nmsOk K)⟩
theorem i45 : DefI (Wk K) ⟨P, w, K, mg, base⟩ G (nmF mnms 1) D45 (adK K 45) := by
  obtain ⟨fd, F⟩ := c.def_ 23 (d := d45) rfl
  exact ⟨_, _, _, _, _, _, _, fd, N45, N45.take 2, F, f45, F.bindsN (fun _ _ _ _ _ _ us hl => match us, hl with | [_, _], _ => rfl), rfl, rfl, fun T k => s45 (nmsOk K)⟩
theorem i47 : DefI (Wk K) ⟨P, w, K, mg, base⟩ G (nmF mnms 1) D47 (adK K 47) := by
  obtain ⟨fd, F⟩ := c.def_ 24 (d := d47) rfl
  exact ⟨_, _, _, _, _, _, _, fd, N47, N47.take 2, F, f47, F.bindsN (fun _ _ _ _ _ _ us hl => match us, hl with | [_, _], _ => rfl), rfl, rfl, fun T k => s47 (nmsOk K)⟩
theorem i50 : DefI (Wk K) ⟨P, w, K, mg, base⟩ G (nmF mnms 1) D50 (adK K 50) := by
  obtain ⟨fd, F⟩ := c.def_ 25 (d := d50) rfl
  exact ⟨_, _, _, _, _, _, _, fd, N50, N50.take 2, F, f50, F.bindsN (fun _ _ _ _ _ _ us hl => match us, hl with | [_, _], _ => rfl), rfl, rfl, fun T k => s50 (nmsOk K)⟩
theorem i53 : DefI (Wk K) ⟨P, w, K, mg, base⟩ G (nmF mnms 1) D53 (adK K 53) := by
  obtain ⟨fd, F⟩ := c.def_ 26 (d := d53) rfl
  exact ⟨_, _, _, _, _, _, _, fd, N53, N53.take 2, F, f53, F.bindsN (fun _ _ _ _ _ _ us hl => match us, hl with | [_, _], _ => rfl), rfl, rfl, fun T k => s53 (nmsOk K)⟩
theorem i54 : DefI (Wk K) ⟨P, w, K, mg, base⟩ G (nmF mnms 1) D54 (adK K 54) := by
  obtain ⟨fd, F⟩ := c.def_ 27 (d := d54) rfl
  exact ⟨_, _, _, _, _, _, _, fd, N54, N54.take 2, F, f54, F.bindsN (fun _ _ _ _ _ _ us hl => match us, hl with | [_, _], _ => rfl), rfl, rfl, fun T k => s54 (nmsOk K)⟩
theorem i55 : DefI (Wk K) ⟨P, w, K, mg, base⟩ G (nmF mnms 1) D55 (adK K 55) := by
  obtain ⟨fd, F⟩ := c.def_ 28 (d := d55) rfl
  exact ⟨_, _, _, _, _, _, _, fd, N55, N55.take 2, F, f55, F.bindsN (fun _ _ _ _ _ _ us hl => match us, hl with | [_, _], _ => rfl), rfl, rfl, fun T k => s55 (nmsOk K)⟩
theorem i57 : DefI (Wk K) ⟨P, w, K, mg, base⟩ G (nmF mnms 1) D57 (adK K 57) := by
  obtain ⟨fd, F⟩ := c.def_ 29 (d := d57) rfl
  exact ⟨_, _, _, _, _, _, _, fd, N57, N57.take 1, F, f57, F.bindsN (fun _ _ _ _ _ _ us hl => match us, hl with | [_], _ => rfl), rfl, rfl, fun T k => s57 (nmsOk K)⟩
theorem i303 : DefI (Wk K) ⟨P, w, K, mg, base⟩ G (nmF mnms 1) D303 (adK K 303) := by
  obtain ⟨fd, F⟩ := c.def_ 30 (d := d303) rfl
  exact ⟨_, _, _, _, _, _, _, fd, N303, N303.take 1, F, f303, F.bindsN (fun _ _ _ _ _ _ us hl => match us, hl with | [_], _ => rfl), rfl, rfl, fun T k => s303 (nmsOk K)⟩
theorem i58 : DefI (Wk K) ⟨P, w, K, mg, base⟩ G (nmF mnms 1) D58 (adK K 58) := by
  obtain ⟨fd, F⟩ := c.def_ 31 (d := d58) rfl
  exact ⟨_, _, _, _, _, _, _, fd, N58, N58.take 1, F, f58, F.bindsN (fun _ _ _ _ _ _ us hl => match us, hl with | [_], _ => rfl), rfl, rfl, fun T k => s58 (nmsOk K)⟩
theorem i304 : DefI (Wk K) ⟨P, w, K, mg, base⟩ G (nmF mnms 1) D304 (adK K 304) := by
  obtain ⟨fd, F⟩ := c.def_ 32 (d := d304) rfl
  exact ⟨_, _, _, _, _, _, _, fd, N304, N304.take 1, F, f304, F.bindsN (fun _ _ _ _ _ _ us hl => match us, hl with | [_], _ => rfl), rfl, rfl, fun T k => s304 (nmsOk K)⟩
theorem i59 : DefI (Wk K) ⟨P, w, K, mg, base⟩ G (nmF mnms 1) D59 (adK K 59) := by
  obtain ⟨fd, F⟩ := c.def_ 33 (d := d59) rfl
  exact ⟨_, _, _, _, _, _, _, fd, N59, N59.take 2, F, f59, F.bindsN (fun _ _ _ _ _ _ us hl => match us, hl with | [_, _], _ => rfl), rfl, rfl, fun T k => s59 (nmsOk K)⟩
theorem i302 : DefI (Wk K) ⟨P, w, K, mg, base⟩ G (nmF mnms 1) D302 (adK K 302) := by
  obtain ⟨fd, F⟩ := c.def_ 34 (d := d302) rfl
  exact ⟨_, _, _, _, _, _, _, fd, N302, N302.take 2, F, f302, F.bindsN (fun _ _ _ _ _ _ us hl => match us, hl with | [_, _], _ => rfl), rfl, rfl, fun T k => s302 (nmsOk K)⟩
theorem i60 : DefI (Wk K) ⟨P, w, K, mg, base⟩ G (nmF mnms 1) D60 (adK K 60) := by
  obtain ⟨fd, F⟩ := c.def_ 35 (d := d60) rfl
  exact ⟨_, _, _, _, _, _, _, fd, N60, N60.take 1, F, f60, F.bindsN (fun _ _ _ _ _ _ us hl => match us, hl with | [_], _ => rfl), rfl, rfl, fun T k => s60 (nmsOk K)⟩
theorem i301 : DefI (Wk K) ⟨P, w, K, mg, base⟩ G (nmF mnms 1) D301 (adK K 301) := by
  obtain ⟨fd, F⟩ := c.def_ 36 (d := d301) rfl
  exact ⟨_, _, _, _, _, _, _, fd, N301, N301.take 1, F, f301, F.bindsN (fun _ _ _ _ _ _ us hl => match us, hl with | [_], _ => rfl), rfl, rfl, fun T k => s301 (nmsOk K)⟩
theorem i61 : DefI (Wk K) ⟨P, w, K, mg, base⟩ G (nmF mnms 1) D61 (adK K 61) := by
  obtain ⟨fd, F⟩ := c.def_ 37 (d := d61) rfl
  exact ⟨_, _, _, _, _, _, _, fd, N61, N61.take 1, F, f61, F.bindsN (fun _ _ _ _ _ _ us hl => match us, hl with | [_], _ => rfl), rfl, rfl, fun T k => s61 (nmsOk K)⟩
theorem i300 : DefI (Wk K) ⟨P, w, K, mg, base⟩ G (nmF mnms 1) D300 (adK K 300) := by
  obtain ⟨fd, F⟩ := c.def_ 38 (d := d300) rfl
  exact ⟨_, _, _, _, _, _, _, fd, N300, N300.take 1, F, f300, F.bindsN (fun _ _ _ _ _ _ us hl => match us, hl with | [_], _ => rfl), rfl, rfl, fun T k => s300 (nmsOk K)⟩
theorem i62 : DefI (Wk K) ⟨P, w, K, mg, base⟩ G (nmF mnms 1) D62 (adK K 62) := by
  obtain ⟨fd, F⟩ := c.def_ 39 (d := d62) rfl
  exact ⟨_, _, _, _, _, _, _, fd, N62, N62.take 3, F, f62, F.bindsN (fun _ _ _ _ _ _ us hl => match us, hl with | [_, _, _], _ => rfl), rfl, rfl, fun T k => s62 (nmsOk K)⟩
theorem i63 : DefI (Wk K) ⟨P, w, K, mg, base⟩ G (nmF mnms 1) D63 (adK K 63) := by
  obtain ⟨fd, F⟩ := c.def_ 40 (d := d63) rfl
  exact ⟨_, _, _, _, _, _, _, fd, N63, N63.take 2, F, f63, F.bindsN (fun _ _ _ _ _ _ us hl => match us, hl with | [_, _], _ => rfl), rfl, rfl, fun T k => s63 (nmsOk K)⟩
theorem i400 : DefI (Wk K) ⟨P, w, K, mg, base⟩ G (nmF mnms 1) D400 (adK K 400) := by
  obtain ⟨fd, F⟩ := c.def_ 41 (d := d400) rfl
  exact ⟨_, _, _, _, _, _, _, fd, N400, N400.take 2, F, f400, F.bindsN (fun _ _ _ _ _ _ us hl => match us, hl with | [_, _], _ => rfl), rfl, rfl, fun T k => s400 (nmsOk K)⟩
theorem i401 : DefI (Wk K) ⟨P, w, K, mg, base⟩ G (nmF mnms 1) D401 (adK K 401) := by
  obtain ⟨fd, F⟩ := c.def_ 42 (d := d401) rfl
  exact ⟨_, _, _, _, _, _, _, fd, N401, N401.take 2, F, f401, F.bindsN (fun _ _ _ _ _ _ us hl => match us, hl with | [_, _], _ => rfl), rfl, rfl, fun T k => s401 (nmsOk K)⟩
theorem i402 : DefI (Wk K) ⟨P, w, K, mg, base⟩ G (nmF mnms 1) D402 (adK K 402) := by
  obtain ⟨fd, F⟩ := c.def_ 43 (d := d402) rfl
  exact ⟨_, _, _, _, _, _, _, fd, N402, N402.take 2, F, f402, F.bindsN (fun _ _ _ _ _ _ us hl => match us, hl with | [_, _], _ => rfl), rfl, rfl, fun T k => s402 (nmsOk K)⟩
theorem i403 : DefI (Wk K) ⟨P, w, K, mg, base⟩ G (nmF mnms 1) D403 (adK K 403) := by
  obtain ⟨fd, F⟩ := c.def_ 44 (d := d403) rfl
  exact ⟨_, _, _, _, _, _, _, fd, N403, N403.take 1, F, f403, F.bindsN (fun _ _ _ _ _ _ us hl => match us, hl with | [_], _ => rfl), rfl, rfl, fun T k => s403 (nmsOk K)⟩
theorem i404 : DefI (Wk K) ⟨P, w, K, mg, base⟩ G (nmF mnms 1) D404 (adK K 404) := by
  obtain ⟨fd, F⟩ := c.def_ 45 (d := d404) rfl
  exact ⟨_, _, _, _, _, _, _, fd, N404, N404.take 1, F, f404, F.bindsN (fun _ _ _ _ _ _ us hl => match us, hl with | [_], _ => rfl), rfl, rfl, fun T k => s404 (nmsOk K)⟩
theorem i405 : DefI (Wk K) ⟨P, w, K, mg, base⟩ G (nmF mnms 1) D405 (adK K 405) := by
  obtain ⟨fd, F⟩ := c.def_ 46 (d := d405) rfl
  exact ⟨_, _, _, _, _, _, _, fd, N405, N405.take 2, F, f405, F.bindsN (fun _ _ _ _ _ _ us hl => match us, hl with | [_, _], _ => rfl), rfl, rfl, fun T k => s405 (nmsOk K)⟩
theorem i406 : DefI (Wk K) ⟨P, w, K, mg, base⟩ G (nmF mnms 1) D406 (adK K 406) := by
  obtain ⟨fd, F⟩ := c.def_ 47 (d := d406) rfl
  exact ⟨_, _, _, _, _, _, _, fd, N406, N406.take 3, F, f406, F.bindsN (fun _ _ _ _ _ _ us hl => match us, hl with | [_, _, _], _ => rfl), rfl, rfl, fun T k => s406 (nmsOk K)⟩
theorem i407 : DefI (Wk K) ⟨P, w, K, mg, base⟩ G (nmF mnms 1) D407 (adK K 407) := by
  obtain ⟨fd, F⟩ := c.def_ 48 (d := d407) rfl
  exact ⟨_, _, _, _, _, _, _, fd, N407, N407.take 3, F, f407, F.bindsN (fun _ _ _ _ _ _ us hl => match us, hl with | [_, _, _], _ => rfl), rfl, rfl, fun T k => s407 (nmsOk K)⟩
theorem i408 : DefI (Wk K) ⟨P, w, K, mg, base⟩ G (nmF mnms 1) D408 (adK K 408) := by
  obtain ⟨fd, F⟩ := c.def_ 49 (d := d408) rfl
  exact ⟨_, _, _, _, _, _, _, fd, N408, N408.take 3, F, f408, F.bindsN (fun _ _ _ _ _ _ us hl => match us, hl with | [_, _, _], _ => rfl), rfl, rfl, fun T k => s408 (nmsOk K)⟩
theorem i409 : DefI (Wk K) ⟨P, w, K, mg, base⟩ G (nmF mnms 1) D409 (adK K 409) := by
  obtain ⟨fd, F⟩ := c.def_ 50 (d := d409) rfl
  exact ⟨_, _, _, _, _, _, _, fd, N409, N409.take 3, F, f409, F.bindsN (fun _ _ _ _ _ _ us hl => match us, hl with | [_, _, _], _ => rfl), rfl, rfl, fun T k => s409 (nmsOk K)⟩
theorem i410 : DefI (Wk K) ⟨P, w, K, mg, base⟩ G (nmF mnms 1) D410 (adK K 410) := by
  obtain ⟨fd, F⟩ := c.def_ 51 (d := d410) rfl
  exact ⟨_, _, _, _, _, _, _, fd, N410, N410.take 1, F, f410, F.bindsN (fun _ _ _ _ _ _ us hl => match us, hl with | [_], _ => rfl), rfl, rfl, fun T k => s410 (nmsOk K)⟩
theorem i411 : DefI (Wk K) ⟨P, w, K, mg, base⟩ G (nmF mnms 1) D411 (adK K 411) := by
  obtain ⟨fd, F⟩ := c.def_ 52 (d := d411) rfl
  exact ⟨_, _, _, _, _, _, _, fd, N411, N411.take 3, F, f411, F.bindsN (fun _ _ _ _ _ _ us hl => match us, hl with | [_, _, _], _ => rfl), rfl, rfl, fun T k => s411 (nmsOk K)⟩
theorem i412 : DefI (Wk K) ⟨P, w, K, mg, base⟩ G (nmF mnms 1) D412 (adK K 412) := by
  obtain ⟨fd, F⟩ := c.def_ 53 (d := d412) rfl
  exact ⟨_, _, _, _, _, _, _, fd, N412, N412.take 1, F, f412, F.bindsN (fun _ _ _ _ _ _ us hl => match us, hl with | [_], _ => rfl), rfl, rfl, fun T k => s412 (nmsOk K)⟩
theorem i413 : DefI (Wk K) ⟨P, w, K, mg, base⟩ G (nmF mnms 1) D413 (adK K 413) := by
  obtain ⟨fd, F⟩ := c.def_ 54 (d := d413) rfl
  exact ⟨_, _, _, _, _, _, _, fd, N413, N413.take 1, F, f413, F.bindsN (fun _ _ _ _ _ _ us hl => match us, hl with | [_], _ => rfl), rfl, rfl, fun T k => s413 (nmsOk K)⟩
theorem i414 : DefI (Wk K) ⟨P, w, K, mg, base⟩ G (nmF mnms 1) D414 (adK K 414) := by
  obtain ⟨fd, F⟩ := c.def_ 55 (d := d414) rfl
  exact ⟨_, _, _, _, _, _, _, fd, N414, N414.take 3, F, f414, F.bindsN (fun _ _ _ _ _ _ us hl => match us, hl with | [_, _, _], _ => rfl), rfl, rfl, fun T k => s414 (nmsOk K)⟩
theorem i415 : DefI (Wk K) ⟨P, w, K, mg, base⟩ G (nmF mnms 1) D415 (adK K 415) := by
  obtain ⟨fd, F⟩ := c.def_ 56 (d := d415) rfl
  exact ⟨_, _, _, _, _, _, _, fd, N415, N415.take 2, F, f415, F.bindsN (fun _ _ _ _ _ _ us hl => match us, hl with | [_, _], _ => rfl), rfl, rfl, fun T k => s415 (nmsOk K)⟩
theorem i416 : DefI (Wk K) ⟨P, w, K, mg, base⟩ G (nmF mnms 1) D416 (adK K 416) := by
  obtain ⟨fd, F⟩ := c.def_ 57 (d := d416) rfl
  exact ⟨_, _, _, _, _, _, _, fd, N416, N416.take 1, F, f416, F.bindsN (fun _ _ _ _ _ _ us hl => match us, hl with | [_], _ => rfl), rfl, rfl, fun T k => s416 (nmsOk K)⟩
theorem i417 : DefI (Wk K) ⟨P, w, K, mg, base⟩ G (nmF mnms 1) D417 (adK K 417) := by
  obtain ⟨fd, F⟩ := c.def_ 58 (d := d417) rfl
  exact ⟨_, _, _, _, _, _, _, fd, N417, N417.take 3, F, f417, F.bindsN (fun _ _ _ _ _ _ us hl => match us, hl with | [_, _, _], _ => rfl), rfl, rfl, fun T k => s417 (nmsOk K)⟩
theorem i418 : DefI (Wk K) ⟨P, w, K, mg, base⟩ G (nmF mnms 1) D418 (adK K 418) := by
  obtain ⟨fd, F⟩ := c.def_ 59 (d := d418) rfl
  exact ⟨_, _, _, _, _, _, _, fd, N418, N418.take 3, F, f418, F.bindsN (fun _ _ _ _ _ _ us hl => match us, hl with | [_, _, _], _ => rfl), rfl, rfl, fun T k => s418 (nmsOk K)⟩
theorem i419 : DefI (Wk K) ⟨P, w, K, mg, base⟩ G (nmF mnms 1) D419 (adK K 419) := by
  obtain ⟨fd, F⟩ := c.def_ 60 (d := d419) rfl
  exact ⟨_, _, _, _, _, _, _, fd, N419, N419.take 1, F, f419, F.bindsN (fun _ _ _ _ _ _ us hl => match us, hl with | [_], _ => rfl), rfl, rfl, fun T k => s419 (nmsOk K)⟩
theorem i420 : DefI (Wk K) ⟨P, w, K, mg, base⟩ G (nmF mnms 1) D420 (adK K 420) := by
  obtain ⟨fd, F⟩ := c.def_ 61 (d := d420) rfl
  exact ⟨_, _, _, _, _, _, _, fd, N420, N420.take 3, F, f420, F.bindsN (fun _ _ _ _ _ _ us hl => match us, hl with | [_, _, _], _ => rfl), rfl, rfl, fun T k => s420 (nmsOk K)⟩
theorem i421 : DefI (Wk K) ⟨P, w, K, mg, base⟩ G (nmF mnms 1) D421 (adK K 421) := by
  obtain ⟨fd, F⟩ := c.def_ 62 (d := d421) rfl
  exact ⟨_, _, _, _, _, _, _, fd, N421, N421.take 1, F, f421, F.bindsN (fun _ _ _ _ _ _ us hl => match us, hl with | [_], _ => rfl), rfl, rfl, fun T k => s421 (nmsOk K)⟩
end
end LP
set_option Elab.async false
set_option linter.all false
set_option maxRecDepth 100000
set_option maxHeartbeats 0
namespace LP
open PySem PySem.Spec PyProof.Rows L2 LN
def gQ (K : PySem.W.Frag) (mg : Str → Option Value) (x : Str) : GK → Prop
  | .fn f np => mg x = some (.ref (adK K f)) ∧ PySem.W.keepIn K (.ref (adK K f)) = true ∧ ∃ d, prog.fs f = some d ∧ d.np = np ∧ d.bk = .pl
  | .two f g np => mg x = some (.ref (adK K f)) ∧ adK K g = adK K f ∧ PySem.W.keepIn K (.ref (adK K f)) = true ∧ (∃ d, prog.fs f = some d ∧ d.np = np ∧ d.bk = .pl) ∧ ∃ d, prog.fs g = some d ∧ d.np = np ∧ d.bk = .pl
  | .fnk f np ks dfl => mg x = some (.ref (adK K f)) ∧ PySem.W.keepIn K (.ref (adK K f)) = true ∧ ∃ d, prog.fs f = some d ∧ d.np = np ∧ d.bk = .kw ks dfl
  | .gen f np => mg x = some (.ref (adK K f)) ∧ PySem.W.keepIn K (.ref (adK K f)) = true ∧ prog.fs f = none ∧ ∃ g, prog.gs f = some g ∧ g.np = np
  | .cls cc f np => mg x = some (.ref ((Wk K).cls cc)) ∧ Mk K ((Wk K).cls cc) (adK K f) ∧ ∃ d, prog.fs f = some d ∧ d.np = np + 1 ∧ d.bk = .pl
  | .int i => ∃ t, mg x = some (.int i t)
  | .str l => ∃ t, mg x = some (.str ⟨l.toArray⟩ t)
  | .bn => mg x = none
section
variable {K : PySem.W.Frag} {h : Heap} {mg : Str → Option Value} (c : He.SaysD fa fn K) (KX : K.In h) (Gn : h.Ns mainGlobals mg)
include c
theorem kp (i : Nat) {d : He.DefD} (hd : fn[i]? = some d) : PySem.W.keepIn K (.ref (He.fAd K d.at_)) = true := by
  obtain ⟨fd, F⟩ := c.def_ i hd
  exact F.kp
include KX Gn
theorem gA0 : AllG (gQ K mg) G0 := ⟨⟨He.glo_ok KX Gn (c.fact 0 (f := .glo ("is_whole" : PySem.Str)) rfl), kp c 0 (d := d3) rfl, D3, rfl, rfl, rfl⟩,
  ⟨He.glo_ok KX Gn (c.fact 1 (f := .glo ("is_number" : PySem.Str)) rfl), kp c 1 (d := d4) rfl, D4, rfl, rfl, rfl⟩,
  ⟨He.glo_ok KX Gn (c.fact 2 (f := .glo ("is_name" : PySem.Str)) rfl), kp c 2 (d := d5) rfl, D5, rfl, rfl, rfl⟩,
  ⟨He.glo_ok KX Gn (c.fact 3 (f := .glo ("is_line" : PySem.Str)) rfl), kp c 3 (d := d28) rfl, D28, rfl, rfl, rfl⟩,
  ⟨He.glo_ok KX Gn (c.fact 4 (f := .glo ("each_once" : PySem.Str)) rfl), kp c 4 (d := d29) rfl, D29, rfl, rfl, rfl⟩,
  ⟨He.glo_ok KX Gn (c.fact 5 (f := .glo ("ordered" : PySem.Str)) rfl), kp c 5 (d := d30) rfl, D30, rfl, rfl, rfl⟩,
  ⟨He.glo_ok KX Gn (c.fact 6 (f := .glo ("is_tree" : PySem.Str)) rfl), kp c 6 (d := d6) rfl, D6, rfl, rfl, rfl⟩,
  ⟨He.glo_ok KX Gn (c.fact 7 (f := .glo ("are_trees" : PySem.Str)) rfl), kp c 7 (d := d7) rfl, D7, rfl, rfl, rfl⟩,
  ⟨He.glo_ok KX Gn (c.fact 8 (f := .glo ("parts_of" : PySem.Str)) rfl), kp c 8 (d := d8) rfl, D8, rfl, rfl, rfl⟩,
  ⟨He.glo_ok KX Gn (c.fact 9 (f := .glo ("deep_of" : PySem.Str)) rfl), kp c 9 (d := d9) rfl, D9, rfl, rfl, rfl⟩,
  ⟨He.glo_ok KX Gn (c.fact 10 (f := .glo ("look_at_term" : PySem.Str)) rfl), kp c 21 (d := d34) rfl, D34, rfl, rfl, rfl⟩,
  ⟨He.glo_ok KX Gn (c.fact 11 (f := .glo ("look_at_binder" : PySem.Str)) rfl), kp c 22 (d := d35) rfl, D35, rfl, rfl, rfl⟩, trivial⟩
theorem gA1 : AllG (gQ K mg) G1 := ⟨⟨He.glo_ok KX Gn (c.fact 12 (f := .glo ("are_such_names" : PySem.Str)) rfl), kp c 23 (d := d45) rfl, D45, rfl, rfl, rfl⟩,
  ⟨He.glo_ok KX Gn (c.fact 13 (f := .glo ("look_at_names" : PySem.Str)) rfl), kp c 24 (d := d47) rfl, D47, rfl, rfl, rfl⟩,
  ⟨He.glo_ok KX Gn (c.fact 14 (f := .glo ("name_for" : PySem.Str)) rfl), kp c 25 (d := d50) rfl, D50, rfl, rfl, rfl⟩,
  ⟨He.glo_ok KX Gn (c.fact 15 (f := .glo ("inner" : PySem.Str)) rfl), kp c 26 (d := d53) rfl, D53, rfl, rfl, rfl⟩,
  ⟨He.glo_ok KX Gn (c.fact 16 (f := .glo ("catches_of" : PySem.Str)) rfl), kp c 27 (d := d54) rfl, D54, rfl, rfl, rfl⟩,
  ⟨He.glo_ok KX Gn (c.fact 17 (f := .glo ("is_right" : PySem.Str)) rfl), kp c 28 (d := d55) rfl, D55, rfl, rfl, rfl⟩,
  ⟨He.glo_ok KX Gn (c.fact 18 (f := .glo ("all_live" : PySem.Str)) rfl), rfl, kp c 29 (d := d57) rfl, ⟨D57, rfl, rfl, rfl⟩, D303, rfl, rfl, rfl⟩,
  ⟨He.glo_ok KX Gn (c.fact 19 (f := .glo ("in_line" : PySem.Str)) rfl), rfl, kp c 31 (d := d58) rfl, ⟨D58, rfl, rfl, rfl⟩, D304, rfl, rfl, rfl⟩,
  ⟨He.glo_ok KX Gn (c.fact 20 (f := .glo ("live_at" : PySem.Str)) rfl), rfl, kp c 33 (d := d59) rfl, ⟨D59, rfl, rfl, rfl⟩, D302, rfl, rfl, rfl⟩,
  ⟨He.glo_ok KX Gn (c.fact 21 (f := .glo ("pairs_of" : PySem.Str)) rfl), rfl, kp c 35 (d := d60) rfl, ⟨D60, rfl, rfl, rfl⟩, D301, rfl, rfl, rfl⟩,
  ⟨He.glo_ok KX Gn (c.fact 22 (f := .glo ("clashes" : PySem.Str)) rfl), rfl, kp c 37 (d := d61) rfl, ⟨D61, rfl, rfl, rfl⟩, D300, rfl, rfl, rfl⟩,
  ⟨He.glo_ok KX Gn (c.fact 23 (f := .glo ("do_clash" : PySem.Str)) rfl), kp c 39 (d := d62) rfl, D62, rfl, rfl, rfl⟩, trivial⟩
theorem gA2 : AllG (gQ K mg) G2 := ⟨⟨He.glo_ok KX Gn (c.fact 24 (f := .glo ("hurt" : PySem.Str)) rfl), kp c 40 (d := d63) rfl, D63, rfl, rfl, rfl⟩,
  ⟨He.glo_ok KX Gn (c.fact 25 (f := .glo ("_law_pool" : PySem.Str)) rfl), kp c 41 (d := d400) rfl, D400, rfl, rfl, rfl⟩,
  ⟨He.glo_ok KX Gn (c.fact 26 (f := .glo ("_law_take" : PySem.Str)) rfl), kp c 42 (d := d401) rfl, D401, rfl, rfl, rfl⟩,
  ⟨He.glo_ok KX Gn (c.fact 27 (f := .glo ("_law_one" : PySem.Str)) rfl), kp c 43 (d := d402) rfl, D402, rfl, rfl, rfl⟩,
  ⟨He.glo_ok KX Gn (c.fact 28 (f := .glo ("_law_unlike" : PySem.Str)) rfl), kp c 44 (d := d403) rfl, D403, rfl, rfl, rfl⟩,
  ⟨He.glo_ok KX Gn (c.fact 29 (f := .glo ("_law_words" : PySem.Str)) rfl), kp c 45 (d := d404) rfl, D404, rfl, rfl, rfl⟩,
  ⟨He.glo_ok KX Gn (c.fact 30 (f := .glo ("_law_leaf" : PySem.Str)) rfl), kp c 46 (d := d405) rfl, D405, rfl, rfl, rfl⟩,
  ⟨He.glo_ok KX Gn (c.fact 31 (f := .glo ("_law_grown" : PySem.Str)) rfl), kp c 47 (d := d406) rfl, D406, rfl, rfl, rfl⟩,
  ⟨He.glo_ok KX Gn (c.fact 32 (f := .glo ("_law_bound" : PySem.Str)) rfl), kp c 48 (d := d407) rfl, D407, rfl, rfl, rfl⟩,
  ⟨He.glo_ok KX Gn (c.fact 33 (f := .glo ("_law_nested" : PySem.Str)) rfl), kp c 49 (d := d408) rfl, D408, rfl, rfl, rfl⟩,
  ⟨He.glo_ok KX Gn (c.fact 34 (f := .glo ("_law_tree" : PySem.Str)) rfl), kp c 50 (d := d409) rfl, D409, rfl, rfl, rfl⟩,
  ⟨He.glo_ok KX Gn (c.fact 35 (f := .glo ("_law_below" : PySem.Str)) rfl), kp c 51 (d := d410) rfl, D410, rfl, rfl, rfl⟩, trivial⟩
theorem gA3 : AllG (gQ K mg) G3 := ⟨⟨He.glo_ok KX Gn (c.fact 36 (f := .glo ("_law_spots" : PySem.Str)) rfl), kp c 52 (d := d411) rfl, D411, rfl, rfl, rfl⟩,
  ⟨He.glo_ok KX Gn (c.fact 37 (f := .glo ("_law_page" : PySem.Str)) rfl), kp c 53 (d := d412) rfl, D412, rfl, rfl, rfl⟩,
  ⟨He.glo_ok KX Gn (c.fact 38 (f := .glo ("_law_in_order" : PySem.Str)) rfl), kp c 54 (d := d413) rfl, D413, rfl, rfl, rfl⟩,
  ⟨He.glo_ok KX Gn (c.fact 39 (f := .glo ("_law_inside" : PySem.Str)) rfl), kp c 55 (d := d414) rfl, D414, rfl, rfl, rfl⟩,
  ⟨He.glo_ok KX Gn (c.fact 40 (f := .glo ("_law_live" : PySem.Str)) rfl), kp c 56 (d := d415) rfl, D415, rfl, rfl, rfl⟩,
  ⟨He.glo_ok KX Gn (c.fact 41 (f := .glo ("_law_all_live" : PySem.Str)) rfl), kp c 57 (d := d416) rfl, D416, rfl, rfl, rfl⟩,
  ⟨He.glo_ok KX Gn (c.fact 42 (f := .glo ("_law_named" : PySem.Str)) rfl), kp c 58 (d := d417) rfl, D417, rfl, rfl, rfl⟩,
  ⟨He.glo_ok KX Gn (c.fact 43 (f := .glo ("_law_any_naming" : PySem.Str)) rfl), kp c 59 (d := d418) rfl, D418, rfl, rfl, rfl⟩,
  ⟨He.glo_ok KX Gn (c.fact 44 (f := .glo ("_law_pairs" : PySem.Str)) rfl), kp c 60 (d := d419) rfl, D419, rfl, rfl, rfl⟩,
  ⟨He.glo_ok KX Gn (c.fact 45 (f := .glo ("_law_crowded" : PySem.Str)) rfl), kp c 61 (d := d420) rfl, D420, rfl, rfl, rfl⟩,
  ⟨He.glo_ok KX Gn (c.fact 46 (f := .glo ("law" : PySem.Str)) rfl), kp c 62 (d := d421) rfl, D421, rfl, rfl, rfl⟩,
  ⟨He.glo_ok KX Gn (c.fact 47 (f := .glo ("Flat" : PySem.Str)) rfl), He.mkr_ok (c.fact 49 (f := .mkr ("Flat" : PySem.Str)) rfl), D10, rfl, rfl, rfl⟩, trivial⟩
theorem gA4 : AllG (gQ K mg) G4 := ⟨⟨He.glo_ok KX Gn (c.fact 50 (f := .glo ("Term" : PySem.Str)) rfl), He.mkr_ok (c.fact 52 (f := .mkr ("Term" : PySem.Str)) rfl), D12, rfl, rfl, rfl⟩,
  He.str_ok KX Gn (c.fact 66 (f := .str ("LETTERS" : PySem.Str) ⟨#[97,98,99,100,101,102,103,104,105,106,107,108,109,110,111,112,113,114,115,116,117,118,119,120,121,122]⟩) rfl),
  He.int_ok KX Gn (c.fact 67 (f := .int ("MOST_LETTERS" : PySem.Str) 8) rfl),
  He.int_ok KX Gn (c.fact 68 (f := .int ("MOST_NODES" : PySem.Str) 400) rfl),
  He.int_ok KX Gn (c.fact 69 (f := .int ("MOST_BINDERS" : PySem.Str) 60) rfl),
  He.int_ok KX Gn (c.fact 70 (f := .int ("MOST_DEEP" : PySem.Str) 100) rfl),
  He.free_ok KX Gn (c.fact 53 (f := .free ("len" : PySem.Str)) rfl),
  He.free_ok KX Gn (c.fact 54 (f := .free ("list" : PySem.Str)) rfl),
  He.free_ok KX Gn (c.fact 55 (f := .free ("tuple" : PySem.Str)) rfl),
  He.free_ok KX Gn (c.fact 56 (f := .free ("max" : PySem.Str)) rfl),
  He.free_ok KX Gn (c.fact 57 (f := .free ("min" : PySem.Str)) rfl),
  He.free_ok KX Gn (c.fact 58 (f := .free ("all" : PySem.Str)) rfl), trivial⟩
theorem gA5 : AllG (gQ K mg) G5 := ⟨He.free_ok KX Gn (c.fact 59 (f := .free ("int" : PySem.Str)) rfl),
  He.free_ok KX Gn (c.fact 60 (f := .free ("sorted" : PySem.Str)) rfl),
  He.free_ok KX Gn (c.fact 61 (f := .free ("str" : PySem.Str)) rfl),
  He.free_ok KX Gn (c.fact 62 (f := .free ("bool" : PySem.Str)) rfl),
  He.free_ok KX Gn (c.fact 63 (f := .free ("isinstance" : PySem.Str)) rfl),
  He.free_ok KX Gn (c.fact 64 (f := .free ("range" : PySem.Str)) rfl),
  He.free_ok KX Gn (c.fact 65 (f := .free ("enumerate" : PySem.Str)) rfl), trivial⟩
theorem gA : AllG (gQ K mg) G := AllG.app (AllG.app (AllG.app (AllG.app (AllG.app (gA0 c KX Gn) (gA1 c KX Gn)) (gA2 c KX Gn)) (gA3 c KX Gn)) (gA4 c KX Gn)) (gA5 c KX Gn)
end
section
variable {K : PySem.W.Frag} (c : He.SaysD fa fn K) (P : Program) (w : World) (mg : Str → Option Value) (base : Heap)
include c
theorem dA : AllL (fun f d => DefI (Wk K) ⟨P, w, K, mg, base⟩ G (nmF mnms 1) d (adK K f)) fdL := ⟨i3 c P w mg base, i4 c P w mg base, i5 c P w mg base, i28 c P w mg base, i29 c P w mg base, i30 c P w mg base, i6 c P w mg base, i7 c P w mg base, i8 c P w mg base, i9 c P w mg base, i10 c P w mg base, i11 c P w mg base, i12 c P w mg base, i13 c P w mg base, i14 c P w mg base, i16 c P w mg base, i17 c P w mg base, i19 c P w mg base, i20 c P w mg base, i21 c P w mg base, i23 c P w mg base, i34 c P w mg base, i35 c P w mg base, i45 c P w mg base, i47 c P w mg base, i50 c P w mg base, i53 c P w mg base, i54 c P w mg base, i55 c P w mg base, i57 c P w mg base, i303 c P w mg base, i58 c P w mg base, i304 c P w mg base, i59 c P w mg base, i302 c P w mg base, i60 c P w mg base, i301 c P w mg base, i61 c P w mg base, i300 c P w mg base, i62 c P w mg base, i63 c P w mg base, i400 c P w mg base, i401 c P w mg base, i402 c P w mg base, i403 c P w mg base, i404 c P w mg base, i405 c P w mg base, i406 c P w mg base, i407 c P w mg base, i408 c P w mg base, i409 c P w mg base, i410 c P w mg base, i411 c P w mg base, i412 c P w mg base, i413 c P w mg base, i414 c P w mg base, i415 c P w mg base, i416 c P w mg base, i417 c P w mg base, i418 c P w mg base, i419 c P w mg base, i420 c P w mg base, i421 c P w mg base, trivial⟩
end
end LP
set_option Elab.async false
set_option linter.all false
set_option maxRecDepth 100000
set_option maxHeartbeats 0
namespace LP
open PySem PySem.Spec PyProof.Rows L2 LN
theorem nodup_map {α β : Type} {f : α → β} : ∀ {l : List α}, (l.map f).Nodup → ∀ {a b : α}, a ∈ l → b ∈ l → f a = f b → a = b
  | [], _, _, _, h, _, _ => by cases h
  | x :: l, h, a, b, ha, hb, e => by
    rw [List.map_cons, List.nodup_cons] at h
    rcases List.mem_cons.mp ha with ha1 | ha1 <;> rcases List.mem_cons.mp hb with hb1 | hb1
    · rw [ha1, hb1]
    · exact (h.1 (by rw [← ha1, e]; exact List.mem_map_of_mem hb1)).elim
    · exact (h.1 (by rw [← hb1, ← e]; exact List.mem_map_of_mem ha1)).elim
    · exact nodup_map h.2 ha1 hb1 e
theorem lookP {α β : Type} [BEq α] [LawfulBEq α] {a : α} {b : β} : ∀ {l : List (α × β)}, l.lookup a = some b → (a, b) ∈ l
  | [], h => by cases h
  | (x, y) :: r, h => by
    have h2 : (match a == x with | true => some y | false => r.lookup a) = some b := h
    cases q : (a == x) with
    | true =>
      rw [q] at h2
      have : y = b := Option.some.inj h2
      rw [beq_iff_eq.mp q, this]
      exact List.mem_cons_self
    | false =>
      rw [q] at h2
      exact List.mem_cons_of_mem _ (lookP h2)
section
variable {K : PySem.W.Frag} {h : Heap} {mg : Str → Option Value} (c : He.SaysD fa fn K)
include c
theorem flA : ∀ p ∈ flL, NoAttr K ((Wk K).cls p.1) ((Wk K).fnm p.2) := by
  intro p hp
  simp only [flL, List.mem_cons, List.not_mem_nil, or_false] at hp
  rcases hp with rfl | rfl | rfl | rfl | rfl | rfl | rfl | rfl | rfl | rfl | rfl | rfl
  · exact He.noat_ok (c.fact 71 (f := .noat ("Flat" : PySem.Str) ("around" : PySem.Str)) rfl)
  · exact He.noat_ok (c.fact 72 (f := .noat ("Flat" : PySem.Str) ("binder_nodes" : PySem.Str)) rfl)
  · exact He.noat_ok (c.fact 73 (f := .noat ("Flat" : PySem.Str) ("nodes" : PySem.Str)) rfl)
  · exact He.noat_ok (c.fact 74 (f := .noat ("Flat" : PySem.Str) ("use_nodes" : PySem.Str)) rfl)
  · exact He.noat_ok (c.fact 75 (f := .noat ("Term" : PySem.Str) ("binder_nodes" : PySem.Str)) rfl)
  · exact He.noat_ok (c.fact 76 (f := .noat ("Term" : PySem.Str) ("own_around" : PySem.Str)) rfl)
  · exact He.noat_ok (c.fact 77 (f := .noat ("Term" : PySem.Str) ("own_meaning" : PySem.Str)) rfl)
  · exact He.noat_ok (c.fact 78 (f := .noat ("Term" : PySem.Str) ("own_names" : PySem.Str)) rfl)
  · exact He.noat_ok (c.fact 79 (f := .noat ("Term" : PySem.Str) ("own_nodes" : PySem.Str)) rfl)
  · exact He.noat_ok (c.fact 80 (f := .noat ("Term" : PySem.Str) ("own_tree" : PySem.Str)) rfl)
  · exact He.noat_ok (c.fact 81 (f := .noat ("Term" : PySem.Str) ("use_around" : PySem.Str)) rfl)
  · exact He.noat_ok (c.fact 82 (f := .noat ("Term" : PySem.Str) ("use_nodes" : PySem.Str)) rfl)
theorem mtA : ∀ p ∈ mtL, Meth K ((Wk K).cls p.1.1) (nmF mnms 1 p.1.2) (adK K p.2) ∧ ∃ d, prog.fs p.2 = some d ∧ d.bk = .pl := by
  intro p hp
  simp only [mtL, List.mem_cons, List.not_mem_nil, or_false] at hp
  rcases hp with rfl | rfl | rfl | rfl | rfl | rfl | rfl | rfl | rfl
  · exact ⟨He.meth_ok (c.fact 83 (f := .meth ("Flat" : PySem.Str) ("add" : PySem.Str)) rfl), D11, rfl, rfl⟩
  · exact ⟨He.meth_ok (c.fact 84 (f := .meth ("Term" : PySem.Str) ("meant" : PySem.Str)) rfl), D13, rfl, rfl⟩
  · exact ⟨He.meth_ok (c.fact 85 (f := .meth ("Term" : PySem.Str) ("tree" : PySem.Str)) rfl), D14, rfl, rfl⟩
  · exact ⟨He.meth_ok (c.fact 86 (f := .meth ("Term" : PySem.Str) ("binders" : PySem.Str)) rfl), D16, rfl, rfl⟩
  · exact ⟨He.meth_ok (c.fact 87 (f := .meth ("Term" : PySem.Str) ("uses" : PySem.Str)) rfl), D17, rfl, rfl⟩
  · exact ⟨He.meth_ok (c.fact 88 (f := .meth ("Term" : PySem.Str) ("__len__" : PySem.Str)) rfl), D19, rfl, rfl⟩
  · exact ⟨He.meth_ok (c.fact 89 (f := .meth ("Term" : PySem.Str) ("__getitem__" : PySem.Str)) rfl), D20, rfl, rfl⟩
  · exact ⟨He.meth_ok (c.fact 90 (f := .meth ("Term" : PySem.Str) ("__contains__" : PySem.Str)) rfl), D21, rfl, rfl⟩
  · exact ⟨He.meth_ok (c.fact 91 (f := .meth ("Term" : PySem.Str) ("__eq__" : PySem.Str)) rfl), D23, rfl, rfl⟩
end
theorem lamA : AllL (fun f d => d.lam = true → f = 30 ∨ f = 413) fdL := ⟨(fun h => by cases h), (fun h => by cases h), (fun h => by cases h), (fun h => by cases h), (fun h => by cases h), (fun _ => .inl rfl), (fun h => by cases h), (fun h => by cases h), (fun h => by cases h), (fun h => by cases h), (fun h => by cases h), (fun h => by cases h), (fun h => by cases h), (fun h => by cases h), (fun h => by cases h), (fun h => by cases h), (fun h => by cases h), (fun h => by cases h), (fun h => by cases h), (fun h => by cases h), (fun h => by cases h), (fun h => by cases h), (fun h => by cases h), (fun h => by cases h), (fun h => by cases h), (fun h => by cases h), (fun h => by cases h), (fun h => by cases h), (fun h => by cases h), (fun h => by cases h), (fun h => by cases h), (fun h => by cases h), (fun h => by cases h), (fun h => by cases h), (fun h => by cases h), (fun h => by cases h), (fun h => by cases h), (fun h => by cases h), (fun h => by cases h), (fun h => by cases h), (fun h => by cases h), (fun h => by cases h), (fun h => by cases h), (fun h => by cases h), (fun h => by cases h), (fun h => by cases h), (fun h => by cases h), (fun h => by cases h), (fun h => by cases h), (fun h => by cases h), (fun h => by cases h), (fun h => by cases h), (fun h => by cases h), (fun h => by cases h), (fun _ => .inr (rfl)), (fun h => by cases h), (fun h => by cases h), (fun h => by cases h), (fun h => by cases h), (fun h => by cases h), (fun h => by cases h), (fun h => by cases h), (fun h => by cases h), trivial⟩
theorem stat {K : PySem.W.Frag} {h : Heap} {mg : Str → Option Value} {P : Program} {w : World} {base : Heap} (cx : He.SaysX fa fn [] tf exB w h K) (KX : K.In h) (Gn : h.Ns mainGlobals mg) (TB : ∀ p ∈ tf, LamX.TabB base mg (He.cT K p).1 (He.cT K p).2) :
    Stat (Wk K) ⟨P, w, K, mg, base⟩ prog (nmF mnms 1) G (adK K) := by
  have c := cx.t.d
  have gq := gA c KX Gn
  have ex := cx.more
  unfold exB at ex
  obtain ⟨ex, xd⟩ := LN.ba ex
  unfold exB0 at ex
  obtain ⟨x1, ex⟩ := LN.ba ex
  obtain ⟨x2, ex⟩ := LN.ba ex
  obtain ⟨x3, ex⟩ := LN.ba ex
  obtain ⟨x4, ex⟩ := LN.ba ex
  obtain ⟨x5, ex⟩ := LN.ba ex
  obtain ⟨x6, x7⟩ := LN.ba ex
  have icT : ∀ {cc : Nat}, prog.ic cc = true → cc = 1 := fun h => of_decide_eq_true h
  refine { hK := rfl, inj := nmF_inj (by decide +kernel), nmf := nmF_apart (by decide +kernel) (by decide +kernel) (by decide +kernel) (by decide +kernel) (by decide), cls := ?_, fld := ?_, mth := ?_, ins := ?_, kit := ?_, kit2 := ?_, gfn := ?_, gtw := ?_, gcl := ?_, gfk := ?_, gint := ?_, gstr := ?_, gbn := ?_, ggn := ?_, gen_ := ?_, def_ := ?_, lam := ?_, nat := ?_, nat0 := ?_ }
  · intro cc hc
    have hc2 : cc ∈ ckL := by simpa [prog] using hc
    simp only [ckL, List.mem_cons, List.not_mem_nil, or_false] at hc2
    rcases hc2 with rfl | rfl
    · exact He.cls_ok (c.fact 48 (f := .cls ("Flat" : PySem.Str)) rfl)
    · exact He.cls_ok (c.fact 51 (f := .cls ("Term" : PySem.Str)) rfl)
  · intro cc f hf
    exact flA c (cc, f) (by simpa [prog] using hf)
  · intro cc m f hm
    obtain ⟨h1, d, h2, h3⟩ := mtA c ((cc, m), f) (lookP hm)
    exact ⟨h1, .inl ⟨d, h2, h3⟩⟩
  · intro cc hc
    obtain rfl := icT hc
    exact ⟨He.cls_ok (c.fact 51 (f := .cls "Term") rfl), He.eqO_ok x1, He.eqO_ok x2, of_decide_eq_true x3, of_decide_eq_true x4⟩
  · intro cc hc
    obtain rfl := icT hc
    refine ⟨of_decide_eq_true x5, fun b => ?_⟩
    have hb : b.nm ∈ btn := by cases b <;> simp [BTy.nm, btn]
    obtain ⟨h1, h2⟩ := LN.ba (List.all_eq_true.mp x6 b.nm hb)
    exact ⟨of_decide_eq_true h1, of_decide_eq_true h2⟩
  · intro cc cc' hc hc'
    obtain rfl := icT hc
    obtain rfl := icT hc'
    exact of_decide_eq_true x7
  · intro x f np hx
    obtain ⟨h1, h2, d, h3, h4, h5⟩ := gq.get hx
    exact ⟨h1, h2, .inl ⟨d, h3, h4, h5⟩⟩
  · intro x f g np hx
    exact gq.get hx
  · intro x cc f np hx
    exact gq.get hx
  · intro x f np ks dfl hx
    exact gq.get hx
  · intro x i hx
    exact gq.get hx
  · intro x l hx
    exact gq.get hx
  · intro x hx
    exact gq.get hx
  · intro x f np hx
    obtain ⟨h1, h2, h3, g, h4, h5⟩ := gq.get hx
    exact ⟨h1, h2, h3, rfl, g, h4, h5⟩

  · intro f g hf
    cases hf
  · intro f d hf
    exact (dA c P w mg base).get hf
  · intro f d hf hl fd oc od osl lk
    have hfk := lamA.get hf hl
    rcases hfk with rfl | rfl
    · obtain ⟨fd', F⟩ := c.def_ 5 (d := d30) rfl
      obtain ⟨oc', od', dV, kV, doc, pm, an, cdv, ct, osl', rfl, lk', hcd, _, _⟩ := F.ex
      have e1 := lk'.symm.trans lk
      cases e1
      obtain ⟨cc, rfl⟩ := He.codeIn_ref hcd
      have e2 := He.codeOf_eq (p := (("ordered" : PySem.Str), none)) (c := cc) lk' rfl
      have hin : ((("ordered" : PySem.Str) : PySem.Str), (none : Option PySem.Str)) ∈ tf := by decide +kernel
      refine ⟨cc, (He.cT K (("ordered" : PySem.Str), none)).2, rfl, ?_, List.mem_map.mpr ⟨_, hin, rfl⟩, ?_⟩
      · have := TB _ hin
        unfold He.cT at this ⊢
        rw [e2] at this ⊢
        exact this
      · intro p hp hpe
        obtain ⟨p', hp', rfl⟩ := List.mem_map.mp hp
        have hq := nodup_map (of_decide_eq_true xd) hp' hin hpe
        subst hq
        rfl
    · obtain ⟨fd', F⟩ := c.def_ 54 (d := d413) rfl
      obtain ⟨oc', od', dV, kV, doc, pm, an, cdv, ct, osl', rfl, lk', hcd, _, _⟩ := F.ex
      have e1 := lk'.symm.trans lk
      cases e1
      obtain ⟨cc, rfl⟩ := He.codeIn_ref hcd
      have e2 := He.codeOf_eq (p := (("_law_in_order" : PySem.Str), none)) (c := cc) lk' rfl
      have hin : ((("_law_in_order" : PySem.Str) : PySem.Str), (none : Option PySem.Str)) ∈ tf := by decide +kernel
      refine ⟨cc, (He.cT K (("_law_in_order" : PySem.Str), none)).2, rfl, ?_, List.mem_map.mpr ⟨_, hin, rfl⟩, ?_⟩
      · have := TB _ hin
        unfold He.cT at this ⊢
        rw [e2] at this ⊢
        exact this
      · intro p hp hpe
        obtain ⟨p', hp', rfl⟩ := List.mem_map.mp hp
        have hq := nodup_map (of_decide_eq_true xd) hp' hin hpe
        subst hq
        rfl
  · intro f np F _ h2
    cases h2
  · intro f np F _ h2
    cases h2
end LP
set_option Elab.async false
set_option linter.all false
set_option maxRecDepth 100000
namespace Sp
open LN
variable {T : Tab} {env : DEnv} {S : Store}
/-! ### the evaluator's equations, for simp (none by rfl alone: the kernel is not to unfold them) -/
@[simp] theorem e_var (i : Nat) : evE T (.var i) env S = (match env[i]? with | some (some d) => some (d, S) | _ => none) := by rw [evE] <;> rfl
@[simp] theorem e_con (d : D) : evE T (.con d) env S = some (d, S) := by rw [evE] <;> rfl
@[simp] theorem e_p2 (p : P2) (a b : IE) : evE T (.p2 p a b) env S = (match evE T a env S with
    | some (x, S1) => match evE T b env S1 with
      | some (y, S2) => match p2 p x y S2 with
        | some z => some (z, S2)
        | none => none
      | none => none
    | none => none) := by rw [evE] <;> rfl
@[simp] theorem e_neg (a : IE) : evE T (.neg a) env S = (match evE T a env S with
    | some (.int i, S1) => some (.int (-i), S1)
    | _ => none) := by rw [evE] <;> rfl
@[simp] theorem e_chain (p q : P2) (a b c : IE) : evE T (.chain p q a b c) env S = (match evE T a env S with
    | some (x, S1) => match evE T b env S1 with
      | some (y, S2) => match p2 p x y S2 with
        | some (.bl true) => match evE T c env S2 with
          | some (z, S3) => match p2 q y z S3 with
            | some (.bl k) => some (.bl k, S3)
            | _ => none
          | none => none
        | some (.bl false) => some (.bl false, S2)
        | _ => none
      | none => none
    | none => none) := by rw [evE] <;> rfl
@[simp] theorem e_and (a b : IE) : evE T (.and a b) env S = (match evE T a env S with
    | some (.bl true, S1) => match evE T b env S1 with
      | some (.bl k, S2) => some (.bl k, S2)
      | _ => none
    | some (.bl false, S1) => some (.bl false, S1)
    | _ => none) := by rw [evE] <;> rfl
@[simp] theorem e_or (a b : IE) : evE T (.or a b) env S = (match evE T a env S with
    | some (.bl true, S1) => some (.bl true, S1)
    | some (.bl false, S1) => match evE T b env S1 with
      | some (.bl k, S2) => some (.bl k, S2)
      | _ => none
    | _ => none) := by rw [evE] <;> rfl
@[simp] theorem e_not (a : IE) : evE T (.not a) env S = (match evE T a env S with
    | some (.bl k, S1) => some (.bl (!k), S1)
    | _ => none) := by rw [evE] <;> rfl
@[simp] theorem e_ite (c a b : IE) : evE T (.ite c a b) env S = (match evE T c env S with
    | some (.bl true, S1) => evE T a env S1
    | some (.bl false, S1) => evE T b env S1
    | _ => none) := by rw [evE] <;> rfl
@[simp] theorem e_pb (p : PB) (cell : Bool) (as : List IE) : evE T (.pb p cell as) env S = (match evL T as env S with
    | some (ds, S1) => match pb p ds S1 with
      | some (.v d) => some (d, S1)
      | some (.l xs) => some (newL cell xs S1)
      | some (.t xs) => some (.tup xs, S1)
      | none => none
    | none => none) := by rw [evE] <;> rfl
@[simp] theorem e_pm (p : PM) (a : IE) (as : List IE) : evE T (.pm p a as) env S = (match evE T a env S with
    | some (d, S1) => if recvOk p d S1 then match evL T as env S1 with
        | some (ds, S2) => pm p d ds S2
        | none => none
      else none
    | none => none) := by rw [evE] <;> rfl
@[simp] theorem e_isi (ts : List TyS) (a : IE) : evE T (.isi ts a) env S = (match evE T a env S with
    | some (d, S1) => match tagD S1 d with
      | some g => match isiL T g ts with
        | some b => some (.bl b, S1)
        | none => none
      | none => none
    | none => none) := by rw [evE] <;> rfl
@[simp] theorem e_call (f : Nat) (as : List IE) : evE T (.call f as) env S = (match evL T as env S with
    | some (ds, S1) => T.fn f ds S1
    | none => none) := by rw [evE] <;> rfl
@[simp] theorem e_meth (m : Nat) (a : IE) (as : List IE) : evE T (.meth m a as) env S = (match evE T a env S with
    | some (d, S1) => match clsD S1 d with
      | some c => if T.ck c then match T.mt c m with
          | some f => match evL T as env S1 with
            | some (ds, S2) => T.fn f (d :: ds) S2
            | none => none
          | none => none
        else none
      | none => none
    | none => none) := by rw [evE] <;> rfl
@[simp] theorem e_attr (f : Nat) (a : IE) : evE T (.attr f a) env S = (match evE T a env S with
    | some (d, S1) => match clsD S1 d with
      | some c => if T.ck c && T.fl c f then match fldD S1 f d with
          | some x => some (x, S1)
          | none => none
        else none
      | none => none
    | none => none) := by rw [evE] <;> rfl
@[simp] theorem e_disp (k : DK2) (st : List Bool) (as : List IE) : evE T (.disp k st as) env S = (match evP T st as env S with
    | some (xs, S1) => if szOk xs.length then match k with
        | .tup => some (.tup xs, S1)
        | .lst => some (.lst xs, S1)
        | .cell => some (newL true xs S1)
      else none
    | none => none) := by rw [evE] <;> rfl
@[simp] theorem e_dict (as : List IE) : evE T (.dict as) env S = some (.obj S.length, S ++ [.dct [] []]) := by rw [evE] <;> rfl
@[simp] theorem e_dget (a b : IE) : evE T (.dget a b) env S = (match evE T a env S with
    | some (.obj i, S1) => match evE T b env S1 with
      | some (y, S2) => match keyD y with
        | some k => match S2[i]? with
          | some (.dct ks xs) => match getK ks xs k with
            | some d => some (d, S2)
            | none => none
          | _ => none
        | none => none
      | none => none
    | _ => none) := by rw [evE] <;> rfl
@[simp] theorem l_nil : evL T [] env S = some ([], S) := by rw [evL] <;> rfl
@[simp] theorem l_cons (e : IE) (es : List IE) : evL T (e :: es) env S = (match evE T e env S with
    | some (d, S1) => match evL T es env S1 with
      | some (ds, S2) => some (d :: ds, S2)
      | none => none
    | none => none) := by rw [evL] <;> rfl
@[simp] theorem p_nil (st : List Bool) : evP T st [] env S = some ([], S) := by rw [evP] <;> rfl
@[simp] theorem p_cons (st : List Bool) (e : IE) (es : List IE) : evP T st (e :: es) env S = (match evE T e env S with
    | some (d, S1) => if st.headD false then match seqD S1 d with
        | some xs => match evP T st.tail es env S1 with
          | some (ds, S2) => some (xs ++ ds, S2)
          | none => none
        | none => none
      else match evP T st.tail es env S1 with
        | some (ds, S2) => some (d :: ds, S2)
        | none => none
    | none => none) := by rw [evP] <;> rfl
@[simp] theorem c_none : evC T none env S = some (true, S) := by rw [evC] <;> rfl
@[simp] theorem c_some (e : IE) : evC T (some e) env S = (match evE T e env S with
    | some (.bl b, S1) => some (b, S1)
    | _ => none) := by rw [evC] <;> rfl
/-! ### statements -/
@[simp] theorem s_asg (t : Tg) (e : IE) : ex T (.asg t e) env S = (match evE T e env S with
    | some (d, S1) => match setT S1 t d env with
      | some env1 => some (.nx env1 S1)
      | none => none
    | none => none) := by rw [ex] <;> rfl
@[simp] theorem s_par (is : List Nat) (es : List IE) : ex T (.par is es) env S = (match evL T es env S with
    | some (ds, S1) => match setP is ds env with
      | some env1 => some (.nx env1 S1)
      | none => none
    | none => none) := by rw [ex] <;> rfl
@[simp] theorem s_setF (o : IE) (f : Nat) (e : IE) : ex T (.setF o f e) env S = (match evE T e env S with
    | some (y, S1) => match evE T o env S1 with
      | some (d, S2) => match setFld T d f y S2 with
        | some S3 => some (.nx env S3)
        | none => none
      | none => none
    | none => none) := by rw [ex] <;> rfl
@[simp] theorem s_setI (o i e : IE) : ex T (.setI o i e) env S = (match evE T e env S with
    | some (y, S1) => match evE T o env S1 with
      | some (d, S2) => match evE T i env S2 with
        | some (k, S3) => match setItem d k y S3 with
          | some S4 => some (.nx env S4)
          | none => none
        | none => none
      | none => none
    | none => none) := by rw [ex] <;> rfl
@[simp] theorem s_drop (e : IE) : ex T (.drop e) env S = (match evE T e env S with
    | some (_, S1) => some (.nx env S1)
    | none => none) := by rw [ex] <;> rfl
@[simp] theorem s_ite (c : IE) (a b : List IS) : ex T (.ite c a b) env S = (match evE T c env S with
    | some (.bl true, S1) => exL T a env S1
    | some (.bl false, S1) => exL T b env S1
    | _ => none) := by rw [ex] <;> rfl
@[simp] theorem s_ret (e : IE) : ex T (.ret e) env S = (match evE T e env S with
    | some (d, S1) => some (.rt d S1)
    | none => none) := by rw [ex] <;> rfl
@[simp] theorem s_nil : exL T [] env S = some (.nx env S) := by rw [exL] <;> rfl
@[simp] theorem s_cons (s : IS) (ss : List IS) : exL T (s :: ss) env S = (match ex T s env S with
    | some (.nx env1 S1) => exL T ss env1 S1
    | some (.rt d S1) => some (.rt d S1)
    | some (.br env1 S1) => some (.br env1 S1)
    | some (.ct env1 S1) => some (.ct env1 S1)
    | none => none) := by rw [exL] <;> rfl
theorem s_nx {s : IS} {ss : List IS} {env1 : DEnv} {S1 : Store} {o : Option O} (h : ex T s env S = some (.nx env1 S1)) (h2 : exL T ss env1 S1 = o) : exL T (s :: ss) env S = o := by
  rw [s_cons, h]; exact h2
theorem s_rt {s : IS} {ss : List IS} {d : D} {S1 : Store} (h : ex T s env S = some (.rt d S1)) : exL T (s :: ss) env S = some (.rt d S1) := by
  rw [s_cons, h]
/-! ### operations -/
@[simp] theorem o_add (i j : Int) : p2 .add (.int i) (.int j) S = some (.int (i + j)) := by rw [p2] <;> rfl
@[simp] theorem o_sub (i j : Int) : p2 .sub (.int i) (.int j) S = some (.int (i - j)) := by rw [p2] <;> rfl
@[simp] theorem o_mul (i j : Int) : p2 .mul (.int i) (.int j) S = if cmulB i j then some (.int (i * j)) else none := by rw [p2] <;> rfl
@[simp] theorem o_fdiv (i j : Int) : p2 .fdiv (.int i) (.int j) S = if 0 < j ∧ j < 1073741824 then some (.int (i / j)) else none := by rw [p2] <;> rfl
@[simp] theorem o_mod (i j : Int) : p2 .mod (.int i) (.int j) S = if 0 < j then some (.int (i % j)) else none := by rw [p2] <;> rfl
@[simp] theorem o_lt (i j : Int) : p2 .lt (.int i) (.int j) S = some (.bl (decide (i < j))) := by rw [p2] <;> rfl
@[simp] theorem o_le (i j : Int) : p2 .le (.int i) (.int j) S = some (.bl (decide (i ≤ j))) := by rw [p2] <;> rfl
@[simp] theorem o_gt (i j : Int) : p2 .gt (.int i) (.int j) S = some (.bl (decide (j < i))) := by rw [p2] <;> rfl
@[simp] theorem o_ge (i j : Int) : p2 .ge (.int i) (.int j) S = some (.bl (decide (j ≤ i))) := by rw [p2] <;> rfl
@[simp] theorem o_addl (xs ys : List D) : p2 .add (.lst xs) (.lst ys) S = if szOk (xs.length + ys.length) then some (.lst (xs ++ ys)) else none := by simp [p2, lstD]
@[simp] theorem o_idxl (xs : List D) (i : Int) : p2 .idx (.lst xs) (.int i) S = ixD xs i := by simp [p2, seqD]
@[simp] theorem o_idxt (xs : List D) (i : Int) : p2 .idx (.tup xs) (.int i) S = ixD xs i := by simp [p2, seqD]
@[simp] theorem o_idxs (xs : List D) (i : Int) : p2 .idx (.scr xs) (.int i) S = ixD xs i := by simp [p2, seqD]
@[simp] theorem o_eq (a b : D) : p2 .eq a b S = (eqS S a b).map .bl := by simp [p2]
@[simp] theorem o_ne (a b : D) : p2 .ne a b S = (eqS S a b).map fun k => .bl (!k) := by simp [p2]
@[simp] theorem o_in (a b : D) : p2 .inn a b S = (inS S a b).map .bl := by simp [p2]
@[simp] theorem o_notin (a b : D) : p2 .notin a b S = (inS S a b).map fun k => .bl (!k) := by simp [p2]
theorem o_idxo {j : Nat} {xs : List D} (h : S[j]? = some (.lst xs)) (i : Int) : p2 .idx (.obj j) (.int i) S = ixD xs i := by simp [p2, seqD, h]
@[simp] theorem b_lenl (xs : List D) : pb .len [.lst xs] S = some (.v (.int xs.length)) := by simp [pb, seqD]
@[simp] theorem b_lent (xs : List D) : pb .len [.tup xs] S = some (.v (.int xs.length)) := by simp [pb, seqD]
@[simp] theorem b_lens (xs : List D) : pb .len [.scr xs] S = some (.v (.int xs.length)) := by simp [pb, seqD]
@[simp] theorem b_lenx (s : List Nat) : pb .len [.str s] S = if szOk s.length then some (.v (.int s.length)) else none := by simp [pb]
theorem b_leno {j : Nat} {xs : List D} (h : S[j]? = some (.lst xs)) : pb .len [.obj j] S = some (.v (.int xs.length)) := by simp [pb, seqD, h]
@[simp] theorem b_listl (xs : List D) : pb .list [.lst xs] S = some (.l xs) := by simp [pb, seqD]
@[simp] theorem b_listt (xs : List D) : pb .list [.tup xs] S = some (.l xs) := by simp [pb, seqD]
theorem b_listo {j : Nat} {xs : List D} (h : S[j]? = some (.lst xs)) : pb .list [.obj j] S = some (.l xs) := by simp [pb, seqD, h]
theorem b_listd {j : Nat} {ks : List DK} {xs : List D} (h : S[j]? = some (.dct ks xs)) : pb .list [.obj j] S = some (.l (ks.map dkD)) := by simp [pb, seqD, h]
@[simp] theorem b_tupl (xs : List D) : pb .tuple [.lst xs] S = some (.t xs) := by simp [pb, seqD]
@[simp] theorem b_tupt (xs : List D) : pb .tuple [.tup xs] S = some (.v (.tup xs)) := by simp [pb]
theorem b_tupo {j : Nat} {xs : List D} (h : S[j]? = some (.lst xs)) : pb .tuple [.obj j] S = some (.t xs) := by simp [pb, seqD, h]
@[simp] theorem b_int (i : Int) : pb .int [.int i] S = some (.v (.int i)) := by simp [pb]
@[simp] theorem b_intb (b : Bool) : pb .int [.bl b] S = some (.v (.int (if b then 1 else 0))) := by simp [pb]
@[simp] theorem b_max2 (i j : Int) : pb .max [.int i, .int j] S = some (.v (.int (if j > i then j else i))) := by simp [pb]
@[simp] theorem b_min2 (i j : Int) : pb .min [.int i, .int j] S = some (.v (.int (if j < i then j else i))) := by simp [pb]
@[simp] theorem b_all (bs : List Bool) : pb .all [.lst (bs.map .bl)] S = some (.v (.bl (bs.all id))) := by
  have : ∀ bs : List Bool, blsD (bs.map .bl) = some bs := fun bs => by induction bs with | nil => rfl | cons b bs ih => simp [blsD, ih]
  simp [pb, lstD, this]
theorem intsD_ints : ∀ is : List Int, intsD (is.map .int) = some is
  | [] => rfl
  | i :: is => by simp [intsD, intsD_ints is]
theorem strsD_strs : ∀ ss : List (List Nat), strsD (ss.map .str) = some ss
  | [] => rfl
  | i :: is => by simp [strsD, strsD_strs is]
@[simp] theorem nl_f (xs : List D) : newL false xs S = (.lst xs, S) := by simp [newL]
@[simp] theorem nl_t (xs : List D) : newL true xs S = (.obj S.length, S ++ [.lst xs]) := by simp [newL]
theorem m_app {i : Nat} {xs : List D} {y : D} (h : S[i]? = some (.lst xs)) : pm .append (.obj i) [y] S = if xs.length < 100000 then some (.non, S.set i (.lst (xs ++ [y]))) else none := by
  simp only [pm, h]
theorem r_obj {i : Nat} {xs : List D} {p : PM} (h : S[i]? = some (.lst xs)) : recvOk p (.obj i) S = true := by simp [recvOk, lstD, h]
@[simp] theorem r_lst {xs : List D} {p : PM} : recvOk p (.lst xs) S = true := by simp [recvOk, lstD]
@[simp] theorem t_nm (i : Nat) (d : D) : setT S (.nm i) d env = some (env.set i (some d)) := by rw [setT] <;> rfl
@[simp] theorem t_tupt (ts : List Tg) (xs : List D) : setT S (.tup ts) (.tup xs) env = setTs S ts xs env := by simp [setT, seqD]
@[simp] theorem t_tupl (ts : List Tg) (xs : List D) : setT S (.tup ts) (.lst xs) env = setTs S ts xs env := by simp [setT, seqD]
@[simp] theorem ts_nil : setTs S [] [] env = some env := by rw [setTs] <;> rfl
@[simp] theorem ts_cons (t : Tg) (ts : List Tg) (d : D) (ds : List D) : setTs S (t :: ts) (d :: ds) env = (match setT S t d env with
    | some env1 => setTs S ts ds env1
    | none => none) := by rw [setTs] <;> rfl
@[simp] theorem sp_nil : setP [] [] env = some env := by rw [setP] <;> rfl
@[simp] theorem sp_cons (i : Nat) (is : List Nat) (d : D) (ds : List D) : setP (i :: is) (d :: ds) env = setP is ds (env.set i (some d)) := by rw [setP] <;> rfl
@[simp] theorem tg_str (s : List Nat) : tagD S (.str s) = some (.b .str) := by simp [tagD]
@[simp] theorem tg_int (i : Int) : tagD S (.int i) = some (.b .int) := by simp [tagD]
@[simp] theorem tg_tup (xs : List D) : tagD S (.tup xs) = some (.b .tup) := by simp [tagD]
@[simp] theorem tg_lst (xs : List D) : tagD S (.lst xs) = some (.b .lst) := by simp [tagD]
@[simp] theorem tg_ins (c : Nat) (ks : List Nat) (xs : List D) : tagD S (.ins c ks xs) = some (.ins c) := by simp [tagD]
@[simp] theorem cl_ins (c : Nat) (ks : List Nat) (xs : List D) : clsD S (.ins c ks xs) = some c := by simp [clsD]
@[simp] theorem fd_ins (c f : Nat) (ks : List Nat) (xs : List D) : fldD S f (.ins c ks xs) = fldL ks xs f := by simp [fldD]
@[simp] theorem sq_lst (xs : List D) : seqD S (.lst xs) = some xs := by simp [seqD]
@[simp] theorem sq_tup (xs : List D) : seqD S (.tup xs) = some xs := by simp [seqD]
/-! ### data without cells -/
mutual
theorem frzW_pure (g : Nat → Option D) : ∀ d : D, pureD d = true → frzW g d = some d
  | .non, _ => rfl
  | .bl _, _ => rfl
  | .int _, _ => rfl
  | .str _, _ => rfl
  | .tup xs, h => by
    have := frzL_pure g xs (by simpa [pureD] using h)
    simp [frzW, this]
  | .lst xs, h => by
    have := frzL_pure g xs (by simpa [pureD] using h)
    simp [frzW, this]
  | .scr xs, h => by
    have := frzL_pure g xs (by simpa [pureD] using h)
    simp [frzW, this]
  | .ins c ks xs, h => by
    have := frzL_pure g xs (by simpa [pureD] using h)
    simp [frzW, this]
  | .obj i, h => by simp [pureD] at h
theorem frzL_pure (g : Nat → Option D) : ∀ ds : List D, pureL ds = true → frzL g ds = some ds
  | [], _ => rfl
  | d :: ds, h => by
    simp only [pureL, Bool.and_eq_true] at h
    simp [frzL, frzW_pure g d h.1, frzL_pure g ds h.2]
end
theorem frz_pure {d : D} (h : pureD d = true) (S : Store) : frz 0 S d = some d := frzW_pure _ d h
theorem frz_cell {j : Nat} {xs : List D} (h : pureL xs = true) (hj : S[j]? = some (.lst xs)) : frz 0 S (.obj j) = some (.lst xs) := by
  simp [frz, frzW, frzC, hj, frzL_pure _ xs h]
theorem pureL_all : ∀ {ds : List D}, pureL ds = true ↔ ∀ d ∈ ds, pureD d = true
  | [] => by simp [pureL]
  | d :: ds => by simp [pureL, pureL_all (ds := ds)]
theorem pureL_map {α : Type} {f : α → D} (h : ∀ a, pureD (f a) = true) (as : List α) : pureL (as.map f) = true := by
  rw [pureL_all]; intro d hd; obtain ⟨a, _, rfl⟩ := List.mem_map.mp hd; exact h a
@[simp] theorem pu_int (i : Int) : pureD (.int i) = true := rfl
@[simp] theorem pu_str (s : List Nat) : pureD (.str s) = true := rfl
@[simp] theorem pu_bl (b : Bool) : pureD (.bl b) = true := rfl
@[simp] theorem pu_non : pureD .non = true := rfl
@[simp] theorem pu_tup (xs : List D) : pureD (.tup xs) = pureL xs := by simp [pureD]
@[simp] theorem pu_lst (xs : List D) : pureD (.lst xs) = pureL xs := by simp [pureD]
@[simp] theorem pu_nil : pureL [] = true := rfl
@[simp] theorem pu_cons (d : D) (ds : List D) : pureL (d :: ds) = (pureD d && pureL ds) := by simp [pureL]
@[simp] theorem pu_app (ds es : List D) : pureL (ds ++ es) = (pureL ds && pureL es) := by
  rw [Bool.eq_iff_iff, Bool.and_eq_true]; simp only [pureL_all, List.mem_append]; constructor
  · exact fun h => ⟨fun d hd => h d (.inl hd), fun d hd => h d (.inr hd)⟩
  · exact fun h d hd => hd.elim (h.1 d) (h.2 d)
/-! ### defs -/
theorem run_0 {f : FD} {ds : List D} {d e : D} {S1 : Store} (hm : f.mode = 0) (hp : pureL ds = true) (hl : ds.length = f.np) (h : exL T f.body (startD f.nn ds) [] = some (.rt d S1)) (hf : frz 0 S1 d = some e) (S : Store) : runF T f ds S = some (e, S) := by
  obtain ⟨m, np, nn, b, bk, lam⟩ := f
  have hm' : m = 0 := hm
  subst hm'
  simp only [runF, hp, runB, if_pos hl, h, hf, if_true]
theorem run_0n {f : FD} {ds : List D} {env1 : DEnv} {S1 : Store} (hm : f.mode = 0) (hp : pureL ds = true) (hl : ds.length = f.np) (h : exL T f.body (startD f.nn ds) [] = some (.nx env1 S1)) (S : Store) : runF T f ds S = some (.non, S) := by
  obtain ⟨m, np, nn, b, bk, lam⟩ := f
  have hm' : m = 0 := hm
  subst hm'
  simp only [runF, hp, runB, if_pos hl, h, if_true]
  rfl
theorem run_2 {f : FD} {ds : List D} {d : D} {S S1 : Store} (hm : f.mode = 2) (hl : ds.length = f.np) (h : exL T f.body (startD f.nn ds) S = some (.rt d S1)) : runF T f ds S = some (d, S1) := by
  obtain ⟨m, np, nn, b, bk, lam⟩ := f
  have hm' : m = 2 := hm
  subst hm'
  simp only [runF, runB, if_pos hl, h]
theorem run_2n {f : FD} {ds : List D} {env1 : DEnv} {S S1 : Store} (hm : f.mode = 2) (hl : ds.length = f.np) (h : exL T f.body (startD f.nn ds) S = some (.nx env1 S1)) : runF T f ds S = some (.non, S1) := by
  obtain ⟨m, np, nn, b, bk, lam⟩ := f
  have hm' : m = 2 := hm
  subst hm'
  simp only [runF, runB, if_pos hl, h]
theorem fn_at {p : Prog} {f : Nat} {d : FD} (h : p.fs f = some d) (n : Nat) (ds : List D) (S : Store) : (tabN p (n + 1)).fn f ds S = runF (tabN p n) d ds S := by
  simp only [tabN, h]
theorem tk_ck {p : Prog} (n : Nat) : (tabN p n).ck = p.ck := by cases n <;> (rw [tabN]; try rfl)
theorem tk_fl {p : Prog} (n : Nat) : (tabN p n).fl = p.fl := by cases n <;> (rw [tabN]; try rfl)
theorem tk_ic {p : Prog} (n : Nat) : (tabN p n).ic = p.ic := by cases n <;> (rw [tabN]; try rfl)
theorem tk_mt {p : Prog} (n : Nat) : (tabN p n).mt = p.mt := by cases n <;> (rw [tabN]; try rfl)
/-! ### list comprehensions -/
def lcStep (T : Tab) (vs : List Nat) (tg : Tg) (cd : Option IE) (e : IE) (env : DEnv) : D → Store → Option (Option D × Store) := fun x S2 => match setT S2 tg x (wipeD env vs) with
  | some env2 => match evC T cd env2 S2 with
    | some (true, S3) => match evE T e env2 S3 with
      | some (y, S4) => some (some y, S4)
      | none => none
    | some (false, S3) => some (none, S3)
    | none => none
  | none => none
theorem e_lc (cell : Bool) (vs : List Nat) (tg : Tg) (k : Nat) (it : List IE) (cd : Option IE) (e : IE) : evE T (.lc cell vs tg k it cd e) env S = (match evL T it env S with
    | some (ds, S1) => match srcD k ds S1 with
      | some s => match lcS (lcStep T vs tg cd e env) s S1 with
        | some (ys, S5) => if szOk ys.length then some (newL cell ys S5) else none
        | none => none
      | none => none
    | none => none) := by rw [evE]; rfl
theorem lcL_fm {stp : D → Store → Option (Option D × Store)} {α : Type} {enc : α → D} {h : α → Option D} {S : Store} : ∀ (ys : List α), (∀ y ∈ ys, stp (enc y) S = some (h y, S)) → lcL stp (ys.map enc) S = some (ys.filterMap h, S)
  | [], _ => rfl
  | y :: ys, k => by
    have ih := lcL_fm ys fun z hz => k z (List.mem_cons_of_mem _ hz)
    have h1 := k y List.mem_cons_self
    rw [List.map_cons, lcL, h1]
    cases e : h y with
    | none => rw [List.filterMap_cons_none e]; exact ih
    | some z => rw [List.filterMap_cons_some e]; simp [ih]
theorem lcC_fm {stp : D → Store → Option (Option D × Store)} {i : Nat} {xs : List D} {h : D → Option D} {S : Store} (hi : S[i]? = some (.lst xs)) (hk : ∀ x ∈ xs, stp x S = some (h x, S)) : ∀ (n k : Nat), xs.length - k < n → lcC stp i n k S = some ((xs.drop k).filterMap h, S)
  | 0, k, hn => by omega
  | n + 1, k, hn => by
    rw [lcC, hi]
    dsimp only
    by_cases q : k < xs.length
    · rw [List.getElem?_eq_getElem q, List.drop_eq_getElem_cons q]
      dsimp only
      rw [hk _ (List.getElem_mem q)]
      have ih := lcC_fm hi hk n (k + 1) (by omega)
      cases e : h xs[k] with
      | none => rw [List.filterMap_cons_none e]; exact ih
      | some z => rw [List.filterMap_cons_some e]; simp [ih]
    · rw [List.getElem?_eq_none (by omega), List.drop_eq_nil_iff.mpr (by omega)]
      rfl
theorem fm_congr {α β : Type} {f g : α → Option β} : ∀ {l : List α}, (∀ a ∈ l, f a = g a) → l.filterMap f = l.filterMap g
  | [], _ => rfl
  | a :: l, h => by
    have ih := fm_congr (l := l) fun b hb => h b (List.mem_cons_of_mem _ hb)
    rw [List.filterMap_cons, List.filterMap_cons, h a List.mem_cons_self, ih]
theorem fm_if {α β : Type} (c : α → Bool) (g : α → β) : ∀ l : List α, l.filterMap (fun y => if c y then some (g y) else none) = (l.filter c).map g
  | [] => rfl
  | a :: l => by
    by_cases q : c a = true
    · simp [q, fm_if c g l]
    · simp [q, fm_if c g l]
/-- what is walked is these items, for steps that leave the store as it is -/
def Walk (k : Nat) (ds : List D) (S : Store) (xs : List D) : Prop := srcD k ds S = some (.items xs) ∨ ∃ i, srcD k ds S = some (.cell i) ∧ S[i]? = some (.lst xs)
theorem E_lc {vs : List Nat} {tg : Tg} {k : Nat} {it : List IE} {cd : Option IE} {e : IE} {cell : Bool} {α : Type} {enc : α → D} {h : α → Option D} {ys : List α} {ds : List D} {S S1 : Store} (hit : evL T it env S = some (ds, S1)) (hs : Walk k ds S1 (ys.map enc))
    (hk : ∀ y ∈ ys, lcStep T vs tg cd e env (enc y) S1 = some (h y, S1)) (hz : ys.length ≤ 100000) : evE T (.lc cell vs tg k it cd e) env S = some (newL cell (ys.filterMap h) S1) := by
  have hz2 : szOk (ys.filterMap h).length = true := decide_eq_true (Nat.le_trans (List.length_filterMap_le _ _) hz)
  rw [e_lc, hit]
  rcases hs with hs | ⟨i, hs, hi⟩
  · simp only [hs, lcS, lcL_fm ys hk, hz2, if_true]
  · let h' : D → Option D := fun x => match lcStep T vs tg cd e env x S1 with
      | some (o, _) => o
      | none => none
    have hh : ∀ y ∈ ys, h' (enc y) = h y := fun y hy => by simp only [h', hk y hy]
    have key := lcC_fm (stp := lcStep T vs tg cd e env) (h := h') hi (fun x hx => by
      obtain ⟨y, hy, rfl⟩ := List.mem_map.mp hx
      rw [hh y hy]; exact hk y hy) ((ys.map enc).length + 1) 0 (by omega)
    have e2 : (ys.map enc).filterMap h' = ys.filterMap h := by
      rw [List.filterMap_map]
      exact fm_congr fun y hy => hh y hy
    rw [List.drop_zero, e2] at key
    simp only [hs, lcS, hi, key, hz2, if_true]
/-- a filter and a map -/
theorem E_lcf {vs : List Nat} {tg : Tg} {k : Nat} {it : List IE} {cd : Option IE} {e : IE} {cell : Bool} {α : Type} {enc g : α → D} {c : α → Bool} {ys : List α} {ds : List D} {S S1 : Store} (hit : evL T it env S = some (ds, S1)) (hs : Walk k ds S1 (ys.map enc))
    (hk : ∀ y ∈ ys, lcStep T vs tg cd e env (enc y) S1 = some (if c y then some (g y) else none, S1)) (hz : ys.length ≤ 100000) : evE T (.lc cell vs tg k it cd e) env S = some (newL cell ((ys.filter c).map g) S1) := by
  rw [E_lc hit hs hk hz, fm_if]
theorem E_lcm {vs : List Nat} {tg : Tg} {k : Nat} {it : List IE} {cd : Option IE} {e : IE} {cell : Bool} {α : Type} {enc g : α → D} {ys : List α} {ds : List D} {S S1 : Store} (hit : evL T it env S = some (ds, S1)) (hs : Walk k ds S1 (ys.map enc))
    (hk : ∀ y ∈ ys, lcStep T vs tg cd e env (enc y) S1 = some (some (g y), S1)) (hz : ys.length ≤ 100000) : evE T (.lc cell vs tg k it cd e) env S = some (newL cell (ys.map g) S1) := by
  rw [E_lc (h := fun y => some (g y)) hit hs hk hz, List.filterMap_eq_map']
/-! ### loops -/
theorem for_inv {stp : D → DEnv → Store → Option O} {P : List D → DEnv → Store → Prop} : ∀ (xs done : List D) (env : DEnv) (S : Store), (∀ done' x rest, done' ++ x :: rest = done ++ xs → ∀ env S, P done' env S → ∃ env1 S1, stp x env S = some (.nx env1 S1) ∧ P (done' ++ [x]) env1 S1) → P done env S →
    ∃ env1 S1, forL stp xs env S = some (.nx env1 S1) ∧ P (done ++ xs) env1 S1
  | [], done, env, S, _, h => ⟨env, S, rfl, by simpa using h⟩
  | x :: xs, done, env, S, k, h => by
    obtain ⟨env1, S1, e1, h1⟩ := k done x xs rfl env S h
    obtain ⟨env2, S2, e2, h2⟩ := for_inv xs (done ++ [x]) env1 S1 (fun d' y r e => k d' y r (by simpa using e)) h1
    refine ⟨env2, S2, ?_, by simpa using h2⟩
    rw [forL, e1]
    exact e2
def forStep (T : Tab) (tg : Tg) (b : List IS) : D → DEnv → Store → Option O := fun x env2 S2 => match setT S2 tg x env2 with
  | some env3 => exL T b env3 S2
  | none => none
theorem s_for (tg : Tg) (k : Nat) (it : List IE) (b : List IS) : ex T (.for tg k it b) env S = (match evL T it env S with
    | some (ds, S1) => match srcD k ds S1 with
      | some s => forS (forStep T tg b) s env S1
      | none => none
    | none => none) := by rw [ex]; rfl
/-- a loop over items, its state told by what is done -/
theorem E_for {tg : Tg} {k : Nat} {it : List IE} {b : List IS} {α : Type} {enc : α → D} {ys : List α} {ds : List D} {S S1 : Store} (P : List α → DEnv → Store → Prop) (hit : evL T it env S = some (ds, S1)) (hs : srcD k ds S1 = some (.items (ys.map enc)))
    (h0 : P [] env S1) (hk : ∀ done y rest, done ++ y :: rest = ys → ∀ env S, P done env S → ∃ env1 S1, forStep T tg b (enc y) env S = some (.nx env1 S1) ∧ P (done ++ [y]) env1 S1) : ∃ env1 S1, ex T (.for tg k it b) env S = some (.nx env1 S1) ∧ P ys env1 S1 := by
  obtain ⟨env1, S2, e, h⟩ := for_inv (stp := forStep T tg b) (P := fun done env S => ∃ done', done = done'.map enc ∧ (∃ rest, done' ++ rest = ys) ∧ P done' env S) (ys.map enc) [] env S1 (by
    rintro done x rest hd env S ⟨done', rfl, ⟨rest', hr⟩, hP⟩
    rw [List.nil_append, ← hr, List.map_append] at hd
    have hd' := List.append_cancel_left hd
    cases rest' with
    | nil => cases hd'
    | cons y rest' =>
      simp only [List.map_cons, List.cons.injEq] at hd'
      obtain ⟨rfl, _⟩ := hd'
      obtain ⟨env1, S1, e, h⟩ := hk done' y rest' hr env S hP
      exact ⟨env1, S1, e, done' ++ [y], by simp, ⟨rest', by simpa using hr⟩, h⟩) ⟨[], rfl, ⟨ys, rfl⟩, h0⟩
  obtain ⟨done', hd, ⟨rest, hr⟩, hP⟩ := h
  refine ⟨env1, S2, ?_, ?_⟩
  · rw [s_for, hit]
    simp only [hs, forS, e]
  · rw [List.nil_append] at hd
    have hl := congrArg List.length hd
    have hl2 := congrArg List.length hr
    simp at hl hl2
    have : rest = [] := List.eq_nil_of_length_eq_zero (by omega)
    subst this
    rw [List.append_nil] at hr
    subst hr
    exact hP
end Sp

set_option Elab.async false
set_option linter.all false
set_option maxRecDepth 100000
namespace Sp
open LN LP
/-! ### names -/
abbrev Nm := List Nat
def nmOk (x : Nm) : Bool := decide (1 ≤ x.length) && (decide (x.length ≤ 8) && x.all fun c => decide (97 ≤ c) && decide (c ≤ 122))
theorem nmOk_len {x : Nm} (h : nmOk x = true) : 1 ≤ x.length ∧ x.length ≤ 8 := by
  simp only [nmOk, Bool.and_eq_true, decide_eq_true_eq] at h; exact ⟨h.1, h.2.1⟩
theorem nmOk_c {x : Nm} (h : nmOk x = true) : ∀ c ∈ x, 97 ≤ c ∧ c ≤ 122 := by
  simp only [nmOk, Bool.and_eq_true, decide_eq_true_eq, List.all_eq_true] at h; exact h.2.2
abbrev iD (i : Nat) : D := .int (i : Int)
abbrev sD (s : Nm) : D := .str s
def letters : Nm := [97,98,99,100,101,102,103,104,105,106,107,108,109,110,111,112,113,114,115,116,117,118,119,120,121,122]
theorem lett {c : Nat} (h : 97 ≤ c ∧ c ≤ 122) : letters.contains c = true := by
  have : ∀ k : Fin 26, letters.contains (97 + k.val) = true := by decide
  have := this ⟨c - 97, by omega⟩
  rwa [show 97 + (c - 97) = c by omega] at this
theorem lett' {c : Nat} (h : 97 ≤ c ∧ c ≤ 122) : c ∈ letters := by simpa using lett h
variable {p : Prog}
theorem c3 (hp : Has p [3]) {n : Nat} (hn : 1 ≤ n) (i : Int) (S : Store) : (tabN p n).fn 3 [.int i] S = some (.bl true, S) := by
  obtain ⟨m, rfl⟩ : ∃ m, n = m + 1 := ⟨n - 1, by omega⟩
  rw [fn_at (d := D3) (hp 3 (by decide))]
  refine run_0 (d := .bl true) (S1 := []) rfl (by simp) rfl ?_ (frz_pure rfl _) S
  simp [D3, B3, startD, isiL, isi1, isiB]
theorem c3s (hp : Has p [3]) {n : Nat} (hn : 1 ≤ n) (s : Nm) (S : Store) : (tabN p n).fn 3 [.str s] S = some (.bl false, S) := by
  obtain ⟨m, rfl⟩ : ∃ m, n = m + 1 := ⟨n - 1, by omega⟩
  rw [fn_at (d := D3) (hp 3 (by decide))]
  refine run_0 (d := .bl false) (S1 := []) rfl (by simp) rfl ?_ (frz_pure rfl _) S
  simp [D3, B3, startD, isiL, isi1, isiB]
theorem c4 (hp : Has p [3, 4]) {n : Nat} (hn : 2 ≤ n) (i lo hi : Int) (S : Store) : (tabN p n).fn 4 [.int i, .int lo, .int hi] S = some (.bl (decide (lo ≤ i ∧ i ≤ hi)), S) := by
  obtain ⟨m, rfl⟩ : ∃ m, n = m + 1 := ⟨n - 1, by omega⟩
  rw [fn_at (d := D4) (hp 4 (by decide))]
  refine run_0 (d := .bl (decide (lo ≤ i ∧ i ≤ hi))) (S1 := []) rfl (by simp) rfl ?_ (frz_pure rfl _) S
  have h3 := fun S => c3 (n := m) (hp.mono (by decide)) (by omega) i S
  by_cases h1 : lo ≤ i <;> by_cases h2 : i ≤ hi <;> simp [D4, B4, startD, h3, h1, h2]
theorem c5 (hp : Has p [5]) {n : Nat} (hn : 1 ≤ n) {x : Nm} (hx : nmOk x = true) (S : Store) : (tabN p n).fn 5 [.str x] S = some (.bl true, S) := by
  obtain ⟨m, rfl⟩ : ∃ m, n = m + 1 := ⟨n - 1, by omega⟩
  rw [fn_at (d := D5) (hp 5 (by decide))]
  refine run_0 (d := .bl true) (S1 := []) rfl (by simp) rfl ?_ (frz_pure rfl _) S
  obtain ⟨l1, l2⟩ := nmOk_len hx
  have hz : szOk x.length = true := decide_eq_true (by omega)
  have l1' : (1 : Int) ≤ x.length := by omega
  have l2' : (x.length : Int) ≤ 8 := by omega
  have hlc := E_lcm (T := tabN p m) (env := startD 2 [.str x]) (vs := [1]) (tg := .nm 1) (k := 0) (it := [.var 0]) (cd := none) (e := .p2 .inn (.var 1) (.con (.str letters))) (cell := false) (enc := fun c => D.str [c]) (g := fun _ => .bl true) (ys := x) (ds := [.str x]) (S := []) (S1 := [])
    (by simp [startD]) (.inl (by simp [srcD, hz])) (fun c hc => by simp [lcStep, startD, wipeD, inS, lett' (nmOk_c hx c hc)]) (by omega)
  have hb : ∀ x : Nm, x.map (fun _ => D.bl true) = (x.map fun _ => true).map .bl := fun x => by rw [List.map_map]; rfl
  have hall : (x.map fun _ => true).all id = true := by simp
  simp only [letters, nl_f] at hlc
  have hst : startD D5.nn [D.str x] = startD 2 [.str x] := rfl
  have h1 : ex (tabN p m) (B5.getD 0 .nev) (startD 2 [.str x]) [] = some (.nx (startD 2 [.str x]) []) := by
    simp [B5, List.getD, startD, hz, l1', l2', isiL, isi1, isiB]
  have h2 : ex (tabN p m) (B5.getD 1 .nev) (startD 2 [.str x]) [] = some (.rt (.bl true) []) := by
    show ex (tabN p m) (.ret (.pb .all false [_])) _ _ = _
    rw [s_ret, e_pb, l_cons, hlc]
    simp only [l_nil]
    rw [hb, b_all, hall]
  exact s_nx h1 (s_rt h2)
theorem c28l (hp : Has p [28]) {n : Nat} (hn : 1 ≤ n) {xs : List D} (hx : pureL xs = true) (S : Store) : (tabN p n).fn 28 [.lst xs] S = some (.bl true, S) := by
  obtain ⟨m, rfl⟩ : ∃ m, n = m + 1 := ⟨n - 1, by omega⟩
  rw [fn_at (d := D28) (hp 28 (by decide))]
  refine run_0 (d := .bl true) (S1 := []) rfl (by simp [hx]) rfl ?_ (frz_pure rfl _) S
  simp [D28, B28, startD, isiL, isi1, isiB]
theorem c28t (hp : Has p [28]) {n : Nat} (hn : 1 ≤ n) {xs : List D} (hx : pureL xs = true) (S : Store) : (tabN p n).fn 28 [.tup xs] S = some (.bl true, S) := by
  obtain ⟨m, rfl⟩ : ∃ m, n = m + 1 := ⟨n - 1, by omega⟩
  rw [fn_at (d := D28) (hp 28 (by decide))]
  refine run_0 (d := .bl true) (S1 := []) rfl (by simp [hx]) rfl ?_ (frz_pure rfl _) S
  simp [D28, B28, startD, isiL, isi1, isiB]
end Sp

set_option Elab.async false
set_option linter.all false
set_option maxRecDepth 100000
namespace Sp
open LN LP
variable {p : Prog}
@[simp] theorem pu_strs (xs : List Nm) : pureL (xs.map D.str) = true := pureL_map (fun _ => rfl) xs
@[simp] theorem pu_ints (xs : List Int) : pureL (xs.map D.int) = true := pureL_map (fun _ => rfl) xs
@[simp] theorem pu_nats (xs : List Nat) : pureL (xs.map iD) = true := pureL_map (fun _ => rfl) xs
/-! ### each once -/
def once {α : Type} [DecidableEq α] (xs : List α) : List α := xs.foldl (fun acc x => if x ∈ acc then acc else acc ++ [x]) []
theorem hasK_iff {j : DK} : ∀ {ks : List DK}, hasK ks j = true ↔ j ∈ ks
  | [] => by simp [hasK]
  | k :: ks => by
    unfold hasK
    by_cases h : k = j
    · simp [h]
    · rw [if_neg h, hasK_iff, List.mem_cons]
      exact ⟨.inr, fun q => q.elim (fun e => (h e.symm).elim) id⟩
def dkStep (T : Tab) (vs : List Nat) (tg : Tg) (cd : Option IE) (kx vx : IE) (env : DEnv) : D → Store → Option (Option (DK × D) × Store) := fun x S2 => match setT S2 tg x (wipeD env vs) with
          | some env2 => match evC T cd env2 S2 with
            | some (true, S3) => match evE T kx env2 S3 with
              | some (y, S4) => match evE T vx env2 S4 with
                | some (z, S5) => match keyD y with
                  | some j => some (some (j, z), S5)
                  | none => none
                | none => none
              | none => none
            | some (false, S3) => some (none, S3)
            | none => none
          | none => none
theorem e_dc {T : Tab} {env : DEnv} {S : Store} (vs : List Nat) (tg : Tg) (k : Nat) (it : List IE) (cd : Option IE) (kx vx : IE) : evE T (.dc vs tg k it cd kx vx) env S = (match evL T it env S with
    | some (ds, S1) => match srcD k ds S1 with
      | some s => match dcS (dkStep T vs tg cd kx vx env) s S1 with
        | some (r, S5) => some (.obj S5.length, S5 ++ [.dct r.1 r.2])
        | none => none
      | none => none
    | none => none) := by rw [evE] <;> rfl
def onceFrom {α : Type} [DecidableEq α] (acc xs : List α) : List α := xs.foldl (fun acc x => if x ∈ acc then acc else acc ++ [x]) acc
theorem onceFrom_len {α : Type} [DecidableEq α] : ∀ (xs acc : List α), (onceFrom acc xs).length ≤ acc.length + xs.length
  | [], acc => by simp [onceFrom]
  | x :: xs, acc => by
    show (onceFrom (if x ∈ acc then acc else acc ++ [x]) xs).length ≤ _
    have := onceFrom_len xs (if x ∈ acc then acc else acc ++ [x])
    split at this <;> split <;> simp_all <;> omega
theorem mem_onceFrom {α : Type} [DecidableEq α] {x : α} : ∀ {xs acc : List α}, x ∈ onceFrom acc xs ↔ x ∈ acc ∨ x ∈ xs
  | [], acc => by simp [onceFrom]
  | a :: xs, acc => by
    show x ∈ onceFrom (if a ∈ acc then acc else acc ++ [a]) xs ↔ _
    rw [mem_onceFrom]
    by_cases h : a ∈ acc
    · rw [if_pos h, List.mem_cons]
      exact ⟨fun q => q.elim .inl fun q => .inr (.inr q), fun q => q.elim .inl fun q => q.elim (fun e => .inl (e ▸ h)) .inr⟩
    · rw [if_neg h, List.mem_append, List.mem_cons, List.mem_cons, or_assoc]
      simp
theorem mem_once {α : Type} [DecidableEq α] {x : α} {xs : List α} : x ∈ once xs ↔ x ∈ xs := by
  show x ∈ onceFrom [] xs ↔ _
  rw [mem_onceFrom]; simp
theorem dcL_once {stp : D → Store → Option (Option (DK × D) × Store)} {S : Store} {α : Type} [DecidableEq α] {enc : α → D} {key : α → DK} (inj : ∀ a b, key a = key b → a = b) (hk : ∀ a, stp (enc a) S = some (some (key a, .bl true), S)) : ∀ (xs acc : List α), acc.length + xs.length < 100000 →
    dcL stp (xs.map enc) (acc.map key) (acc.map fun _ => .bl true) S = some (((onceFrom acc xs).map key, (onceFrom acc xs).map fun _ => .bl true), S)
  | [], acc, _ => rfl
  | x :: xs, acc, hl => by
    rw [List.map_cons, dcL, hk]
    simp only [List.length_map, List.length_cons] at hl ⊢
    rw [if_pos (by omega)]
    have hmem : hasK (acc.map key) (key x) = true ↔ x ∈ acc := by
      rw [hasK_iff, List.mem_map]
      exact ⟨fun ⟨a, ha, e⟩ => inj _ _ e ▸ ha, fun h => ⟨x, h, rfl⟩⟩
    have hmap : ∀ (l : List α), mapK (l.map key) (l.map fun _ => D.bl true) (key x) (.bl true) = l.map fun _ => D.bl true := fun l => by
      induction l with
      | nil => rfl
      | cons a l ih => simp [mapK, ih]
    show dcL stp (xs.map enc) (putK2 (acc.map key) (acc.map fun _ => .bl true) (key x) (.bl true)).1 (putK2 (acc.map key) (acc.map fun _ => .bl true) (key x) (.bl true)).2 S = _
    by_cases h : x ∈ acc
    · have e : putK2 (acc.map key) (acc.map fun _ => D.bl true) (key x) (.bl true) = (acc.map key, acc.map fun _ => D.bl true) := by
        rw [putK2, if_pos (hmem.mpr h), hmap]
      rw [e, show onceFrom acc (x :: xs) = onceFrom acc xs by simp [onceFrom, h]]
      exact dcL_once inj hk xs acc (by omega)
    · have e : putK2 (acc.map key) (acc.map fun _ => D.bl true) (key x) (.bl true) = ((acc ++ [x]).map key, (acc ++ [x]).map fun _ => D.bl true) := by
        rw [putK2, if_neg (fun q => h (hmem.mp q))]; simp
      rw [e, show onceFrom acc (x :: xs) = onceFrom (acc ++ [x]) xs by simp [onceFrom, h]]
      exact dcL_once inj hk xs (acc ++ [x]) (by simp; omega)
theorem c29 (hp : Has p [29]) {n : Nat} (hn : 1 ≤ n) {xs : List Nm} (hl : xs.length < 100000) (S : Store) : (tabN p n).fn 29 [.lst (xs.map .str)] S = some (.lst ((once xs).map .str), S) := by
  obtain ⟨m, rfl⟩ : ∃ m, n = m + 1 := ⟨n - 1, by omega⟩
  rw [fn_at (d := D29) (hp 29 (by decide))]
  have hd := dcL_once (stp := dkStep (tabN p m) [1] (.nm 1) none (.var 1) (.con (.bl true)) (startD 2 [.lst (xs.map .str)])) (S := []) (enc := D.str) (key := fun s => (Sum.inr s : DK)) (fun a b e => by cases e; rfl) (fun a => by simp [dkStep, startD, wipeD, keyD]) xs [] (by simpa using hl)
  have he : evE (tabN p m) (.dc [1] (.nm 1) 0 [.var 0] none (.var 1) (.con (.bl true))) (startD 2 [.lst (xs.map .str)]) [] = some (.obj 0, [.dct ((once xs).map Sum.inr) ((once xs).map fun _ => .bl true)]) := by
    rw [e_dc]
    simp only [l_cons, l_nil, e_var, startD]
    simp only [List.map_nil] at hd
    simp [srcD, dcS]
    rw [show startD 2 [D.lst (xs.map D.str)] = [some (D.lst (xs.map D.str)), none] from rfl] at hd
    rw [hd]
    simp [onceFrom, once]
  refine run_0 (d := .lst ((once xs).map .str)) (S1 := [.dct ((once xs).map Sum.inr) ((once xs).map fun _ => .bl true)]) rfl (by simp) rfl ?_ (frz_pure (by simp) _) S
  refine s_rt ?_
  show ex (tabN p m) (.ret (.pb .list false [.dc [1] (.nm 1) 0 [.var 0] none (.var 1) (.con (.bl true))])) (startD 2 _) [] = _
  rw [s_ret, e_pb, l_cons, he]
  simp only [l_nil]
  rw [b_listd (j := 0) rfl]
  simp [List.map_map, Function.comp_def, dkD]
theorem c30 (hp : Has p [29, 30]) {n : Nat} (hn : 2 ≤ n) {xs : List Nm} (hl : xs.length < 100000) (hx : ∀ x ∈ xs, x.length ≤ 100000) (S : Store) : (tabN p n).fn 30 [.lst (xs.map .str)] S = some (.lst ((sortLN (once xs)).map .str), S) := by
  obtain ⟨m, rfl⟩ : ∃ m, n = m + 1 := ⟨n - 1, by omega⟩
  rw [fn_at (d := D30) (hp 30 (by decide))]
  have h29 := fun S => c29 (n := m) (hp.mono (by decide)) (by omega) hl S
  have hm : ∀ x ∈ once xs, x ∈ xs := fun x h => mem_once.mp h
  have hol : (once xs).length ≤ 100000 := by
    have := onceFrom_len xs ([] : List Nm)
    have e : once xs = onceFrom [] xs := rfl
    rw [e]; simp at this; omega
  have hs : ((once xs).all fun s => szOk s.length) = true := List.all_eq_true.mpr fun s h => decide_eq_true (hx s (hm s h))
  have hb : ∀ S, pb .sortLN [.lst ((once xs).map .str)] S = some (.l ((sortLN (once xs)).map .str)) := fun S => by
    simp only [pb, lstD, List.length_map, szOk, decide_eq_true hol, if_true, strsD_strs]
    have hs' : ((once xs).all fun s => decide (s.length ≤ 100000)) = true := hs
    simp only [hs', if_true]
  refine run_0 (d := .lst ((sortLN (once xs)).map .str)) (S1 := []) rfl (by simp) rfl ?_ (frz_pure (by simp) _) S
  refine s_rt ?_
  show ex (tabN p m) (.ret (.pb .sortLN false [.call 29 [.var 0]])) (startD 1 _) [] = _
  simp [startD, h29, hb]
end Sp

set_option Elab.async false
set_option linter.all false
set_option maxRecDepth 100000
namespace Sp
open LN LP PySem
variable {p : Prog}
/-! ### equality of data -/
def sOk (s : Nm) : Bool := s.all fun c => decide (c < 0x110000)
theorem sOk_nm {x : Nm} (h : nmOk x = true) : sOk x = true := List.all_eq_true.mpr fun c hc => decide_eq_true (by have := nmOk_c h c hc; omega)
theorem str_beq (a b : Nm) : ((⟨a.toArray⟩ : Str) == ⟨b.toArray⟩) = decide (a = b) := by
  rw [Bool.eq_iff_iff, beq_iff_eq, decide_eq_true_eq]
  exact ⟨fun h => by injection h with h; simpa using h, fun h => by rw [h]⟩
theorem shp_str {a : Nm} (h : sOk a = true) : shp (.str ⟨a.toArray⟩) = true := by
  have : PyData.strOk ⟨a.toArray⟩ = true := by simpa [PyData.strOk, sOk] using h
  simp [shp, SeqAt.shaped, PyData.canLay0, PyData.depth, this]
theorem eq_str {a b : Nm} (ha : sOk a = true) (hb : sOk b = true) (S : Store) : eqS S (.str a) (.str b) = some (decide (a = b)) := by
  simp only [eqS, pyS, pyD, shp_str ha, shp_str hb, Bool.and_self, if_true, PyData.eqv, str_beq]
@[simp] theorem eq_int (i j : Int) (S : Store) : eqS S (.int i) (.int j) = some (decide (i = j)) := by
  have h : ∀ i, shp (.int i) = true := fun i => by simp [shp, SeqAt.shaped, PyData.canLay0, PyData.depth]
  simp only [eqS, pyS, pyD, h, Bool.and_self, if_true, PyData.eqv]
  congr 1
theorem eq_strint {a : Nm} (ha : sOk a = true) (i : Int) (S : Store) : eqS S (.str a) (.int i) = some false := by
  have h : ∀ i, shp (.int i) = true := fun i => by simp [shp, SeqAt.shaped, PyData.canLay0, PyData.depth]
  simp only [eqS, pyS, pyD, shp_str ha, h, Bool.and_self, if_true, PyData.eqv]
theorem eq_intstr {a : Nm} (ha : sOk a = true) (i : Int) (S : Store) : eqS S (.int i) (.str a) = some false := by
  have h : ∀ i, shp (.int i) = true := fun i => by simp [shp, SeqAt.shaped, PyData.canLay0, PyData.depth]
  simp only [eqS, pyS, pyD, shp_str ha, h, Bool.and_self, if_true, PyData.eqv]
/-! ### trees -/
inductive Tr where
  | use (x : Nm)
  | join (l : Nm) (ps : List Tr)
  | bind (x : Nm) (a : List Tr) (b : Tr)
abbrev us : Nm := [117,115,101]
abbrev jo : Nm := [106,111,105,110]
abbrev bi : Nm := [98,105,110,100]
mutual
def Tr.d : Tr → D
  | .use x => .tup [.str us, .str x]
  | .join l ps => .tup [.str jo, .str l, .tup (dL ps)]
  | .bind x a b => .tup [.str bi, .str x, .tup (dL a), b.d]
def dL : List Tr → List D
  | [] => []
  | t :: ts => t.d :: dL ts
end
theorem dL_map : ∀ ts : List Tr, dL ts = ts.map Tr.d
  | [] => by rw [dL]; rfl
  | t :: ts => by rw [dL, dL_map ts]; rfl
mutual
def Tr.ok : Tr → Bool
  | .use x => nmOk x
  | .join l ps => nmOk l && okL ps
  | .bind x a b => nmOk x && (okL a && b.ok)
def okL : List Tr → Bool
  | [] => true
  | t :: ts => t.ok && okL ts
end
mutual
def Tr.dp : Tr → Nat
  | .use _ => 1
  | .join _ ps => 1 + dpL ps
  | .bind _ a b => 1 + max (dpL a) b.dp
def dpL : List Tr → Nat
  | [] => 0
  | t :: ts => max t.dp (dpL ts)
end
mutual
def Tr.sz : Tr → Nat
  | .use _ => 1
  | .join _ ps => 1 + szL ps
  | .bind _ a b => 1 + szL a + b.sz
def szL : List Tr → Nat
  | [] => 0
  | t :: ts => t.sz + szL ts
end
theorem okL_all : ∀ {ts : List Tr}, okL ts = true ↔ ∀ t ∈ ts, t.ok = true
  | [] => by simp [okL]
  | t :: ts => by simp [okL, okL_all (ts := ts)]
theorem dpL_le : ∀ {ts : List Tr} {t : Tr}, t ∈ ts → t.dp ≤ dpL ts
  | [], _, h => by cases h
  | a :: ts, t, h => by
    rw [dpL]
    rcases List.mem_cons.mp h with rfl | h
    · exact Nat.le_max_left _ _
    · exact Nat.le_trans (dpL_le h) (Nat.le_max_right _ _)
theorem szL_le : ∀ {ts : List Tr} {t : Tr}, t ∈ ts → t.sz ≤ szL ts
  | [], _, h => by cases h
  | a :: ts, t, h => by
    rw [szL]
    rcases List.mem_cons.mp h with rfl | h
    · omega
    · have := szL_le h; omega
theorem sz_pos : ∀ t : Tr, 1 ≤ t.sz
  | .use _ => by rw [Tr.sz]; omega
  | .join _ _ => by rw [Tr.sz]; omega
  | .bind _ _ _ => by rw [Tr.sz]; omega
theorem szL_len : ∀ ts : List Tr, ts.length ≤ szL ts
  | [] => by simp
  | t :: ts => by rw [szL]; have := szL_len ts; have := sz_pos t; simp; omega
mutual
theorem pu_tr : ∀ t : Tr, pureD t.d = true
  | .use x => by rw [Tr.d]; simp
  | .join l ps => by rw [Tr.d]; simp [pu_trL ps]
  | .bind x a b => by rw [Tr.d]; simp [pu_trL a, pu_tr b]
theorem pu_trL : ∀ ts : List Tr, pureL (dL ts) = true
  | [] => by rw [dL]; rfl
  | t :: ts => by rw [dL]; simp [pu_tr t, pu_trL ts]
end
def root : Tr → Nm
  | .use _ => us
  | .join _ _ => jo
  | .bind _ _ _ => bi
def label : Tr → Nm
  | .use x => x
  | .join l _ => l
  | .bind x _ _ => x
theorem ix0 (t : Tr) (S : Store) : p2 .idx t.d (.int 0) S = some (.str (root t)) := by
  cases t <;> simp [Tr.d, ixD, root]
theorem ix1 (t : Tr) (S : Store) : p2 .idx t.d (.int 1) S = some (.str (label t)) := by
  cases t <;> simp [Tr.d, ixD, label]
theorem eq_us (t : Tr) (S : Store) : eqS S (.str (root t)) (.str us) = some (decide (root t = us)) := eq_str (by cases t <;> rfl) rfl S
theorem eq_jo (t : Tr) (S : Store) : eqS S (.str (root t)) (.str jo) = some (decide (root t = jo)) := eq_str (by cases t <;> rfl) rfl S
theorem eq_bi (t : Tr) (S : Store) : eqS S (.str (root t)) (.str bi) = some (decide (root t = bi)) := eq_str (by cases t <;> rfl) rfl S
theorem all_true {α : Type} (xs : List α) : (xs.map fun _ => true).all id = true := by simp
theorem map_true {α : Type} (xs : List α) : xs.map (fun _ => D.bl true) = (xs.map fun _ => true).map .bl := by rw [List.map_map]; rfl
theorem c7_of {n : Nat} (hp : Has p [5, 6, 7]) {ts : List Tr} (hl : ts.length ≤ 100000) (h6 : ∀ t ∈ ts, ∀ S, (tabN p n).fn 6 [t.d] S = some (.bl true, S)) (S : Store) : (tabN p (n + 1)).fn 7 [.tup (dL ts)] S = some (.bl true, S) := by
  rw [fn_at (d := D7) (hp 7 (by decide))]
  refine run_0 (d := .bl true) (S1 := []) rfl (by simp [pu_trL]) rfl ?_ (frz_pure rfl _) S
  have hlc := E_lcm (T := tabN p n) (env := startD 2 [.tup (dL ts)]) (vs := [1]) (tg := .nm 1) (k := 0) (it := [.var 0]) (cd := none) (e := .call 6 [.var 1]) (cell := false) (enc := Tr.d) (g := fun _ => .bl true) (ys := ts) (ds := [.tup (dL ts)]) (S := []) (S1 := [])
    (by simp [startD]) (.inl (by simp [srcD, dL_map])) (fun t ht => by simp [lcStep, startD, wipeD, h6 t ht]) hl
  refine s_rt ?_
  show ex (tabN p n) (.ret (.and (.isi [.bt .tup] (.var 0)) (.pb .all false [.lc false [1] (.nm 1) 0 [.var 0] none (.call 6 [.var 1])]))) (startD 2 _) [] = _
  have hi : evE (tabN p n) (.isi [.bt .tup] (.var 0)) (startD 2 [.tup (dL ts)]) [] = some (.bl true, []) := by simp [startD, isiL, isi1, isiB]
  have hb : evE (tabN p n) (.pb .all false [.lc false [1] (.nm 1) 0 [.var 0] none (.call 6 [.var 1])]) (startD 2 [.tup (dL ts)]) [] = some (.bl true, []) := by
    rw [e_pb, l_cons, hlc]
    simp only [l_nil, nl_f]
    rw [map_true, b_all, all_true]
  rw [s_ret, e_and, hi]
  simp only [hb]
mutual
theorem c6 (hp : Has p [5, 6, 7]) : ∀ (t : Tr) (n : Nat), 2 * t.dp + 1 ≤ n → t.ok = true → t.sz ≤ 100000 → ∀ S, (tabN p n).fn 6 [t.d] S = some (.bl true, S)
  | .use x, n, hn, hok, hz, S => by
    obtain ⟨m, rfl⟩ : ∃ m, n = m + 1 := ⟨n - 1, by omega⟩
    rw [Tr.dp] at hn
    rw [Tr.ok] at hok
    have h5 := fun S => c5 (p := p) (n := m) (hp.mono (by decide)) (by omega) hok S
    rw [fn_at (d := D6) (hp 6 (by decide))]
    refine run_0 (d := .bl true) (S1 := []) rfl (by simp [pu_tr]) rfl ?_ (frz_pure rfl _) S
    have e1 := eq_us (.use x); have e2 := eq_jo (.use x); have e3 := eq_bi (.use x)
    simp [root] at e1 e2 e3
    simp [D6, B6, startD, Tr.d, isiL, isi1, isiB, ixD, h5, e1, e2, e3]
  | .join l ps, n, hn, hok, hz, S => by
    obtain ⟨m, rfl⟩ : ∃ m, n = m + 2 := ⟨n - 2, by rw [Tr.dp] at hn; omega⟩
    rw [Tr.dp] at hn
    rw [Tr.sz] at hz
    rw [Tr.ok, Bool.and_eq_true] at hok
    have h5 := fun S => c5 (p := p) (n := m + 1) (hp.mono (by decide)) (by omega) hok.1 S
    have h7 := fun S => c7_of (n := m) hp (ts := ps) (by have := szL_len ps; omega) (c6L hp ps m (by omega) hok.2 (by omega)) S
    rw [fn_at (d := D6) (hp 6 (by decide))]
    refine run_0 (d := .bl true) (S1 := []) rfl (by simp [pu_tr]) rfl ?_ (frz_pure rfl _) S
    have e1 := eq_us (.join l ps); have e2 := eq_jo (.join l ps); have e3 := eq_bi (.join l ps)
    simp [root] at e1 e2 e3
    simp [D6, B6, startD, Tr.d, isiL, isi1, isiB, ixD, h5, h7, e1, e2, e3]
  | .bind x a b, n, hn, hok, hz, S => by
    obtain ⟨m, rfl⟩ : ∃ m, n = m + 2 := ⟨n - 2, by rw [Tr.dp] at hn; omega⟩
    rw [Tr.dp] at hn
    rw [Tr.sz] at hz
    rw [Tr.ok, Bool.and_eq_true, Bool.and_eq_true] at hok
    have h5 := fun S => c5 (p := p) (n := m + 1) (hp.mono (by decide)) (by omega) hok.1 S
    have h7 := fun S => c7_of (n := m) hp (ts := a) (by have := szL_len a; omega) (c6L hp a m (by omega) hok.2.1 (by omega)) S
    have h6 := c6 hp b (m + 1) (by omega) hok.2.2 (by omega)
    rw [fn_at (d := D6) (hp 6 (by decide))]
    refine run_0 (d := .bl true) (S1 := []) rfl (by simp [pu_tr]) rfl ?_ (frz_pure rfl _) S
    have e1 := eq_us (.bind x a b); have e2 := eq_jo (.bind x a b); have e3 := eq_bi (.bind x a b)
    simp [root] at e1 e2 e3
    simp [D6, B6, startD, Tr.d, isiL, isi1, isiB, ixD, h5, h7, h6, e1, e2, e3]
theorem c6L (hp : Has p [5, 6, 7]) : ∀ (ts : List Tr) (n : Nat), 2 * dpL ts + 1 ≤ n → okL ts = true → szL ts ≤ 100000 → ∀ t ∈ ts, ∀ S, (tabN p n).fn 6 [t.d] S = some (.bl true, S)
  | [], _, _, _, _, t, h => by cases h
  | a :: ts, n, hn, hok, hz, t, h => by
    rw [dpL] at hn
    rw [szL] at hz
    rw [okL, Bool.and_eq_true] at hok
    rcases List.mem_cons.mp h with e | h
    · rw [e]; exact c6 hp a n (by omega) hok.1 (by omega)
    · exact c6L hp ts n (by omega) hok.2 (by omega) t h
end
end Sp

set_option Elab.async false
set_option linter.all false
set_option maxRecDepth 100000
namespace Sp
open LN LP PySem
variable {p : Prog}
def parts : Tr → List Tr
  | .use _ => []
  | .join _ ps => ps
  | .bind _ a b => a ++ [b]
theorem c8 (hp : Has p [8]) {n : Nat} (hn : 1 ≤ n) (t : Tr) (hz : t.sz ≤ 100000) (S : Store) : (tabN p n).fn 8 [t.d] S = some (.lst (dL (parts t)), S) := by
  obtain ⟨m, rfl⟩ : ∃ m, n = m + 1 := ⟨n - 1, by omega⟩
  rw [fn_at (d := D8) (hp 8 (by decide))]
  refine run_0 (d := .lst (dL (parts t))) (S1 := []) rfl (by simp [pu_tr]) rfl ?_ (frz_pure (by simp [pu_trL]) _) S
  have e1 := eq_us t; have e2 := eq_jo t
  have i0 := ix0 t
  cases t with
  | use x => simp [root] at e1 e2 i0; simp [D8, B8, startD, i0, e1, parts, dL, szOk]
  | join l ps => simp [root] at e1 e2 i0; simp [D8, B8, startD, i0, e1, e2, parts]; simp [Tr.d, ixD]
  | bind x a b =>
    rw [Tr.sz] at hz
    have h1 := szL_len a
    have h2 : szOk (a.length + 1) = true := decide_eq_true (by omega)
    simp [root] at e1 e2 i0; simp [D8, B8, startD, i0, e1, e2, parts]; simp [Tr.d, ixD, dL_map, h2]
def maxN (i : Nat) : List Nat → Nat
  | [] => i
  | d :: ds => if maxN d ds < i then i else maxN d ds
theorem maxI_nat : ∀ (ds : List Nat) (i : Nat), maxI ((i : Int) :: ds.map fun d : Nat => (d : Int)) = (maxN i ds : Int)
  | [], i => rfl
  | d :: ds, i => by
    rw [List.map_cons, maxI, maxI_nat ds d, maxN]
    · by_cases h : maxN d ds < i
      · rw [if_pos h]; simp [h]
      · rw [if_neg h]; simp [h]
    · intro h; cases h
theorem maxN_dp : ∀ (ts : List Tr) (i : Nat), maxN i (ts.map Tr.dp) = max i (dpL ts)
  | [], i => by simp [maxN, dpL]
  | t :: ts, i => by
    rw [List.map_cons, maxN, maxN_dp ts, dpL]
    split <;> omega
theorem c9_of (hp : Has p [8, 9]) (t : Tr) (n : Nat) (hn : 2 ≤ n) (hz : t.sz ≤ 90000) (h9 : ∀ u ∈ parts t, ∀ m, m = n - 1 → ∀ S, (tabN p m).fn 9 [u.d] S = some (iD u.dp, S)) (hd : t.dp = 1 + dpL (parts t)) (S : Store) : (tabN p n).fn 9 [t.d] S = some (iD t.dp, S) := by
  obtain ⟨m, rfl⟩ : ∃ m, n = m + 1 := ⟨n - 1, by omega⟩
  rw [fn_at (d := D9) (hp 9 (by decide))]
  refine run_0 (d := iD t.dp) (S1 := []) rfl (by simp [pu_tr]) rfl ?_ (frz_pure rfl _) S
  have h8 := fun S => c8 (p := p) (n := m) (hp.mono (by decide)) (by omega) t (by omega) S
  have hpl : (parts t).length ≤ 90001 := by
    cases t with
    | use x => simp [parts]
    | join l ps => rw [Tr.sz] at hz; have := szL_len ps; simp [parts]; omega
    | bind x a b => rw [Tr.sz] at hz; have := szL_len a; simp [parts]; omega
  have hlc := E_lcm (T := tabN p m) (env := startD 2 [t.d]) (vs := [1]) (tg := .nm 1) (k := 0) (it := [.call 8 [.var 0]]) (cd := none) (e := .pb .int false [.call 9 [.var 1]]) (cell := false) (enc := Tr.d) (g := fun u => iD u.dp) (ys := parts t) (ds := [.lst (dL (parts t))]) (S := []) (S1 := [])
    (by simp [startD, h8]) (.inl (by simp [srcD, dL_map])) (fun u hu => by simp [lcStep, startD, wipeD, h9 u hu m rfl]) (by omega)
  have hz1 : szOk (1 + (parts t).length) = true := decide_eq_true (by omega)
  refine s_rt ?_
  show ex (tabN p m) (.ret (.p2 .add (.con (.int 1)) (.pb .max false [.disp .lst [false, true] [.con (.int 0), .lc false [1] (.nm 1) 0 [.call 8 [.var 0]] none (.pb .int false [.call 9 [.var 1]])]]))) (startD 2 _) [] = _
  have hdis : evE (tabN p m) (.disp .lst [false, true] [.con (.int 0), .lc false [1] (.nm 1) 0 [.call 8 [.var 0]] none (.pb .int false [.call 9 [.var 1]])]) (startD 2 [t.d]) [] = some (.lst (((0 : Nat) :: (parts t).map Tr.dp).map iD), []) := by
    simp only [e_disp, p_cons, p_nil, e_con, hlc, nl_f, sq_lst, List.headD_cons, List.tail_cons, if_true, List.append_nil, Bool.false_eq_true, if_false, List.length_cons, List.length_map]
    rw [if_pos (by rw [Nat.add_comm]; exact hz1)]
    simp [List.map_map, Function.comp_def]
  have hmax : ∀ S, pb .max [.lst (((0 : Nat) :: (parts t).map Tr.dp).map iD)] S = some (.v (iD (dpL (parts t)))) := fun S => by
    have e : (((0 : Nat) :: (parts t).map Tr.dp).map iD) = (((0 : Nat) : Int) :: ((parts t).map Tr.dp).map fun d : Nat => (d : Int)).map D.int := by simp [List.map_map, Function.comp_def]
    have e2 : intsD (((0 : Nat) :: (parts t).map Tr.dp).map iD) = some (((0 : Nat) : Int) :: ((parts t).map Tr.dp).map fun d : Nat => (d : Int)) := by rw [e, intsD_ints]
    have e3 : pb .max [.lst (((0 : Nat) :: (parts t).map Tr.dp).map iD)] S = (intsD (((0 : Nat) :: (parts t).map Tr.dp).map iD)).map fun is => .v (.int (maxI is)) := by
      simp only [pb, lstD, List.map_cons]
    rw [e3, e2]
    simp only [Option.map_some, maxI_nat, maxN_dp]
    simp
  simp only [s_ret, e_p2, e_con, e_pb, l_cons, hdis, l_nil, hmax, o_add]
  rw [hd]
  simp
mutual
theorem c9 (hp : Has p [8, 9]) : ∀ (t : Tr) (n : Nat), t.dp + 1 ≤ n → t.sz ≤ 90000 → ∀ S, (tabN p n).fn 9 [t.d] S = some (iD t.dp, S)
  | .use x, n, hn, hz, S => c9_of hp (.use x) n (by rw [Tr.dp] at hn; omega) (by omega) (fun t ht => by simp [parts] at ht) (by simp [parts, dpL, Tr.dp]) S
  | .join l ps, n, hn, hz, S => by
    rw [Tr.dp] at hn; rw [Tr.sz] at hz
    refine c9_of hp (.join l ps) n (by omega) (by rw [Tr.sz]; omega) (fun t ht m hm S => ?_) (by rw [parts, Tr.dp]) S
    exact c9L hp ps (n - 1) (by omega) (by omega) t ht m (by omega) S
  | .bind x a b, n, hn, hz, S => by
    rw [Tr.dp] at hn; rw [Tr.sz] at hz
    refine c9_of hp (.bind x a b) n (by omega) (by rw [Tr.sz]; omega) (fun t ht m hm S => ?_) ?_ S
    · have hb := c9 hp b (n - 1) (by omega) (by omega)
      have ha := c9L hp a (n - 1) (by omega) (by omega)
      rcases List.mem_append.mp ht with h | h
      · exact ha t h m hm S
      · simp at h
        rw [h, hm]
        exact hb S
    · rw [parts, Tr.dp]
      have : ∀ (a : List Tr) (b : Tr), dpL (a ++ [b]) = max (dpL a) b.dp := fun a b => by
        induction a with
        | nil => simp [dpL]
        | cons x a ih => rw [List.cons_append, dpL, dpL, ih]; omega
      rw [this]
theorem c9L (hp : Has p [8, 9]) : ∀ (ts : List Tr) (n : Nat), dpL ts + 1 ≤ n → szL ts ≤ 90000 → ∀ t ∈ ts, ∀ m, m = n → ∀ S, (tabN p m).fn 9 [t.d] S = some (iD t.dp, S)
  | [], _, _, _, t, h, _, _, _ => by cases h
  | a :: ts, n, hn, hz, t, h, m, hm, S => by
    rw [dpL] at hn
    rw [szL] at hz
    rcases List.mem_cons.mp h with e | h
    · rw [e, hm]; exact c9 hp a n (by omega) (by omega) S
    · exact c9L hp ts n (by omega) (by omega) t h m hm S
end
end Sp

set_option Elab.async false
set_option linter.all false
set_option maxRecDepth 100000
namespace Sp
open LN LP PySem
variable {p : Prog}
/-- what is known of the classes Flat and Term -/
structure Kls (p : Prog) : Prop where
  k0 : p.ck 0 = true
  k1 : p.ck 1 = true
  m1 : p.mt 0 1 = some 11
  m2 : p.mt 1 2 = some 13
  f0 : ∀ f ∈ [1, 2, 3, 4], p.fl 0 f = true
  f1 : ∀ f ∈ [5, 6, 7, 3, 4, 8, 9, 10], p.fl 1 f = true
  i1 : p.ic 1 = true
/-! ### Flat -/
structure Fl where
  nodes : List Tr
  around : List (List Nat)
  bs : List Nat
  us : List Nat
def Fl.push (F : Fl) (t : Tr) (ar : List Nat) : Fl := { F with nodes := F.nodes ++ [t], around := F.around ++ [ar] }
mutual
def addT : Tr → List Nat → Fl → Fl
  | .use x, ar, F => { F.push (.use x) ar with us := F.us ++ [F.nodes.length] }
  | .join l ps, ar, F => addTs ps ar (F.push (.join l ps) ar)
  | .bind x a b, ar, F => addT b (ar ++ [F.bs.length]) (addTs a ar { F.push (.bind x a b) ar with bs := F.bs ++ [F.nodes.length] })
def addTs : List Tr → List Nat → Fl → Fl
  | [], _, F => F
  | t :: ts, ar, F => addTs ts ar (addT t ar F)
end
theorem addTs_snoc : ∀ (ts : List Tr) (t : Tr) (ar : List Nat) (F : Fl), addTs (ts ++ [t]) ar F = addT t ar (addTs ts ar F)
  | [], t, ar, F => by rw [List.nil_append, addTs, addTs, addTs]
  | a :: ts, t, ar, F => by rw [List.cons_append, addTs, addTs, addTs_snoc ts]
/-- bounds -/
structure Sm (F : Fl) (k : Nat) : Prop where
  n : F.nodes.length + k ≤ 50000
  a : F.around.length = F.nodes.length
  b : F.bs.length ≤ F.nodes.length
  u : F.us.length ≤ F.nodes.length
theorem Sm.mono {F : Fl} {k j : Nat} (h : Sm F k) (q : j ≤ k) : Sm F j := ⟨by have := h.n; omega, h.a, h.b, h.u⟩
mutual
theorem sm_add : ∀ (t : Tr) (ar : List Nat) (F : Fl) (k : Nat), Sm F (t.sz + k) → Sm (addT t ar F) k
  | .use x, ar, F, k, h => by
    rw [Tr.sz] at h
    rw [addT]
    obtain ⟨h1, h2, h3, h4⟩ := h
    exact ⟨by simp [Fl.push]; omega, by simp [Fl.push, h2], by simp [Fl.push]; omega, by simp [Fl.push]; omega⟩
  | .join l ps, ar, F, k, h => by
    rw [Tr.sz] at h
    rw [addT]
    obtain ⟨h1, h2, h3, h4⟩ := h
    exact sm_addL ps ar _ k ⟨by simp [Fl.push]; omega, by simp [Fl.push, h2], by simp [Fl.push]; omega, by simp [Fl.push]; omega⟩
  | .bind x a b, ar, F, k, h => by
    rw [Tr.sz] at h
    rw [addT]
    obtain ⟨h1, h2, h3, h4⟩ := h
    refine sm_add b _ _ k (sm_addL a ar _ (b.sz + k) ⟨by simp [Fl.push]; omega, by simp [Fl.push, h2], by simp [Fl.push]; omega, by simp [Fl.push]; omega⟩)
theorem sm_addL : ∀ (ts : List Tr) (ar : List Nat) (F : Fl) (k : Nat), Sm F (szL ts + k) → Sm (addTs ts ar F) k
  | [], ar, F, k, h => by rw [addTs]; rw [szL] at h; exact h.mono (by omega)
  | t :: ts, ar, F, k, h => by
    rw [addTs]
    rw [szL] at h
    exact sm_addL ts ar _ k (sm_add t ar F (szL ts + k) (h.mono (by omega)))
end
abbrev natsD (xs : List Nat) : List D := xs.map iD
def flI : Cell := .ins 0 [1, 2, 3, 4] [.obj 2, .obj 3, .obj 4, .obj 5]
def flS (c0 : Cell) (F : Fl) : Store := [c0, flI, .lst (dL F.nodes), .lst (F.around.map fun a => .tup (natsD a)), .lst (natsD F.bs), .lst (natsD F.us)]
theorem dL_app (xs ys : List Tr) : dL (xs ++ ys) = dL xs ++ dL ys := by simp [dL_map]
theorem dL_len (xs : List Tr) : (dL xs).length = xs.length := by simp [dL_map]
section
variable {T : Tab} {c0 : Cell} {F : Fl} (hk : T.ck 0 = true) (hf : ∀ f ∈ [1, 2, 3, 4], T.fl 0 f = true)
include hk hf
theorem at_n (env : DEnv) (h : env[0]? = some (some (.obj 1))) : evE T (.attr 1 (.var 0)) env (flS c0 F) = some (.obj 2, flS c0 F) := by
  simp [h, flS, flI, clsD, fldD, fldL, hk, hf 1 (by simp)]
theorem at_a (env : DEnv) (h : env[0]? = some (some (.obj 1))) : evE T (.attr 2 (.var 0)) env (flS c0 F) = some (.obj 3, flS c0 F) := by
  simp [h, flS, flI, clsD, fldD, fldL, hk, hf 2 (by simp)]
theorem at_b (env : DEnv) (h : env[0]? = some (some (.obj 1))) : evE T (.attr 3 (.var 0)) env (flS c0 F) = some (.obj 4, flS c0 F) := by
  simp [h, flS, flI, clsD, fldD, fldL, hk, hf 3 (by simp)]
theorem at_u (env : DEnv) (h : env[0]? = some (some (.obj 1))) : evE T (.attr 4 (.var 0)) env (flS c0 F) = some (.obj 5, flS c0 F) := by
  simp [h, flS, flI, clsD, fldD, fldL, hk, hf 4 (by simp)]
theorem len_n (env : DEnv) (h : env[0]? = some (some (.obj 1))) : evE T (.pb .len false [.attr 1 (.var 0)]) env (flS c0 F) = some (iD F.nodes.length, flS c0 F) := by
  rw [e_pb, l_cons, at_n hk hf env h]
  simp only [l_nil]
  rw [b_leno (S := flS c0 F) (j := 2) (xs := dL F.nodes) rfl, dL_len]
theorem len_b (env : DEnv) (h : env[0]? = some (some (.obj 1))) : evE T (.pb .len false [.attr 3 (.var 0)]) env (flS c0 F) = some (iD F.bs.length, flS c0 F) := by
  rw [e_pb, l_cons, at_b hk hf env h]
  simp only [l_nil]
  rw [b_leno (S := flS c0 F) (j := 4) (xs := natsD F.bs) rfl]
  simp
theorem ap_n (env : DEnv) (h : env[0]? = some (some (.obj 1))) (e : IE) (t : Tr) (he : evE T e env (flS c0 F) = some (t.d, flS c0 F)) (hl : F.nodes.length < 100000) : ex T (.drop (.pm .append (.attr 1 (.var 0)) [e])) env (flS c0 F) = some (.nx env (flS c0 { F with nodes := F.nodes ++ [t] })) := by
  rw [s_drop, e_pm, at_n hk hf env h]
  simp only [l_cons, he, l_nil]
  rw [r_obj (S := flS c0 F) (i := 2) (xs := dL F.nodes) rfl, m_app (S := flS c0 F) (i := 2) (xs := dL F.nodes) rfl, dL_len, if_pos hl]
  simp [flS, flI, dL_app, dL]
theorem ap_a (env : DEnv) (h : env[0]? = some (some (.obj 1))) (e : IE) (ar : List Nat) (he : evE T e env (flS c0 F) = some (.tup (natsD ar), flS c0 F)) (hl : F.around.length < 100000) : ex T (.drop (.pm .append (.attr 2 (.var 0)) [e])) env (flS c0 F) = some (.nx env (flS c0 { F with around := F.around ++ [ar] })) := by
  rw [s_drop, e_pm, at_a hk hf env h]
  simp only [l_cons, he, l_nil]
  rw [r_obj (S := flS c0 F) (i := 3) (xs := F.around.map fun a => .tup (natsD a)) rfl, m_app (S := flS c0 F) (i := 3) (xs := F.around.map fun a => .tup (natsD a)) rfl, List.length_map, if_pos hl]
  simp [flS, flI]
theorem ap_b (env : DEnv) (h : env[0]? = some (some (.obj 1))) (e : IE) (k : Nat) (he : evE T e env (flS c0 F) = some (iD k, flS c0 F)) (hl : F.bs.length < 100000) : ex T (.drop (.pm .append (.attr 3 (.var 0)) [e])) env (flS c0 F) = some (.nx env (flS c0 { F with bs := F.bs ++ [k] })) := by
  rw [s_drop, e_pm, at_b hk hf env h]
  simp only [l_cons, he, l_nil]
  rw [r_obj (S := flS c0 F) (i := 4) (xs := natsD F.bs) rfl, m_app (S := flS c0 F) (i := 4) (xs := natsD F.bs) rfl, List.length_map, if_pos hl]
  simp [flS, flI]
theorem ap_u (env : DEnv) (h : env[0]? = some (some (.obj 1))) (e : IE) (k : Nat) (he : evE T e env (flS c0 F) = some (iD k, flS c0 F)) (hl : F.us.length < 100000) : ex T (.drop (.pm .append (.attr 4 (.var 0)) [e])) env (flS c0 F) = some (.nx env (flS c0 { F with us := F.us ++ [k] })) := by
  rw [s_drop, e_pm, at_u hk hf env h]
  simp only [l_cons, he, l_nil]
  rw [r_obj (S := flS c0 F) (i := 5) (xs := natsD F.us) rfl, m_app (S := flS c0 F) (i := 5) (xs := natsD F.us) rfl, List.length_map, if_pos hl]
  simp [flS, flI]
end
def env11 (t : Tr) (ar : List Nat) (e3 e4 : Option D) : DEnv := [some (.obj 1), some t.d, some (.tup (natsD ar)), e3, e4]
/-- the loop over parts -/
theorem loop11 {T : Tab} {c0 : Cell} {i : Int} {t : Tr} {ts : List Tr} {ar : List Nat} {e3 e4 : Option D} {F : Fl} (hk : T.ck 0 = true) (hm : T.mt 0 1 = some 11) (hi : p2 .idx t.d (.int i) (flS c0 F) = some (.tup (dL ts)))
    (h11 : ∀ u ∈ ts, ∀ G, (∃ done rest, done ++ u :: rest = ts ∧ G = addTs done ar F) → T.fn 11 [.obj 1, u.d, .tup (natsD ar)] (flS c0 G) = some (.non, flS c0 (addT u ar G))) :
    ∃ e3', ex T (.for (.nm 3) 0 [.p2 .idx (.var 1) (.con (.int i))] [.drop (.meth 1 (.var 0) [.var 3, .var 2])]) (env11 t ar e3 e4) (flS c0 F) = some (.nx (env11 t ar e3' e4) (flS c0 (addTs ts ar F))) := by
  obtain ⟨env1, S1, e, e3', rfl, rfl⟩ := E_for (T := T) (env := env11 t ar e3 e4) (tg := .nm 3) (k := 0) (it := [.p2 .idx (.var 1) (.con (.int i))]) (b := [.drop (.meth 1 (.var 0) [.var 3, .var 2])]) (enc := Tr.d) (ys := ts) (ds := [.tup (dL ts)]) (S := flS c0 F) (S1 := flS c0 F)
    (fun done env S => ∃ e3', env = env11 t ar e3' e4 ∧ S = flS c0 (addTs done ar F)) (by simp [env11, hi]) (by simp [srcD, dL_map]) ⟨e3, rfl, by rw [addTs]⟩ (by
      rintro done u rest hd env S ⟨e3', rfl, rfl⟩
      refine ⟨_, _, ?_, some u.d, rfl, rfl⟩
      have hu := h11 u (by rw [← hd]; simp) (addTs done ar F) ⟨done, rest, hd, rfl⟩
      have hcl : clsD (flS c0 (addTs done ar F)) (.obj 1) = some 0 := rfl
      rw [addTs_snoc]
      simp [forStep, env11, hcl, hk, hm, hu])
  exact ⟨e3', e⟩
theorem addTs_app : ∀ (xs ys : List Tr) (ar : List Nat) (F : Fl), addTs (xs ++ ys) ar F = addTs ys ar (addTs xs ar F)
  | [], _, _, _ => by rw [List.nil_append, addTs]
  | x :: xs, ys, ar, F => by rw [List.cons_append, addTs, addTs, addTs_app xs]
theorem szL_app : ∀ (xs ys : List Tr), szL (xs ++ ys) = szL xs + szL ys
  | [], ys => by simp [szL]
  | x :: xs, ys => by rw [List.cons_append, szL, szL, szL_app xs]; omega
end Sp

set_option Elab.async false
set_option linter.all false
set_option maxRecDepth 100000
namespace Sp
open LN LP PySem
variable {p : Prog}
theorem nats_app (xs ys : List Nat) : natsD (xs ++ ys) = natsD xs ++ natsD ys := by simp
@[simp] theorem pu_natsD (xs : List Nat) : pureL (natsD xs) = true := pu_nats xs
theorem ev_us {T : Tab} {env : DEnv} {S : Store} {t : Tr} (i : Nat) (h : env[i]? = some (some t.d)) : evE T (.p2 .eq (.p2 .idx (.var i) (.con (.int 0))) (.con (.str us))) env S = some (.bl (decide (root t = us)), S) := by
  simp only [e_p2, e_var, e_con, h, ix0, o_eq, eq_us, Option.map_some]
theorem ev_jo {T : Tab} {env : DEnv} {S : Store} {t : Tr} (i : Nat) (h : env[i]? = some (some t.d)) : evE T (.p2 .eq (.p2 .idx (.var i) (.con (.int 0))) (.con (.str jo))) env S = some (.bl (decide (root t = jo)), S) := by
  simp only [e_p2, e_var, e_con, h, ix0, o_eq, eq_jo, Option.map_some]
theorem ev_bi {T : Tab} {env : DEnv} {S : Store} {t : Tr} (i : Nat) (h : env[i]? = some (some t.d)) : evE T (.p2 .eq (.p2 .idx (.var i) (.con (.int 0))) (.con (.str bi))) env S = some (.bl (decide (root t = bi)), S) := by
  simp only [e_p2, e_var, e_con, h, ix0, o_eq, eq_bi, Option.map_some]
theorem if_t {T : Tab} {env : DEnv} {S S1 : Store} {c : IE} {a b : List IS} {k : Bool} (h : evE T c env S = some (.bl k, S1)) (hk : k = true) : ex T (.ite c a b) env S = exL T a env S1 := by
  rw [s_ite, h, hk]
theorem if_f {T : Tab} {env : DEnv} {S S1 : Store} {c : IE} {a b : List IS} {k : Bool} (h : evE T c env S = some (.bl k, S1)) (hk : k = false) : ex T (.ite c a b) env S = exL T b env S1 := by
  rw [s_ite, h, hk]
/-- the first two statements of Flat.add -/
theorem add_head {m : Nat} (hk : Kls p) {t : Tr} {ar : List Nat} {c0 : Cell} {F : Fl} (hs : Sm F t.sz) {o : Option O} (h : exL (tabN p m) (B11.drop 2) (env11 t ar none none) (flS c0 (F.push t ar)) = o) : exL (tabN p m) B11 (env11 t ar none none) (flS c0 F) = o := by
  obtain ⟨h1, h2, h3, h4⟩ := hs
  have hk0 : (tabN p m).ck 0 = true := by rw [tk_ck]; exact hk.k0
  have hf0 : ∀ f ∈ [1, 2, 3, 4], (tabN p m).fl 0 f = true := by rw [tk_fl]; exact hk.f0
  have hb : B11 = .drop (.pm .append (.attr 1 (.var 0)) [.var 1]) :: .drop (.pm .append (.attr 2 (.var 0)) [.var 2]) :: B11.drop 2 := rfl
  rw [hb]
  refine s_nx (ap_n hk0 hf0 _ rfl (.var 1) t (by simp [env11]) (by omega)) (s_nx (ap_a hk0 hf0 _ rfl (.var 2) ar (by simp [env11]) (by rw [h2]; omega)) h)
theorem ix2j (l : Nm) (ps : List Tr) (S : Store) : p2 .idx (Tr.join l ps).d (.int 2) S = some (.tup (dL ps)) := by simp [Tr.d, ixD]
theorem ix2b (x : Nm) (a : List Tr) (b : Tr) (S : Store) : p2 .idx (Tr.bind x a b).d (.int 2) S = some (.tup (dL a)) := by simp [Tr.d, ixD]
theorem ix3b (x : Nm) (a : List Tr) (b : Tr) (S : Store) : p2 .idx (Tr.bind x a b).d (.int 3) S = some b.d := by simp [Tr.d, ixD]
mutual
theorem c11 (hp : Has p [11]) (hk : Kls p) : ∀ (t : Tr) (n : Nat) (ar : List Nat) (c0 : Cell) (F : Fl), t.dp ≤ n → Sm F t.sz → ar.length + t.dp ≤ 50000 → (tabN p n).fn 11 [.obj 1, t.d, .tup (natsD ar)] (flS c0 F) = some (.non, flS c0 (addT t ar F))
  | .use x, n, ar, c0, F, hn, hs, ha => by
    obtain ⟨m, rfl⟩ : ∃ m, n = m + 1 := ⟨n - 1, by rw [Tr.dp] at hn; omega⟩
    rw [fn_at (d := D11) (hp 11 (by decide))]
    have hk0 : (tabN p m).ck 0 = true := by rw [tk_ck]; exact hk.k0
    have hf0 : ∀ f ∈ [1, 2, 3, 4], (tabN p m).fl 0 f = true := by rw [tk_fl]; exact hk.f0
    refine run_2n (env1 := env11 (.use x) ar none none) rfl rfl ?_
    refine add_head hk hs ?_
    have i0 := ix0 (.use x) (flS c0 (F.push (.use x) ar))
    have e1 := eq_us (.use x) (flS c0 (F.push (.use x) ar))
    have hl := hs.n; have hu := hs.u
    have hap := ap_u (c0 := c0) (F := F.push (.use x) ar) hk0 hf0 (env11 (.use x) ar none none) rfl (.p2 .sub (.pb .len false [.attr 1 (.var 0)]) (.con (.int 1))) F.nodes.length (by
      rw [e_p2, len_n hk0 hf0 _ rfl]
      simp [Fl.push]) (by simp [Fl.push]; omega)
    show exL _ [.ite _ [_] _] _ _ = _
    refine s_nx ?_ (s_nil)
    rw [if_t (ev_us (t := .use x) 1 rfl) rfl]
    refine s_nx hap ?_
    rw [s_nil, addT]
    rfl
  | .join l ps, n, ar, c0, F, hn, hs, ha => by
    obtain ⟨m, rfl⟩ : ∃ m, n = m + 1 := ⟨n - 1, by rw [Tr.dp] at hn; omega⟩
    rw [Tr.dp] at hn ha
    rw [fn_at (d := D11) (hp 11 (by decide))]
    have hk0 : (tabN p m).ck 0 = true := by rw [tk_ck]; exact hk.k0
    have hs0 := hs
    rw [Tr.sz] at hs0
    obtain ⟨h1, h2, h3, h4⟩ := hs0
    have hsp : Sm (F.push (.join l ps) ar) (szL ps) := ⟨by simp [Fl.push]; omega, by simp [Fl.push, h2], by simp [Fl.push]; omega, by simp [Fl.push]; omega⟩
    obtain ⟨e3', hloop⟩ := loop11 (T := tabN p m) (c0 := c0) (i := 2) (t := .join l ps) (ts := ps) (ar := ar) (e3 := none) (e4 := none) (F := F.push (.join l ps) ar) hk0 (by rw [tk_mt]; exact hk.m1) (ix2j l ps _) (by
      rintro u hu G ⟨done, rest, hd, rfl⟩
      refine c11L hp hk ps m (by omega) u hu ar c0 _ ?_ (by omega)
      have : Sm (F.push (.join l ps) ar) (szL done + (u.sz + szL rest)) := hsp.mono (by rw [← hd, szL_app, szL]; omega)
      exact (sm_addL done ar _ _ this).mono (by omega))
    refine run_2n (env1 := env11 (.join l ps) ar e3' none) rfl rfl ?_
    refine add_head hk hs ?_
    have i0 := ix0 (.join l ps) (flS c0 (F.push (.join l ps) ar))
    have e1 := eq_us (.join l ps) (flS c0 (F.push (.join l ps) ar))
    have e2 := eq_jo (.join l ps) (flS c0 (F.push (.join l ps) ar))
    show exL _ [.ite _ _ [.ite _ [_] _]] _ _ = _
    refine s_nx ?_ (s_nil)
    rw [if_f (ev_us (t := .join l ps) 1 rfl) rfl]
    refine s_nx ?_ (s_nil)
    rw [if_t (ev_jo (t := .join l ps) 1 rfl) rfl]
    refine s_nx hloop ?_
    rw [s_nil, addT]
  | .bind x a b, n, ar, c0, F, hn, hs, ha => by
    obtain ⟨m, rfl⟩ : ∃ m, n = m + 1 := ⟨n - 1, by rw [Tr.dp] at hn; omega⟩
    rw [Tr.dp] at hn ha
    rw [fn_at (d := D11) (hp 11 (by decide))]
    have hk0 : (tabN p m).ck 0 = true := by rw [tk_ck]; exact hk.k0
    have hf0 : ∀ f ∈ [1, 2, 3, 4], (tabN p m).fl 0 f = true := by rw [tk_fl]; exact hk.f0
    have hm1 : (tabN p m).mt 0 1 = some 11 := by rw [tk_mt]; exact hk.m1
    have hs0 := hs
    rw [Tr.sz] at hs0
    obtain ⟨h1, h2, h3, h4⟩ := hs0
    have hsp : Sm { F.push (.bind x a b) ar with bs := F.bs ++ [F.nodes.length] } (szL a + b.sz) := ⟨by simp [Fl.push]; omega, by simp [Fl.push, h2], by simp [Fl.push]; omega, by simp [Fl.push]; omega⟩
    obtain ⟨e3', hloop⟩ := loop11 (T := tabN p m) (c0 := c0) (i := 2) (t := .bind x a b) (ts := a) (ar := ar) (e3 := none) (e4 := some (iD F.bs.length)) (F := { F.push (.bind x a b) ar with bs := F.bs ++ [F.nodes.length] }) hk0 hm1 (ix2b x a b _) (by
      rintro u hu G ⟨done, rest, hd, rfl⟩
      refine c11L hp hk a m (by omega) u hu ar c0 _ ?_ (by omega)
      have : Sm { F.push (.bind x a b) ar with bs := F.bs ++ [F.nodes.length] } (szL done + (u.sz + szL rest)) := hsp.mono (by rw [← hd, szL_app, szL]; omega)
      exact (sm_addL done ar _ _ this).mono (by omega))
    have hbd := c11 hp hk b m (ar ++ [F.bs.length]) c0 (addTs a ar { F.push (.bind x a b) ar with bs := F.bs ++ [F.nodes.length] }) (by omega) (sm_addL a ar _ _ hsp) (by simp; omega)
    refine run_2n (env1 := env11 (.bind x a b) ar e3' (some (iD F.bs.length))) rfl rfl ?_
    refine add_head hk hs ?_
    have i0 := ix0 (.bind x a b) (flS c0 (F.push (.bind x a b) ar))
    have e1 := eq_us (.bind x a b) (flS c0 (F.push (.bind x a b) ar))
    have e2 := eq_jo (.bind x a b) (flS c0 (F.push (.bind x a b) ar))
    show exL _ [.ite _ _ [.ite _ _ [_, _, _, _]]] _ _ = _
    refine s_nx ?_ (s_nil)
    rw [if_f (ev_us (t := .bind x a b) 1 rfl) rfl]
    refine s_nx ?_ (s_nil)
    rw [if_f (ev_jo (t := .bind x a b) 1 rfl) rfl]
    refine s_nx (env1 := env11 (.bind x a b) ar none (some (iD F.bs.length))) (S1 := flS c0 (F.push (.bind x a b) ar)) ?_ ?_
    · rw [s_asg, len_b hk0 hf0 _ rfl]
      simp [env11, Fl.push]
    refine s_nx (ap_b hk0 hf0 _ rfl (.p2 .sub (.pb .len false [.attr 1 (.var 0)]) (.con (.int 1))) F.nodes.length (by
      rw [e_p2, len_n hk0 hf0 _ rfl]
      simp [Fl.push]) (by simp [Fl.push]; omega)) ?_
    refine s_nx hloop ?_
    refine s_nx ?_ s_nil
    have hz : szOk (ar.length + 1) = true := decide_eq_true (by omega)
    have hcl : clsD (flS c0 (addTs a ar { F.push (.bind x a b) ar with bs := F.bs ++ [F.nodes.length] })) (.obj 1) = some 0 := rfl
    have i3 := ix3b x a b (flS c0 (addTs a ar { F.push (.bind x a b) ar with bs := F.bs ++ [F.nodes.length] }))
    rw [addT]
    simp [env11, hcl, hk0, hm1, i3, hz]
    rw [nats_app] at hbd
    simp at hbd
    rw [hbd]
theorem c11L (hp : Has p [11]) (hk : Kls p) : ∀ (ts : List Tr) (n : Nat), dpL ts ≤ n → ∀ u ∈ ts, ∀ (ar : List Nat) (c0 : Cell) (G : Fl), Sm G u.sz → ar.length + dpL ts ≤ 50000 → (tabN p n).fn 11 [.obj 1, u.d, .tup (natsD ar)] (flS c0 G) = some (.non, flS c0 (addT u ar G))
  | [], _, _, u, hu, _, _, _, _, _ => by cases hu
  | a :: ts, n, hn, u, hu, ar, c0, G, hs, ha => by
    rw [dpL] at hn ha
    rcases List.mem_cons.mp hu with e | h
    · rw [e] at hs ⊢
      exact c11 hp hk a n ar c0 G (by omega) hs (by omega)
    · exact c11L hp hk ts n (by omega) u h ar c0 G hs (by omega)
end
end Sp

set_option Elab.async false
set_option linter.all false
set_option maxRecDepth 100000
namespace Sp
open LN LP PySem
variable {p : Prog}
def F0 : Fl := ⟨[], [], [], []⟩
/-! ### what a tree's binders and uses are -/
mutual
def bT : Tr → List Nm
  | .use _ => []
  | .join _ ps => bTs ps
  | .bind x a b => x :: (bTs a ++ bT b)
def bTs : List Tr → List Nm
  | [] => []
  | t :: ts => bT t ++ bTs ts
end
mutual
/-- each use: its name, the binders around it; ar: those around here, k: the next binder's number -/
def uT : Tr → List Nat → Nat → List (Nm × List Nat)
  | .use x, ar, _ => [(x, ar)]
  | .join _ ps, ar, k => uTs ps ar k
  | .bind _ a b, ar, k => uTs a ar (k + 1) ++ uT b (ar ++ [k]) (k + 1 + (bTs a).length)
def uTs : List Tr → List Nat → Nat → List (Nm × List Nat)
  | [], _, _ => []
  | t :: ts, ar, k => uT t ar k ++ uTs ts ar (k + (bT t).length)
end
mutual
/-- each binder: the binders around it -/
def aT : Tr → List Nat → Nat → List (List Nat)
  | .use _, _, _ => []
  | .join _ ps, ar, k => aTs ps ar k
  | .bind _ a b, ar, k => ar :: (aTs a ar (k + 1) ++ aT b (ar ++ [k]) (k + 1 + (bTs a).length))
def aTs : List Tr → List Nat → Nat → List (List Nat)
  | [], _, _ => []
  | t :: ts, ar, k => aT t ar k ++ aTs ts ar (k + (bT t).length)
end
/-! ### Flat's lists tell the same -/
def nd (F : Fl) (i : Nat) : Tr := F.nodes.getD i (.use [])
def arr (F : Fl) (i : Nat) : List Nat := F.around.getD i []
def nms (F : Fl) : List Nm := F.bs.map fun i => label (nd F i)
def uses (F : Fl) : List (Nm × List Nat) := F.us.map fun i => (label (nd F i), arr F i)
structure Ok (F : Fl) : Prop where
  a : F.around.length = F.nodes.length
  b : ∀ i ∈ F.bs, i < F.nodes.length
  u : ∀ i ∈ F.us, i < F.nodes.length
  r : ∀ ar ∈ F.around, ∀ b ∈ ar, b < F.bs.length
  t : ∀ t ∈ F.nodes, nmOk (label t) = true
theorem ok_push {F : Fl} (h : Ok F) {t : Tr} {ar : List Nat} (ht : nmOk (label t) = true) (har : ∀ b ∈ ar, b < F.bs.length) : Ok (F.push t ar) := by
  obtain ⟨h1, h2, h3, h4, h5⟩ := h
  refine ⟨by simp [Fl.push, h1], fun i hi => ?_, fun i hi => ?_, fun a ha b hb => ?_, fun u hu => ?_⟩
  · have := h2 i hi; simp [Fl.push]; omega
  · have := h3 i hi; simp [Fl.push]; omega
  · rcases List.mem_append.mp ha with ha | ha
    · exact h4 a ha b hb
    · simp at ha; subst ha; exact har b hb
  · rcases List.mem_append.mp hu with hu | hu
    · exact h5 u hu
    · simp at hu; subst hu; exact ht
theorem nd_push {F : Fl} {t : Tr} {ar : List Nat} {i : Nat} (h : i < F.nodes.length) : nd (F.push t ar) i = nd F i := by
  simp only [nd, Fl.push, List.getD]
  rw [List.getElem?_append_left h]
theorem nd_last {F : Fl} {t : Tr} {ar : List Nat} : nd (F.push t ar) F.nodes.length = t := by
  simp [nd, Fl.push, List.getD]
theorem arr_push {F : Fl} {t : Tr} {ar : List Nat} {i : Nat} (h : i < F.around.length) : arr (F.push t ar) i = arr F i := by
  simp only [arr, Fl.push, List.getD]
  rw [List.getElem?_append_left h]
theorem arr_last {F : Fl} {t : Tr} {ar : List Nat} : arr (F.push t ar) F.around.length = ar := by
  simp [arr, Fl.push, List.getD]
theorem nms_push {F : Fl} (h : Ok F) (t : Tr) (ar : List Nat) : nms (F.push t ar) = nms F := by
  unfold nms
  exact List.map_congr_left fun i hi => by rw [nd_push (h.b i hi)]
theorem uses_push {F : Fl} (h : Ok F) (t : Tr) (ar : List Nat) : uses (F.push t ar) = uses F := by
  unfold uses
  exact List.map_congr_left fun i hi => by rw [nd_push (h.u i hi), arr_push (by rw [h.a]; exact h.u i hi)]
/-- what is told of Flat.add -/
structure Adds (F G : Fl) (bs : List Nm) (us : List (Nm × List Nat)) : Prop where
  ok : Ok G
  n : nms G = nms F ++ bs
  u : uses G = uses F ++ us
theorem Adds.len {F G : Fl} {bs : List Nm} {us : List (Nm × List Nat)} (h : Adds F G bs us) : G.bs.length = F.bs.length + bs.length := by
  have := congrArg List.length h.n
  simpa [nms] using this
mutual
theorem adds : ∀ (t : Tr) (ar : List Nat) (F : Fl), Ok F → t.ok = true → (∀ b ∈ ar, b < F.bs.length) → Adds F (addT t ar F) (bT t) (uT t ar F.bs.length)
  | .use x, ar, F, h, ht, har => by
    have hp := ok_push h (t := .use x) (ar := ar) ht har
    rw [addT, bT, uT]
    refine ⟨⟨hp.a, hp.b, fun i hi => ?_, hp.r, hp.t⟩, ?_, ?_⟩
    · rcases List.mem_append.mp hi with hi | hi
      · exact hp.u i hi
      · simp at hi; subst hi; simp [Fl.push]
    · rw [List.append_nil]; exact nms_push h (.use x) ar
    · have e1 := uses_push h (.use x) ar
      have e2 : nd (F.push (.use x) ar) F.nodes.length = .use x := nd_last
      have e3 : arr (F.push (.use x) ar) F.nodes.length = ar := by rw [← h.a]; exact arr_last
      show (F.us ++ [F.nodes.length]).map (fun i => (label (nd (F.push (.use x) ar) i), arr (F.push (.use x) ar) i)) = _
      rw [List.map_append]
      show uses (F.push (.use x) ar) ++ [(label (nd (F.push (.use x) ar) F.nodes.length), arr (F.push (.use x) ar) F.nodes.length)] = _
      rw [e1, e2, e3]
      rfl
  | .join l ps, ar, F, h, ht, har => by
    rw [Tr.ok, Bool.and_eq_true] at ht
    have hp := ok_push h (t := .join l ps) (ar := ar) ht.1 har
    rw [addT, bT, uT]
    have := addsL ps ar _ hp ht.2 har
    exact ⟨this.ok, by rw [this.n, nms_push h], by rw [this.u, uses_push h]; rfl⟩
  | .bind x a b, ar, F, h, ht, har => by
    rw [Tr.ok, Bool.and_eq_true, Bool.and_eq_true] at ht
    have hp := ok_push h (t := .bind x a b) (ar := ar) ht.1 har
    let G : Fl := { F.push (.bind x a b) ar with bs := F.bs ++ [F.nodes.length] }
    have hG : Ok G := ⟨hp.a, fun i hi => by
      rcases List.mem_append.mp hi with hi | hi
      · exact hp.b i hi
      · simp at hi; subst hi; simp [G, Fl.push], hp.u, fun r hr q hq => by
      have := hp.r r hr q hq
      simp [G]; simp [Fl.push] at this; omega, hp.t⟩
    have nG : nms G = nms F ++ [x] := by
      have e2 : nd (F.push (.bind x a b) ar) F.nodes.length = .bind x a b := nd_last
      show (F.bs ++ [F.nodes.length]).map (fun i => label (nd (F.push (.bind x a b) ar) i)) = _
      rw [List.map_append]
      show nms (F.push (.bind x a b) ar) ++ [label (nd (F.push (.bind x a b) ar) F.nodes.length)] = _
      rw [nms_push h, e2]
      rfl
    have uG : uses G = uses F := uses_push h _ _
    have lG : G.bs.length = F.bs.length + 1 := by simp [G]
    have h1 := addsL a ar G hG ht.2.1 (fun q hq => by have := har q hq; omega)
    have l1 := h1.len
    have h2 := adds b (ar ++ [F.bs.length]) _ h1.ok ht.2.2 (fun q hq => by
      rcases List.mem_append.mp hq with hq | hq
      · have := har q hq; omega
      · simp at hq; omega)
    rw [addT, bT, uT]
    refine ⟨h2.ok, ?_, ?_⟩
    · rw [h2.n, h1.n, nG]; simp
    · rw [h2.u, h1.u, uG, l1, lG]; simp
theorem addsL : ∀ (ts : List Tr) (ar : List Nat) (F : Fl), Ok F → okL ts = true → (∀ b ∈ ar, b < F.bs.length) → Adds F (addTs ts ar F) (bTs ts) (uTs ts ar F.bs.length)
  | [], ar, F, h, _, _ => by rw [addTs, bTs, uTs]; exact ⟨h, by simp, by simp⟩
  | t :: ts, ar, F, h, ht, har => by
    rw [okL, Bool.and_eq_true] at ht
    have h1 := adds t ar F h ht.1 har
    have l1 := h1.len
    have h2 := addsL ts ar _ h1.ok ht.2 (fun q hq => by have := har q hq; omega)
    rw [addTs, bTs, uTs]
    exact ⟨h2.ok, by rw [h2.n, h1.n, List.append_assoc], by rw [h2.u, h1.u, List.append_assoc, l1]⟩
end
def flat (t : Tr) : Fl := addT t [] F0
theorem flat_adds {t : Tr} (h : t.ok = true) : Adds F0 (flat t) (bT t) (uT t [] 0) := adds t [] F0 ⟨rfl, by simp [F0], by simp [F0], by simp [F0], by simp [F0]⟩ h (by simp)
theorem flat_nms {t : Tr} (h : t.ok = true) : nms (flat t) = bT t := by rw [(flat_adds h).n]; rfl
theorem flat_uses {t : Tr} (h : t.ok = true) : uses (flat t) = uT t [] 0 := by rw [(flat_adds h).u]; rfl
mutual
theorem nodes_len : ∀ (t : Tr) (ar : List Nat) (F : Fl), (addT t ar F).nodes.length = F.nodes.length + t.sz
  | .use x, ar, F => by rw [addT, Tr.sz]; simp [Fl.push]
  | .join l ps, ar, F => by rw [addT, Tr.sz, nodes_lenL]; simp [Fl.push]; omega
  | .bind x a b, ar, F => by rw [addT, Tr.sz, nodes_len b, nodes_lenL]; simp [Fl.push]; omega
theorem nodes_lenL : ∀ (ts : List Tr) (ar : List Nat) (F : Fl), (addTs ts ar F).nodes.length = F.nodes.length + szL ts
  | [], ar, F => by rw [addTs, szL]; rfl
  | t :: ts, ar, F => by rw [addTs, szL, nodes_lenL ts, nodes_len t]; omega
end
end Sp

set_option Elab.async false
set_option linter.all false
set_option maxRecDepth 100000
namespace Sp
open LN LP PySem
variable {p : Prog}
abbrev Ref := Nat ⊕ Nm
def refD : Ref → D
  | .inl b => iD b
  | .inr x => .str x
theorem pu_ref (r : Ref) : pureD (refD r) = true := by cases r <;> rfl
@[simp] theorem pu_refs (rs : List Ref) : pureL (rs.map refD) = true := pureL_map pu_ref rs
def meantOf (ns : List Nm) (x : Nm) (ar : List Nat) : Ref := match (ar.filter fun b => decide (ns[b]? = some x)).getLast? with
  | some b => .inl b
  | none => .inr x
theorem nats_lay : ∀ xs : List Nat, pyL (natsD xs) = some (xs.map fun x : Nat => PyData.int (x : Int)) ∧ PyData.canLayAll0 (xs.map fun x : Nat => PyData.int (x : Int)) = true ∧ PyData.depthAll (xs.map fun x : Nat => PyData.int (x : Int)) = 0
  | [] => ⟨rfl, rfl, rfl⟩
  | x :: xs => by
    obtain ⟨h1, h2, h3⟩ := nats_lay xs
    refine ⟨by simp [pyL, pyD, h1], by simp [PyData.canLayAll0, PyData.canLay0, h2], by simp [PyData.depthAll, PyData.depth, h3]⟩
theorem shp_nats (xs : List Nat) : shp (.list (xs.map fun x : Nat => PyData.int (x : Int))) = true := by
  obtain ⟨_, h2, h3⟩ := nats_lay xs
  simp [shp, SeqAt.shaped, PyData.canLay0, PyData.depth, h2, h3]
theorem eq_nats_nil (xs : List Nat) (S : Store) : eqS S (.lst (natsD xs)) (.lst []) = some xs.isEmpty := by
  have e1 := shp_nats xs
  have e2 := shp_nats []
  have e3 := (nats_lay xs).1
  simp only [eqS, pyS, pyD, e3]
  simp only [pyL, e1, List.map_nil] at e2 ⊢
  simp only [e2, Bool.and_self, if_true]
  cases xs <;> rfl
theorem ix_last {α : Type} (f : α → D) (xs : List α) : ixD (xs.map f) (-1) = xs.getLast?.map f := by
  unfold ixD
  rw [if_neg (by omega)]
  cases xs with
  | nil => rfl
  | cons x xs =>
    rw [if_pos (by simp; omega), List.getLast?_eq_getElem?, List.getElem?_map]
    have : (-1 + ((List.map f (x :: xs)).length : Int)).toNat = (x :: xs).length - 1 := by simp; omega
    rw [this]
theorem ixN {xs : List D} (i : Nat) : ixD xs (i : Int) = xs[i]? := by
  unfold ixD
  rw [if_pos (by omega)]
  simp
theorem c13 (hp : Has p [13]) (hk : Kls p) {n : Nat} (hn : 1 ≤ n) {S : Store} {F : Fl} {ns : List Nm} {ks : List Nat} {vs : List D} (h0 : S[0]? = some (.ins 1 ks vs)) (f6 : fldL ks vs 6 = some (.obj 2)) (f7 : fldL ks vs 7 = some (.obj 3)) (f8 : fldL ks vs 8 = some (.tup (ns.map .str)))
    (h2 : S[2]? = some (.lst (dL F.nodes))) (h3 : S[3]? = some (.lst (F.around.map fun a => .tup (natsD a)))) {i : Nat} (hi : i < F.nodes.length) (ok : Ok F) (hb : F.bs.length = ns.length) (hns : ∀ x ∈ ns, nmOk x = true) (hz : ∀ a ∈ F.around, a.length ≤ 100000) :
    (tabN p n).fn 13 [.obj 0, iD i] S = some (refD (meantOf ns (label (nd F i)) (arr F i)), S) := by
  obtain ⟨m, rfl⟩ : ∃ m, n = m + 1 := ⟨n - 1, by omega⟩
  rw [fn_at (d := D13) (hp 13 (by decide))]
  have hk1 : (tabN p m).ck 1 = true := by rw [tk_ck]; exact hk.k1
  have hfl : ∀ f ∈ [5, 6, 7, 3, 4, 8, 9, 10], (tabN p m).fl 1 f = true := by rw [tk_fl]; exact hk.f1
  have at_ : ∀ (env : DEnv) (f : Nat) (v : D), env[0]? = some (some (.obj 0)) → f ∈ [5, 6, 7, 3, 4, 8, 9, 10] → fldL ks vs f = some v → evE (tabN p m) (.attr f (.var 0)) env S = some (v, S) := fun env f v he hf hv => by
    simp [he, clsD, fldD, h0, hk1, hfl f hf, hv]
  have hnd : (dL F.nodes)[i]? = some (nd F i).d := by
    rw [dL_map, List.getElem?_map, List.getElem?_eq_getElem hi]
    simp [nd, List.getD, List.getElem?_eq_getElem hi]
  have hia : i < F.around.length := by rw [ok.a]; exact hi
  have har : (F.around.map fun a => D.tup (natsD a))[i]? = some (.tup (natsD (arr F i))) := by
    rw [List.getElem?_map, List.getElem?_eq_getElem hia]
    simp [arr, List.getD, List.getElem?_eq_getElem hia]
  have harm : arr F i ∈ F.around := by
    have : arr F i = F.around[i] := by simp [arr, List.getD, List.getElem?_eq_getElem hia]
    rw [this]; exact List.getElem_mem hia
  have hnm : nmOk (label (nd F i)) = true := by
    have : nd F i = F.nodes[i] := by simp [nd, List.getD, List.getElem?_eq_getElem hi]
    rw [this]; exact ok.t _ (List.getElem_mem hi)
  let env1 : DEnv := [some (.obj 0), some (iD i), some (.str (label (nd F i))), none, none]
  let some_ := (arr F i).filter fun b => decide (ns[b]? = some (label (nd F i)))
  let env2 : DEnv := [some (.obj 0), some (iD i), some (.str (label (nd F i))), some (.lst (natsD some_)), none]
  have s0 : ex (tabN p m) (B13.getD 0 .nev) (startD 5 [.obj 0, iD i]) S = some (.nx env1 S) := by
    show ex _ (.asg (.nm 2) (.p2 .idx (.p2 .idx (.attr 6 (.var 0)) (.var 1)) (.con (.int 1)))) _ _ = _
    rw [s_asg, e_p2, e_p2, at_ _ 6 _ rfl (by simp) f6]
    simp only [e_var, startD, e_con, List.map_cons, List.map_nil, List.length_cons, List.length_nil]
    simp [o_idxo h2, ixN, hnd, ix1, env1]
  have s1 : ex (tabN p m) (B13.getD 1 .nev) env1 S = some (.nx env2 S) := by
    show ex _ (.asg (.nm 3) (.lc false [4] (.nm 4) 0 [.p2 .idx (.attr 7 (.var 0)) (.var 1)] (some (.p2 .eq (.p2 .idx (.attr 8 (.var 0)) (.var 4)) (.var 2))) (.var 4))) _ _ = _
    rw [s_asg, E_lcf (enc := iD) (g := iD) (ys := arr F i) (c := fun b => decide (ns[b]? = some (label (nd F i)))) (ds := [.tup (natsD (arr F i))]) (S1 := S)]
    · simp [env1, env2, some_]
    · rw [l_cons, e_p2, at_ _ 7 _ rfl (by simp) f7]
      simp [env1, o_idxo h3, ixN, har]
    · exact .inl (by simp [srcD])
    · intro b hbm
      have hbl : b < ns.length := by rw [← hb]; exact ok.r _ harm b hbm
      have hg : (ns.map D.str)[b]? = some (.str ns[b]) := by rw [List.getElem?_map, List.getElem?_eq_getElem hbl]; rfl
      have hat := at_ [some (.obj 0), some (iD i), some (.str (label (nd F i))), none, some (iD b)] 8 _ rfl (by simp) f8
      have heq := eq_str (sOk_nm (hns _ (List.getElem_mem hbl))) (sOk_nm hnm) S
      simp only [lcStep, env1, wipeD, t_nm, c_some, e_p2]
      simp only [List.set_cons_succ, List.set_cons_zero, hat]
      simp only [e_var, o_idxt, ixN, hg, o_eq, heq, List.getElem?_eq_getElem hbl]
      by_cases q : ns[b] = label (nd F i)
      · have heq' := eq_str (sOk_nm hnm) (sOk_nm hnm) S
        simp [q, ixN, hg, heq']
      · simp [q, ixN, hg, heq]
    · exact hz _ harm
  have s2 : ex (tabN p m) (B13.getD 2 .nev) env2 S = some (.rt (refD (meantOf ns (label (nd F i)) (arr F i))) S) := by
    show ex _ (.ret (.ite (.p2 .ne (.var 3) (.disp .lst [] [])) (.p2 .idx (.var 3) (.neg (.con (.int 1)))) (.var 2))) _ _ = _
    have hne : p2 .ne (.lst (natsD some_)) (.lst []) S = some (.bl (!some_.isEmpty)) := by rw [o_ne, eq_nats_nil]; rfl
    have hz0 : szOk 0 = true := rfl
    rw [s_ret, e_ite]
    simp only [e_p2, e_var, env2, e_disp, p_nil, List.getElem?_cons_succ, List.getElem?_cons_zero, List.length_nil, hz0, if_true, hne]
    cases hl : some_.getLast? with
    | none =>
      have : some_ = [] := by simpa using hl
      have hm : meantOf ns (label (nd F i)) (arr F i) = .inr (label (nd F i)) := by
        unfold meantOf
        show (match some_.getLast? with | some b => Sum.inl b | none => Sum.inr (label (nd F i))) = _
        rw [hl]
      rw [hm, this]
      rfl
    | some b =>
      have : some_ ≠ [] := by intro e; rw [e] at hl; cases hl
      have h1 : some_.isEmpty = false := by cases h : some_ with | nil => exact (this h).elim | cons _ _ => rfl
      have hm : meantOf ns (label (nd F i)) (arr F i) = .inl b := by
        unfold meantOf
        show (match some_.getLast? with | some b => Sum.inl b | none => Sum.inr (label (nd F i))) = _
        rw [hl]
      rw [hm, h1]
      simp [ix_last, hl, refD]
  exact run_2 rfl rfl (s_nx s0 (s_nx s1 (s_rt s2)))
end Sp

set_option Elab.async false
set_option linter.all false
set_option maxRecDepth 100000
namespace Sp
open LN LP PySem
variable {p : Prog}
/-! ### Flat.__init__ -/
theorem c10 (hp : Has p [10, 11]) (hk : Kls p) {n : Nat} (t : Tr) (hn : t.dp + 1 ≤ n) (hz : t.sz ≤ 40000) (hd : t.dp ≤ 40000) (c0 : Cell) : (tabN p n).fn 10 [.obj 1, t.d] [c0, .ins 0 [] []] = some (.non, flS c0 (flat t)) := by
  obtain ⟨m, rfl⟩ : ∃ m, n = m + 1 := ⟨n - 1, by omega⟩
  rw [fn_at (d := D10) (hp 10 (by decide))]
  have hk0 : (tabN p m).ck 0 = true := by rw [tk_ck]; exact hk.k0
  have hm1 : (tabN p m).mt 0 1 = some 11 := by rw [tk_mt]; exact hk.m1
  have hf1 : (tabN p m).fl 0 1 = true := by rw [tk_fl]; exact hk.f0 1 (by simp)
  have hf2 : (tabN p m).fl 0 2 = true := by rw [tk_fl]; exact hk.f0 2 (by simp)
  have hf3 : (tabN p m).fl 0 3 = true := by rw [tk_fl]; exact hk.f0 3 (by simp)
  have hf4 : (tabN p m).fl 0 4 = true := by rw [tk_fl]; exact hk.f0 4 (by simp)
  have h11 := c11 (p := p) (hp.mono (by decide)) hk t m [] c0 F0 (by omega) ⟨by simp [F0]; omega, rfl, by simp [F0], by simp [F0]⟩ (by simp; omega)
  have e0 : flS c0 F0 = [c0, .ins 0 [1, 2, 3, 4] [.obj 2, .obj 3, .obj 4, .obj 5], .lst [], .lst [], .lst [], .lst []] := by
    simp [flS, flI, F0, dL]
  rw [e0] at h11
  refine run_2n (env1 := [some (.obj 1), some t.d]) rfl rfl ?_
  have hst : startD D10.nn [.obj 1, t.d] = [some (.obj 1), some t.d] := rfl
  rw [hst]
  refine s_nx (env1 := [some (.obj 1), some t.d]) (S1 := [c0, .ins 0 [1] [.obj 2], .lst []]) (by simp [szOk, setFld, setFL, hk0, hf1]) ?_
  refine s_nx (env1 := [some (.obj 1), some t.d]) (S1 := [c0, .ins 0 [1, 2] [.obj 2, .obj 3], .lst [], .lst []]) (by simp [szOk, setFld, setFL, hk0, hf2]) ?_
  refine s_nx (env1 := [some (.obj 1), some t.d]) (S1 := [c0, .ins 0 [1, 2, 3] [.obj 2, .obj 3, .obj 4], .lst [], .lst [], .lst []]) (by simp [szOk, setFld, setFL, hk0, hf3]) ?_
  refine s_nx (env1 := [some (.obj 1), some t.d]) (S1 := [c0, .ins 0 [1, 2, 3, 4] [.obj 2, .obj 3, .obj 4, .obj 5], .lst [], .lst [], .lst [], .lst []]) (by simp [szOk, setFld, setFL, hk0, hf4]) ?_
  refine s_nx ?_ s_nil
  have hcl : ∀ l : Store, clsD (c0 :: .ins 0 [1, 2, 3, 4] [.obj 2, .obj 3, .obj 4, .obj 5] :: l) (.obj 1) = some 0 := fun _ => rfl
  simp [szOk, hcl, hk0, hm1]
  simp at h11
  rw [h11]
  rfl
/-! ### a Term -/
def trefs (t : Tr) : List Ref := (uT t [] 0).map fun u => meantOf (bT t) u.1 u.2
def tks : List Nat := [5, 6, 7, 3, 4, 8, 9, 10]
def termD (t : Tr) : D := .ins 1 tks [t.d, .lst (dL (flat t).nodes), .lst ((flat t).around.map fun a => .tup (natsD a)), .lst (natsD (flat t).bs), .lst (natsD (flat t).us), .tup ((bT t).map .str), .lst ((uT t [] 0).map fun u => .tup (natsD u.2)), .lst ((trefs t).map refD)]
/-- a tree within the limits of a Term -/
structure Lim (t : Tr) : Prop where
  ok : t.ok = true
  sz : t.sz ≤ 400
  bd : (bT t).length ≤ 60
  dp : t.dp ≤ 100
@[simp] theorem pu_tups (xs : List (List Nat)) : pureL (xs.map fun a => D.tup (natsD a)) = true := pureL_map (fun a => by simp) xs
theorem pu_term (t : Tr) : pureD (termD t) = true := by
  have : pureL ((uT t [] 0).map fun u => D.tup (natsD u.2)) = true := pureL_map (fun a => by simp) _
  simp only [termD, pureD, pu_cons, pu_tr, pu_lst, pu_trL, pu_tups, pu_natsD, pu_tup, pu_strs, this, pu_refs, pu_nil, Bool.and_self]
theorem flat_us_len {t : Tr} (h : t.ok = true) : (flat t).us.length = (uT t [] 0).length := by
  have := congrArg List.length (flat_uses h)
  simpa [uses] using this
theorem flat_bs_len {t : Tr} (h : t.ok = true) : (flat t).bs.length = (bT t).length := by
  have := congrArg List.length (flat_nms h)
  simpa [nms] using this
theorem flat_n_len (t : Tr) : (flat t).nodes.length = t.sz := by
  have := nodes_len t [] F0
  rw [flat, this]; simp [F0]
theorem nm_bT {t : Tr} (h : t.ok = true) : ∀ x ∈ bT t, nmOk x = true := fun x hx => by
  rw [← flat_nms h] at hx
  obtain ⟨i, hi, rfl⟩ := List.mem_map.mp hx
  have ok := (flat_adds h).ok
  have hl := ok.b i hi
  have : nd (flat t) i = (flat t).nodes[i] := by simp [nd, List.getD, List.getElem?_eq_getElem hl]
  rw [this]; exact ok.t _ (List.getElem_mem hl)
mutual
theorem ar_le : ∀ (t : Tr) (ar : List Nat) (F : Fl) (k : Nat), ar.length + t.dp ≤ k → (∀ a ∈ F.around, a.length ≤ k) → ∀ a ∈ (addT t ar F).around, a.length ≤ k
  | .use x, ar, F, k, hk, hF, a, ha => by
    rw [addT] at ha
    rw [Tr.dp] at hk
    rcases List.mem_append.mp ha with h | h
    · exact hF a h
    · simp at h; subst h; omega
  | .join l ps, ar, F, k, hk, hF, a, ha => by
    rw [addT] at ha
    rw [Tr.dp] at hk
    refine ar_leL ps ar _ k (by omega) (fun a ha => ?_) a ha
    rcases List.mem_append.mp ha with h | h
    · exact hF a h
    · simp at h; subst h; omega
  | .bind x a b, ar, F, k, hk, hF, q, hq => by
    rw [addT] at hq
    rw [Tr.dp] at hk
    refine ar_le b _ _ k (by simp; omega) (ar_leL a ar _ k (by omega) (fun a ha => ?_)) q hq
    rcases List.mem_append.mp ha with h | h
    · exact hF a h
    · simp at h; subst h; omega
theorem ar_leL : ∀ (ts : List Tr) (ar : List Nat) (F : Fl) (k : Nat), ar.length + dpL ts ≤ k → (∀ a ∈ F.around, a.length ≤ k) → ∀ a ∈ (addTs ts ar F).around, a.length ≤ k
  | [], ar, F, k, hk, hF, a, ha => by rw [addTs] at ha; exact hF a ha
  | t :: ts, ar, F, k, hk, hF, a, ha => by
    rw [addTs] at ha
    rw [dpL] at hk
    exact ar_leL ts ar _ k (by omega) (ar_le t ar F k (by omega) hF) a ha
end
theorem flat_around_len (t : Tr) : ∀ a ∈ (flat t).around, a.length ≤ t.dp := ar_le t [] F0 t.dp (by simp) (by simp [F0])
/-! ### Term.__init__ -/
theorem c12 (hp : Has p [5, 6, 7, 8, 9, 10, 11, 12, 13]) (hk : Kls p) {n : Nat} {t : Tr} (h : Lim t) (hn : 2 * t.dp + 2 ≤ n) : ∃ S1, (tabN p n).fn 12 [.obj 0, t.d] [.ins 1 [] []] = some (.non, S1) ∧ frz 0 S1 (.obj 0) = some (termD t) := by
  obtain ⟨m, rfl⟩ : ∃ m, n = m + 1 := ⟨n - 1, by omega⟩
  obtain ⟨hok, hsz, hbd, hdp⟩ := h
  have ok := (flat_adds hok).ok
  have hk1 : (tabN p m).ck 1 = true := by rw [tk_ck]; exact hk.k1
  have hk0 : (tabN p m).ck 0 = true := by rw [tk_ck]; exact hk.k0
  have hm2 : (tabN p m).mt 1 2 = some 13 := by rw [tk_mt]; exact hk.m2
  have hf0 : ∀ f ∈ [1, 2, 3, 4], (tabN p m).fl 0 f = true := by rw [tk_fl]; exact hk.f0
  have hfl : ∀ f ∈ [5, 6, 7, 3, 4, 8, 9, 10], (tabN p m).fl 1 f = true := by rw [tk_fl]; exact hk.f1
  have h6 := fun S => c6 (p := p) (hp.mono (by decide)) t m (by omega) hok (by omega) S
  have h9 := fun S => c9 (p := p) (hp.mono (by decide)) t m (by omega) (by omega) S
  have h10 := fun c0 => c10 (p := p) (n := m) (hp.mono (by decide)) hk t (by omega) (by omega) (by omega) c0
  have hnl := flat_n_len t
  have hbl := flat_bs_len hok
  let F := flat t
  let e : Option D → DEnv := fun x => [some (.obj 0), some t.d, some (.obj 1), x]
  have at_ : ∀ (c0 : Cell) (l : Store) (x : Option D) (f : Nat) (v : D), f ∈ [1, 2, 3, 4] → fldL [1, 2, 3, 4] [.obj 2, .obj 3, .obj 4, .obj 5] f = some v → evE (tabN p m) (.attr f (.var 2)) (e x) (flS c0 F ++ l) = some (v, flS c0 F ++ l) := fun c0 l x f v hf hv => by
    have h1 : clsD (flS c0 F ++ l) (.obj 1) = some 0 := rfl
    have h2 : fldD (flS c0 F ++ l) f (.obj 1) = fldL [1, 2, 3, 4] [.obj 2, .obj 3, .obj 4, .obj 5] f := rfl
    rw [e_attr, e_var]
    simp only [e, List.getElem?_cons_succ, List.getElem?_cons_zero, h1, hk0, hf0 f hf, Bool.and_self, if_true, h2, hv]
  have set_ : ∀ (f : Nat) (y : D) (ks : List Nat) (vs : List D) (l : Store), f ∈ [5, 6, 7, 3, 4, 8, 9, 10] → ks.length < 900 → setFld (tabN p m) (.obj 0) f y (flS (.ins 1 ks vs) F ++ l) = some (flS (.ins 1 (setFL ks vs f y).1 (setFL ks vs f y).2) F ++ l) := fun f y ks vs l hf hl => by
    show (if ks.length < 900 && ((tabN p m).ck 1 && (tabN p m).fl 1 f) then _ else none) = _
    rw [hk1, hfl f hf, decide_eq_true hl]
    rfl
  have v0 : ∀ (x : Option D) (S : Store), evE (tabN p m) (.var 0) (e x) S = some (.obj 0, S) := fun x S => by rw [e_var]; rfl
  have sF : ∀ (f : Nat) (ie : IE) (y : D) (ks : List Nat) (vs : List D) (l l' : Store) (x : Option D), f ∈ [5, 6, 7, 3, 4, 8, 9, 10] → ks.length < 900 → evE (tabN p m) ie (e x) (flS (.ins 1 ks vs) F ++ l) = some (y, flS (.ins 1 ks vs) F ++ l') → ex (tabN p m) (.setF (.var 0) f ie) (e x) (flS (.ins 1 ks vs) F ++ l) = some (.nx (e x) (flS (.ins 1 (setFL ks vs f y).1 (setFL ks vs f y).2) F ++ l')) := fun f ie y ks vs l l' x hf hl hie => by
    rw [s_setF, hie]
    simp only [v0, set_ f y ks vs l' hf hl]
  have s0 : ex (tabN p m) (B12.getD 0 .nev) [some (.obj 0), some t.d, none, none] [.ins 1 [] []] = some (.nx [some (.obj 0), some t.d, none, none] [.ins 1 [] []]) := by
    simp [B12, List.getD, h6]
  have s1 : ex (tabN p m) (B12.getD 1 .nev) [some (.obj 0), some t.d, none, none] [.ins 1 [] []] = some (.nx (e none) (flS (.ins 1 [] []) F ++ [])) := by
    show ex _ (.asg (.nm 2) (.make 0 10 false [.var 1])) _ _ = _
    rw [s_asg, evE]
    simp [h10]
    exact ⟨rfl, rfl⟩
  have o2 : ∀ (c0 : Cell) (l : Store), (flS c0 F ++ l)[2]? = some (.lst (dL F.nodes)) := fun _ _ => rfl
  have o3 : ∀ (c0 : Cell) (l : Store), (flS c0 F ++ l)[3]? = some (.lst (F.around.map fun a => .tup (natsD a))) := fun _ _ => rfl
  have o4 : ∀ (c0 : Cell) (l : Store), (flS c0 F ++ l)[4]? = some (.lst (natsD F.bs)) := fun _ _ => rfl
  have o5 : ∀ (c0 : Cell) (l : Store), (flS c0 F ++ l)[5]? = some (.lst (natsD F.us)) := fun _ _ => rfl
  have s2 : ex (tabN p m) (B12.getD 2 .nev) (e none) (flS (.ins 1 [] []) F ++ []) = some (.nx (e none) (flS (.ins 1 [] []) F ++ [])) := by
    show ex _ (.ite (.p2 .gt (.pb .len false [.attr 1 (.var 2)]) (.con (.int 400))) [.nev] []) _ _ = _
    have hc : evE (tabN p m) (.p2 .gt (.pb .len false [.attr 1 (.var 2)]) (.con (.int 400))) (e none) (flS (.ins 1 [] []) F ++ []) = some (.bl (decide ((400 : Int) < (dL F.nodes).length)), flS (.ins 1 [] []) F ++ []) := by
      rw [e_p2, e_pb, l_cons, at_ _ _ none 1 (.obj 2) (by simp) rfl]
      simp only [l_nil, b_leno (o2 _ _), e_con, o_gt]
    rw [if_f hc (by rw [dL_len, hnl]; exact decide_eq_false (by omega)), s_nil]
  have s3 : ex (tabN p m) (B12.getD 3 .nev) (e none) (flS (.ins 1 [] []) F ++ []) = some (.nx (e none) (flS (.ins 1 [] []) F ++ [])) := by
    show ex _ (.ite (.p2 .gt (.pb .len false [.attr 3 (.var 2)]) (.con (.int 60))) [.nev] []) _ _ = _
    have hc : evE (tabN p m) (.p2 .gt (.pb .len false [.attr 3 (.var 2)]) (.con (.int 60))) (e none) (flS (.ins 1 [] []) F ++ []) = some (.bl (decide ((60 : Int) < (natsD F.bs).length)), flS (.ins 1 [] []) F ++ []) := by
      rw [e_p2, e_pb, l_cons, at_ _ _ none 3 (.obj 4) (by simp) rfl]
      simp only [l_nil, b_leno (o4 _ _), e_con, o_gt]
    rw [if_f hc (by rw [List.length_map, hbl]; exact decide_eq_false (by omega)), s_nil]
  have s4 : ex (tabN p m) (B12.getD 4 .nev) (e none) (flS (.ins 1 [] []) F ++ []) = some (.nx (e none) (flS (.ins 1 [] []) F ++ [])) := by
    show ex _ (.ite (.p2 .gt (.call 9 [.var 1]) (.con (.int 100))) [.nev] []) _ _ = _
    have hc : evE (tabN p m) (.p2 .gt (.call 9 [.var 1]) (.con (.int 100))) (e none) (flS (.ins 1 [] []) F ++ []) = some (.bl (decide ((100 : Int) < t.dp)), flS (.ins 1 [] []) F ++ []) := by
      rw [e_p2, e_call, l_cons, e_var]
      simp only [e, l_nil, List.getElem?_cons_succ, List.getElem?_cons_zero, h9, e_con, o_gt]
    rw [if_f hc (decide_eq_false (by omega)), s_nil]
  have s5 : ex (tabN p m) (B12.getD 5 .nev) (e none) (flS (.ins 1 [] []) F ++ []) = some (.nx (e none) (flS (.ins 1 [5] [t.d]) F ++ [])) :=
    sF 5 (.var 1) t.d [] [] [] [] none (by simp) (by simp) (by rw [e_var]; rfl)
  have s6 : ex (tabN p m) (B12.getD 6 .nev) (e none) (flS (.ins 1 [5] [t.d]) F ++ []) = some (.nx (e none) (flS (.ins 1 [5, 6] [t.d, .obj 2]) F ++ [])) :=
    sF 6 (.attr 1 (.var 2)) (.obj 2) [5] [t.d] [] [] none (by simp) (by simp) (at_ _ _ none 1 (.obj 2) (by simp) rfl)
  have s7 : ex (tabN p m) (B12.getD 7 .nev) (e none) (flS (.ins 1 [5, 6] [t.d, .obj 2]) F ++ []) = some (.nx (e none) (flS (.ins 1 [5, 6, 7] [t.d, .obj 2, .obj 3]) F ++ [])) :=
    sF 7 (.attr 2 (.var 2)) (.obj 3) [5, 6] [t.d, .obj 2] [] [] none (by simp) (by simp) (at_ _ _ none 2 (.obj 3) (by simp) rfl)
  have s8 : ex (tabN p m) (B12.getD 8 .nev) (e none) (flS (.ins 1 [5, 6, 7] [t.d, .obj 2, .obj 3]) F ++ []) = some (.nx (e none) (flS (.ins 1 [5, 6, 7, 3] [t.d, .obj 2, .obj 3, .obj 4]) F ++ [])) :=
    sF 3 (.attr 3 (.var 2)) (.obj 4) [5, 6, 7] [t.d, .obj 2, .obj 3] [] [] none (by simp) (by simp) (at_ _ _ none 3 (.obj 4) (by simp) rfl)
  have s9 : ex (tabN p m) (B12.getD 9 .nev) (e none) (flS (.ins 1 [5, 6, 7, 3] [t.d, .obj 2, .obj 3, .obj 4]) F ++ []) = some (.nx (e none) (flS (.ins 1 [5, 6, 7, 3, 4] [t.d, .obj 2, .obj 3, .obj 4, .obj 5]) F ++ [])) :=
    sF 4 (.attr 4 (.var 2)) (.obj 5) [5, 6, 7, 3] [t.d, .obj 2, .obj 3, .obj 4] [] [] none (by simp) (by simp) (at_ _ _ none 4 (.obj 5) (by simp) rfl)
  have hbs : F.bs.length ≤ 100000 := by show (flat t).bs.length ≤ _; omega
  have hul : F.us.length ≤ F.nodes.length := by
    have := sm_add t [] F0 0 ⟨by simp [F0]; omega, rfl, by simp [F0], by simp [F0]⟩
    exact this.u
  have hus : F.us.length ≤ 100000 := by have : F.nodes.length = t.sz := hnl; omega
  have eN : F.bs.map (fun i => D.str (label (nd F i))) = (bT t).map .str := by rw [← flat_nms hok, nms, List.map_map]; rfl
  have s10 : ex (tabN p m) (B12.getD 10 .nev) (e none) (flS (.ins 1 [5, 6, 7, 3, 4] [t.d, .obj 2, .obj 3, .obj 4, .obj 5]) F ++ []) = some (.nx (e none) (flS (.ins 1 [5, 6, 7, 3, 4, 8] [t.d, .obj 2, .obj 3, .obj 4, .obj 5, .tup ((bT t).map .str)]) F ++ [])) := by
    refine sF 8 (.pb .tuple true [.lc false [3] (.nm 3) 0 [.attr 3 (.var 2)] none (.p2 .idx (.p2 .idx (.attr 1 (.var 2)) (.var 3)) (.con (.int 1)))]) (.tup ((bT t).map .str)) [5, 6, 7, 3, 4] [t.d, .obj 2, .obj 3, .obj 4, .obj 5] [] [] none (by simp) (by simp) ?_
    rw [e_pb, l_cons, E_lcm (enc := iD) (g := fun i => .str (label (nd F i))) (ys := F.bs) (ds := [.obj 4]) (S1 := flS (.ins 1 [5, 6, 7, 3, 4] [t.d, .obj 2, .obj 3, .obj 4, .obj 5]) F ++ [])]
    · simp only [l_nil, nl_f, b_tupl, eN]
    · rw [l_cons, at_ _ _ none 3 (.obj 4) (by simp) rfl]; simp only [l_nil]
    · exact .inr ⟨4, rfl, o4 _ _⟩
    · intro i hi
      have hl := ok.b i hi
      have hnd : (dL F.nodes)[i]? = some (nd F i).d := by
        rw [dL_map, List.getElem?_map, List.getElem?_eq_getElem hl]
        simp [nd, List.getD, F, List.getElem?_eq_getElem hl]
      have ha := at_ (.ins 1 [5, 6, 7, 3, 4] [t.d, .obj 2, .obj 3, .obj 4, .obj 5]) [] (some (iD i)) 1 (.obj 2) (by simp) rfl
      have hw : (wipeD (e none) [3]).set 3 (some (iD i)) = e (some (iD i)) := rfl
      have v3 : ∀ S : Store, evE (tabN p m) (.var 3) (e (some (iD i))) S = some (iD i, S) := fun S => by rw [e_var]; rfl
      simp only [lcStep, t_nm, hw, c_none, e_p2, ha, v3, o_idxo (o2 _ _), ixN, hnd, e_con, ix1]
    · exact hbs
  have eU : F.us.map (fun i => D.tup (natsD (arr F i))) = (uT t [] 0).map fun u => .tup (natsD u.2) := by rw [← flat_uses hok, uses, List.map_map]; rfl
  have s11 : ex (tabN p m) (B12.getD 11 .nev) (e none) (flS (.ins 1 [5, 6, 7, 3, 4, 8] [t.d, .obj 2, .obj 3, .obj 4, .obj 5, .tup ((bT t).map .str)]) F ++ []) = some (.nx (e none) (flS (.ins 1 [5, 6, 7, 3, 4, 8, 9] [t.d, .obj 2, .obj 3, .obj 4, .obj 5, .tup ((bT t).map .str), .obj 6]) F ++ [.lst ((uT t [] 0).map fun u => .tup (natsD u.2))])) := by
    refine sF 9 (.lc true [3] (.nm 3) 0 [.attr 4 (.var 2)] none (.p2 .idx (.attr 2 (.var 2)) (.var 3))) (.obj 6) [5, 6, 7, 3, 4, 8] [t.d, .obj 2, .obj 3, .obj 4, .obj 5, .tup ((bT t).map .str)] [] [.lst ((uT t [] 0).map fun u => .tup (natsD u.2))] none (by simp) (by simp) ?_
    rw [E_lcm (enc := iD) (g := fun i => .tup (natsD (arr F i))) (ys := F.us) (ds := [.obj 5]) (S1 := flS (.ins 1 [5, 6, 7, 3, 4, 8] [t.d, .obj 2, .obj 3, .obj 4, .obj 5, .tup ((bT t).map .str)]) F ++ [])]
    · rw [eU, nl_t]; rfl
    · rw [l_cons, at_ _ _ none 4 (.obj 5) (by simp) rfl]; simp only [l_nil]
    · exact .inr ⟨5, rfl, o5 _ _⟩
    · intro i hi
      have hl := ok.u i hi
      have hla : i < F.around.length := by rw [ok.a]; exact hl
      have har : (F.around.map fun a => D.tup (natsD a))[i]? = some (.tup (natsD (arr F i))) := by
        rw [List.getElem?_map, List.getElem?_eq_getElem hla]
        simp [arr, List.getD, List.getElem?_eq_getElem hla]
      have ha := at_ (.ins 1 [5, 6, 7, 3, 4, 8] [t.d, .obj 2, .obj 3, .obj 4, .obj 5, .tup ((bT t).map .str)]) [] (some (iD i)) 2 (.obj 3) (by simp) rfl
      have hw : (wipeD (e none) [3]).set 3 (some (iD i)) = e (some (iD i)) := rfl
      have v3 : ∀ S : Store, evE (tabN p m) (.var 3) (e (some (iD i))) S = some (iD i, S) := fun S => by rw [e_var]; rfl
      simp only [lcStep, t_nm, hw, c_none, e_p2, ha, v3, o_idxo (o3 _ _), ixN, har]
    · exact hus
  have eM : F.us.map (fun i => refD (meantOf (bT t) (label (nd F i)) (arr F i))) = (trefs t).map refD := by rw [trefs, ← flat_uses hok, uses, List.map_map, List.map_map]; rfl
  have s12 : ex (tabN p m) (B12.getD 12 .nev) (e none) (flS (.ins 1 [5, 6, 7, 3, 4, 8, 9] [t.d, .obj 2, .obj 3, .obj 4, .obj 5, .tup ((bT t).map .str), .obj 6]) F ++ [.lst ((uT t [] 0).map fun u => .tup (natsD u.2))]) = some (.nx (e none) (flS (.ins 1 tks [t.d, .obj 2, .obj 3, .obj 4, .obj 5, .tup ((bT t).map .str), .obj 6, .obj 7]) F ++ [.lst ((uT t [] 0).map fun u => .tup (natsD u.2)), .lst ((trefs t).map refD)])) := by
    refine sF 10 (.lc true [3] (.nm 3) 0 [.attr 4 (.var 2)] none (.meth 2 (.var 0) [.var 3])) (.obj 7) [5, 6, 7, 3, 4, 8, 9] [t.d, .obj 2, .obj 3, .obj 4, .obj 5, .tup ((bT t).map .str), .obj 6] [.lst ((uT t [] 0).map fun u => .tup (natsD u.2))] [.lst ((uT t [] 0).map fun u => .tup (natsD u.2)), .lst ((trefs t).map refD)] none (by simp) (by simp) ?_
    rw [E_lcm (enc := iD) (g := fun i => refD (meantOf (bT t) (label (nd F i)) (arr F i))) (ys := F.us) (ds := [.obj 5]) (S1 := flS (.ins 1 [5, 6, 7, 3, 4, 8, 9] [t.d, .obj 2, .obj 3, .obj 4, .obj 5, .tup ((bT t).map .str), .obj 6]) F ++ [.lst ((uT t [] 0).map fun u => .tup (natsD u.2))])]
    · rw [eM, nl_t]; simp [flS]
    · rw [l_cons, at_ _ _ none 4 (.obj 5) (by simp) rfl]; simp only [l_nil]
    · exact .inr ⟨5, rfl, o5 _ _⟩
    · intro i hi
      have hl := ok.u i hi
      have h13 := c13 (p := p) (n := m) (hp.mono (by decide)) hk (by omega) (S := flS (.ins 1 [5, 6, 7, 3, 4, 8, 9] [t.d, .obj 2, .obj 3, .obj 4, .obj 5, .tup ((bT t).map .str), .obj 6]) F ++ [.lst ((uT t [] 0).map fun u => .tup (natsD u.2))]) (F := F) (ns := bT t) rfl rfl rfl rfl (o2 _ _) (o3 _ _) hl ok hbl (nm_bT hok) (fun a ha => by have := flat_around_len t a ha; omega)
      have hw : (wipeD (e none) [3]).set 3 (some (iD i)) = e (some (iD i)) := rfl
      have v3 : ∀ S : Store, evE (tabN p m) (.var 3) (e (some (iD i))) S = some (iD i, S) := fun S => by rw [e_var]; rfl
      have v0' : ∀ (S : Store), evE (tabN p m) (.var 0) (e (some (iD i))) S = some (.obj 0, S) := fun S => by rw [e_var]; rfl
      have hcl : clsD (flS (.ins 1 [5, 6, 7, 3, 4, 8, 9] [t.d, .obj 2, .obj 3, .obj 4, .obj 5, .tup ((bT t).map .str), .obj 6]) F ++ [.lst ((uT t [] 0).map fun u => .tup (natsD u.2))]) (.obj 0) = some 1 := rfl
      simp only [lcStep, t_nm, hw, c_none, e_meth, v0', hcl, hk1, hm2, if_true, l_cons, v3, l_nil, h13]
    · exact hus
  have p1 : pureL ((uT t [] 0).map fun u => D.tup (natsD u.2)) = true := pureL_map (fun a => by simp) _
  refine ⟨flS (.ins 1 tks [t.d, .obj 2, .obj 3, .obj 4, .obj 5, .tup ((bT t).map .str), .obj 6, .obj 7]) F ++ [.lst ((uT t [] 0).map fun u => .tup (natsD u.2)), .lst ((trefs t).map refD)], ?_, ?_⟩
  · rw [fn_at (d := D12) (hp 12 (by decide))]
    exact run_2n (env1 := e none) rfl rfl (s_nx s0 (s_nx s1 (s_nx s2 (s_nx s3 (s_nx s4 (s_nx s5 (s_nx s6 (s_nx s7 (s_nx s8 (s_nx s9 (s_nx s10 (s_nx s11 (s_nx s12 s_nil)))))))))))))
  · generalize hS : flS (.ins 1 tks [t.d, .obj 2, .obj 3, .obj 4, .obj 5, .tup ((bT t).map .str), .obj 6, .obj 7]) F ++ [.lst ((uT t [] 0).map fun u => .tup (natsD u.2)), .lst ((trefs t).map refD)] = S1
    have g0 : S1[0]? = some (.ins 1 tks [t.d, .obj 2, .obj 3, .obj 4, .obj 5, .tup ((bT t).map .str), .obj 6, .obj 7]) := by rw [← hS]; rfl
    have g2 : S1[2]? = some (.lst (dL F.nodes)) := by rw [← hS]; rfl
    have g3 : S1[3]? = some (.lst (F.around.map fun a => .tup (natsD a))) := by rw [← hS]; rfl
    have g4 : S1[4]? = some (.lst (natsD F.bs)) := by rw [← hS]; rfl
    have g5 : S1[5]? = some (.lst (natsD F.us)) := by rw [← hS]; rfl
    have g6 : S1[6]? = some (.lst ((uT t [] 0).map fun u => .tup (natsD u.2))) := by rw [← hS]; rfl
    have g7 : S1[7]? = some (.lst ((trefs t).map refD)) := by rw [← hS]; rfl
    have fz : ∀ (j : Nat) (xs : List D), S1[j]? = some (.lst xs) → pureL xs = true → frzC S1 0 5 j = some (.lst xs) := fun j xs hj hx => by
      simp [frzC, hj, frzL_pure _ xs hx]
    have f2 := fz 2 _ g2 (pu_trL _)
    have f3 := fz 3 _ g3 (pu_tups _)
    have f4 := fz 4 _ g4 (pu_natsD _)
    have f5 := fz 5 _ g5 (pu_natsD _)
    have f6 := fz 6 _ g6 p1
    have f7 := fz 7 _ g7 (pu_refs _)
    have w1 := frzW_pure (frzC S1 0 5) t.d (pu_tr t)
    have w2 := frzW_pure (frzC S1 0 5) (.tup ((bT t).map .str)) (by simp)
    have wo : ∀ j, frzW (frzC S1 0 5) (.obj j) = frzC S1 0 5 j := fun _ => rfl
    show frzC S1 0 6 0 = _
    rw [frzC]
    simp only [g0, Nat.lt_irrefl, if_false, frzL, w1, w2, wo, f2, f3, f4, f5, f6, f7]
    rfl
/-- Term(tree) -/
theorem e_term (hp : Has p [5, 6, 7, 8, 9, 10, 11, 12, 13]) (hk : Kls p) {n : Nat} {t : Tr} (h : Lim t) (hn : 2 * t.dp + 2 ≤ n) {ie : IE} {env : DEnv} {S S1 : Store} (he : evE (tabN p n) ie env S = some (t.d, S1)) : evE (tabN p n) (.make 1 12 true [ie]) env S = some (termD t, S1) := by
  obtain ⟨S2, h1, h2⟩ := c12 hp hk h hn
  rw [evE]
  simp only [l_cons, he, l_nil, if_true, pu_cons, pu_tr, pu_nil, Bool.and_self, h1, h2]
end Sp

set_option Elab.async false
set_option linter.all false
set_option maxRecDepth 100000
namespace Sp
open LN LP PySem
variable {p : Prog}
/-! ### fields of a Term -/
theorem at_term {p : Prog} {n : Nat} (hk : Kls p) {t : Tr} {env : DEnv} {S : Store} (i f : Nat) (v : D) (he : env[i]? = some (some (termD t))) (hf : f ∈ [5, 6, 7, 3, 4, 8, 9, 10]) (hv : fldL tks [t.d, .lst (dL (flat t).nodes), .lst ((flat t).around.map fun a => .tup (natsD a)), .lst (natsD (flat t).bs), .lst (natsD (flat t).us), .tup ((bT t).map .str), .lst ((uT t [] 0).map fun u => .tup (natsD u.2)), .lst ((trefs t).map refD)] f = some v) :
    evE (tabN p n) (.attr f (.var i)) env S = some (v, S) := by
  have h1 : clsD S (termD t) = some 1 := rfl
  have h2 : fldD S f (termD t) = some v := hv
  rw [e_attr, e_var, he]
  simp only [h1, tk_ck, hk.k1, tk_fl, hk.f1 f hf, Bool.and_self, if_true, h2]
theorem at_names {n : Nat} (hk : Kls p) {t : Tr} {env : DEnv} {S : Store} (i : Nat) (he : env[i]? = some (some (termD t))) : evE (tabN p n) (.attr 8 (.var i)) env S = some (.tup ((bT t).map .str), S) := at_term hk i 8 _ he (by simp) rfl
theorem at_around {n : Nat} (hk : Kls p) {t : Tr} {env : DEnv} {S : Store} (i : Nat) (he : env[i]? = some (some (termD t))) : evE (tabN p n) (.attr 9 (.var i)) env S = some (.lst ((uT t [] 0).map fun u => .tup (natsD u.2)), S) := at_term hk i 9 _ he (by simp) rfl
theorem at_mean {n : Nat} (hk : Kls p) {t : Tr} {env : DEnv} {S : Store} (i : Nat) (he : env[i]? = some (some (termD t))) : evE (tabN p n) (.attr 10 (.var i)) env S = some (.lst ((trefs t).map refD), S) := at_term hk i 10 _ he (by simp) rfl
/-! ### look_at_term, look_at_binder -/
theorem c34 (hp : Has p [34]) (hk : Kls p) {n : Nat} (hn : 1 ≤ n) (t : Tr) (S : Store) : (tabN p n).fn 34 [termD t] S = some (.non, S) := by
  obtain ⟨m, rfl⟩ : ∃ m, n = m + 1 := ⟨n - 1, by omega⟩
  rw [fn_at (d := D34) (hp 34 (by decide))]
  refine run_0n (env1 := [some (termD t)]) (S1 := []) rfl (by simp [pu_term]) rfl ?_ S
  refine s_nx ?_ s_nil
  show ex _ (.ite (.not (.isi [.cls 1] (.var 0))) [.nev] []) _ _ = _
  have hg : ∀ S, tagD S (termD t) = some (.ins 1) := fun _ => rfl
  have hc : evE (tabN p m) (.not (.isi [.cls 1] (.var 0))) (startD D34.nn [termD t]) [] = some (.bl false, []) := by
    have e0 : (startD D34.nn [termD t])[0]? = some (some (termD t)) := rfl
    rw [e_not, e_isi, e_var, e0]
    simp [hg, isiL, isi1, tk_ic, hk.i1]
  rw [if_f hc rfl, s_nil]
  rfl
theorem c35 (hp : Has p [3, 4, 34, 35]) (hk : Kls p) {n : Nat} (hn : 3 ≤ n) (t : Tr) {b : Nat} (hb : b < (bT t).length) (S : Store) : (tabN p n).fn 35 [termD t, iD b] S = some (.non, S) := by
  obtain ⟨m, rfl⟩ : ∃ m, n = m + 1 := ⟨n - 1, by omega⟩
  rw [fn_at (d := D35) (hp 35 (by decide))]
  have h34 := fun S => c34 (p := p) (n := m) (hp.mono (by decide)) hk (by omega) t S
  have h4 := fun i lo hi S => c4 (p := p) (n := m) (hp.mono (by decide)) (by omega) i lo hi S
  refine run_0n (env1 := [some (termD t), some (iD b)]) (S1 := []) rfl (by simp [pu_term]) rfl ?_ S
  refine s_nx (env1 := [some (termD t), some (iD b)]) (S1 := []) (by simp [startD, D35, h34]) (s_nx ?_ s_nil)
  show ex _ (.ite (.not (.call 4 [.var 1, .con (.int 0), .p2 .sub (.pb .len false [.attr 8 (.var 0)]) (.con (.int 1))])) [.nev] []) _ _ = _
  have hl : evE (tabN p m) (.pb .len false [.attr 8 (.var 0)]) [some (termD t), some (iD b)] [] = some (iD (bT t).length, []) := by
    rw [e_pb, l_cons, at_names hk 0 rfl]
    simp
  have hc : evE (tabN p m) (.not (.call 4 [.var 1, .con (.int 0), .p2 .sub (.pb .len false [.attr 8 (.var 0)]) (.con (.int 1))])) [some (termD t), some (iD b)] [] = some (.bl (!decide ((0 : Int) ≤ b ∧ (b : Int) ≤ (bT t).length - 1)), []) := by
    rw [e_not, e_call]
    simp only [l_cons, e_var, e_con, e_p2, hl, l_nil, o_sub, List.getElem?_cons_succ, List.getElem?_cons_zero, h4]
  have hd : decide ((0 : Int) ≤ b ∧ (b : Int) ≤ (bT t).length - 1) = true := decide_eq_true ⟨by omega, by omega⟩
  rw [if_f hc (by rw [hd]; rfl), s_nil]
/-! ### inner, name_for -/
def inn (ar : List Nat) : Ref → List Nat
  | .inr _ => ar
  | .inl b => ar.filter fun x => decide (b < x)
theorem c53 (hp : Has p [53]) {n : Nat} (hn : 1 ≤ n) (ar : List Nat) (r : Ref) (hz : ar.length ≤ 100000) (S : Store) : (tabN p n).fn 53 [.tup (natsD ar), refD r] S = some (.lst (natsD (inn ar r)), S) := by
  obtain ⟨m, rfl⟩ : ∃ m, n = m + 1 := ⟨n - 1, by omega⟩
  rw [fn_at (d := D53) (hp 53 (by decide))]
  refine run_0 (d := .lst (natsD (inn ar r))) (S1 := []) rfl (by simp [pu_ref]) rfl (s_rt ?_) (frz_pure (by simp) _) S
  show ex _ (.ret (.ite (.isi [.bt .str] (.var 1)) (.pb .list false [.var 0]) (.lc false [2] (.nm 2) 0 [.var 0] (some (.p2 .gt (.var 2) (.var 1))) (.var 2)))) _ _ = _
  cases r with
  | inr x => simp [startD, D53, refD, isiL, isi1, isiB, inn]
  | inl b =>
    have hi : evE (tabN p m) (.isi [.bt .str] (.var 1)) (startD D53.nn [.tup (natsD ar), iD b]) [] = some (.bl false, []) := by simp [startD, D53, isiL, isi1, isiB]
    have hlc := E_lcf (T := tabN p m) (env := startD D53.nn [.tup (natsD ar), iD b]) (vs := [2]) (tg := .nm 2) (k := 0) (it := [.var 0]) (cd := some (.p2 .gt (.var 2) (.var 1))) (e := .var 2) (cell := false) (enc := iD) (g := iD) (c := fun x => decide (b < x)) (ys := ar) (ds := [.tup (natsD ar)]) (S := []) (S1 := [])
      (by simp [startD, D53]) (.inl (by simp [srcD])) (fun x hx => by by_cases q : b < x <;> simp [lcStep, startD, D53, wipeD, q]) hz
    show ex _ _ (startD D53.nn [.tup (natsD ar), iD b]) _ = _
    rw [s_ret, e_ite, hi]
    simp only [hlc, nl_f]
    rfl
/-- the name of what is meant by a naming -/
def nameOf (xs : List Nm) : Ref → Nm
  | .inr x => x
  | .inl b => xs.getD b []
theorem c50 (hp : Has p [50]) {n : Nat} (hn : 1 ≤ n) (xs : List Nm) (r : Ref) (hr : ∀ b, r = .inl b → b < xs.length) (S : Store) : (tabN p n).fn 50 [.tup (xs.map .str), refD r] S = some (.str (nameOf xs r), S) := by
  obtain ⟨m, rfl⟩ : ∃ m, n = m + 1 := ⟨n - 1, by omega⟩
  rw [fn_at (d := D50) (hp 50 (by decide))]
  refine run_2 rfl rfl (s_rt ?_)
  show ex _ (.ret (.ite (.isi [.bt .str] (.var 1)) (.var 1) (.p2 .idx (.var 0) (.var 1)))) _ _ = _
  cases r with
  | inr x => simp [startD, D50, refD, isiL, isi1, isiB, nameOf]
  | inl b =>
    have hb := hr b rfl
    have : (xs.map D.str)[b]? = some (.str (nameOf xs (.inl b))) := by
      rw [List.getElem?_map, List.getElem?_eq_getElem hb]
      simp [nameOf, List.getD, List.getElem?_eq_getElem hb]
    simp [startD, D50, refD, isiL, isi1, isiB, ixN, this]
theorem c50l (hp : Has p [50]) {n : Nat} (hn : 1 ≤ n) (xs : List Nm) (r : Ref) (hr : ∀ b, r = .inl b → b < xs.length) (S : Store) : (tabN p n).fn 50 [.lst (xs.map .str), refD r] S = some (.str (nameOf xs r), S) := by
  obtain ⟨m, rfl⟩ : ∃ m, n = m + 1 := ⟨n - 1, by omega⟩
  rw [fn_at (d := D50) (hp 50 (by decide))]
  refine run_2 rfl rfl (s_rt ?_)
  show ex _ (.ret (.ite (.isi [.bt .str] (.var 1)) (.var 1) (.p2 .idx (.var 0) (.var 1)))) _ _ = _
  cases r with
  | inr x => simp [startD, D50, refD, isiL, isi1, isiB, nameOf]
  | inl b =>
    have hb := hr b rfl
    have : (xs.map D.str)[b]? = some (.str (nameOf xs (.inl b))) := by
      rw [List.getElem?_map, List.getElem?_eq_getElem hb]
      simp [nameOf, List.getD, List.getElem?_eq_getElem hb]
    simp [startD, D50, refD, isiL, isi1, isiB, ixN, this]
end Sp

set_option Elab.async false
set_option linter.all false
set_option maxRecDepth 100000
namespace Sp
open LN LP PySem
variable {p : Prog}
/-! ### a comprehension over a dict -/
theorem e_lcd {T : Tab} {env : DEnv} {S : Store} (cell : Bool) (vs : List Nat) (tg : Tg) (it : IE) (cd : Option IE) (e : IE) : evE T (.lcd cell vs tg it cd e) env S = (match evE T it env S with
    | some (.obj i, S1) => match S1[i]? with
      | some (.dct ks _) => match lcL (lcStep T [] tg cd e (pureN (wipeD env vs))) (ks.map dkD) [] with
        | some (ys, S5) => match frzL (frzC S5 0 6) ys with
          | some zs => if szOk ys.length then some (newL cell zs S1) else none
          | none => none
        | none => none
      | _ => none
    | _ => none) := by rw [evE] <;> rfl
theorem E_lcd {T : Tab} {env : DEnv} {S S1 : Store} {cell : Bool} {vs : List Nat} {tg : Tg} {it : IE} {cd : Option IE} {e : IE} {α : Type} {key : α → DK} {g : α → D} {c : α → Bool} {i : Nat} {ks : List α} {xs : List D} (hit : evE T it env S = some (.obj i, S1)) (hs : S1[i]? = some (.dct (ks.map key) xs))
    (hk : ∀ y ∈ ks, lcStep T [] tg cd e (pureN (wipeD env vs)) (dkD (key y)) [] = some (if c y then some (g y) else none, [])) (hg : ∀ y, pureD (g y) = true) (hz : ks.length ≤ 100000) : evE T (.lcd cell vs tg it cd e) env S = some (newL cell ((ks.filter c).map g) S1) := by
  have h1 := lcL_fm (enc := fun y => dkD (key y)) ks hk
  rw [fm_if] at h1
  have h2 : (ks.map key).map dkD = ks.map fun y => dkD (key y) := by rw [List.map_map]; rfl
  have h3 : szOk ((ks.filter c).map g).length = true := decide_eq_true (by rw [List.length_map]; exact Nat.le_trans (List.length_filter_le _ _) hz)
  rw [e_lcd, hit]
  simp only [hs, h2, h1, frzL_pure _ _ (pureL_map hg _), h3, if_true]
/-! ### names in order, binders in order -/
def insN (i : Nat) : List Nat → List Nat
  | [] => [i]
  | j :: js => if i ≤ j then i :: j :: js else j :: insN i js
def sortN : List Nat → List Nat
  | [] => []
  | i :: is => insN i (sortN is)
theorem insI_nat (i : Nat) : ∀ xs : List Nat, insI (i : Int) (xs.map fun x : Nat => (x : Int)) = (insN i xs).map fun x : Nat => (x : Int)
  | [] => rfl
  | j :: js => by
    rw [List.map_cons, insI, insN]
    by_cases h : i ≤ j
    · rw [if_pos h, if_pos (by omega)]; rfl
    · rw [if_neg h, if_neg (by omega), insI_nat i js]; rfl
theorem sortI_nat : ∀ xs : List Nat, sortI (xs.map fun x : Nat => (x : Int)) = (sortN xs).map fun x : Nat => (x : Int)
  | [] => rfl
  | x :: xs => by rw [List.map_cons, sortI, sortN, sortI_nat xs, insI_nat]
def rk : Ref → DK
  | .inl b => .inl (b : Int)
  | .inr x => .inr x
theorem rk_inj : ∀ a b : Ref, rk a = rk b → a = b
  | .inl a, .inl b, h => by simp only [rk, Sum.inl.injEq] at h; exact congrArg Sum.inl (by omega)
  | .inr a, .inr b, h => by simp [rk] at h; rw [h]
  | .inl a, .inr b, h => by simp [rk] at h
  | .inr a, .inl b, h => by simp [rk] at h
theorem dk_rk (r : Ref) : dkD (rk r) = refD r := by cases r <;> rfl
theorem key_ref (r : Ref) : keyD (refD r) = some (rk r) := by cases r <;> rfl
def isS : Ref → Bool
  | .inl _ => false
  | .inr _ => true
def intsOf : List Ref → List Nat
  | [] => []
  | .inl b :: rs => b :: intsOf rs
  | .inr _ :: rs => intsOf rs
def strsOf : List Ref → List Nm
  | [] => []
  | .inl _ :: rs => strsOf rs
  | .inr x :: rs => x :: strsOf rs
theorem ints_f : ∀ rs : List Ref, (rs.filter fun r => !isS r).map refD = natsD (intsOf rs)
  | [] => rfl
  | .inl b :: rs => by
    have := ints_f rs
    simp only [intsOf, List.map_cons]
    rw [List.filter_cons_of_pos (by rfl), List.map_cons, this]; rfl
  | .inr x :: rs => by
    rw [List.filter_cons_of_neg (by simp [isS]), ints_f rs]; rfl
theorem strs_f : ∀ rs : List Ref, (rs.filter isS).map refD = (strsOf rs).map .str
  | [] => rfl
  | .inl b :: rs => by
    rw [List.filter_cons_of_neg (by simp [isS]), strs_f rs]; rfl
  | .inr x :: rs => by
    rw [List.filter_cons_of_pos (by rfl), List.map_cons, strs_f rs]; rfl
theorem len_is : ∀ rs : List Ref, (intsOf rs).length + (strsOf rs).length = rs.length
  | [] => rfl
  | .inl b :: rs => by have := len_is rs; simp [intsOf, strsOf]; omega
  | .inr x :: rs => by have := len_is rs; simp [intsOf, strsOf]; omega
/-- binders ascending, then names in order -/
def lineOf (rs : List Ref) : List Ref := (sortN (intsOf rs)).map .inl ++ (sortLN (once (strsOf rs))).map .inr
theorem line_d (rs : List Ref) : natsD (sortN (intsOf rs)) ++ (sortLN (once (strsOf rs))).map D.str = (lineOf rs).map refD := by
  simp [lineOf, List.map_map, Function.comp_def, refD]
theorem insN_len (i : Nat) : ∀ xs : List Nat, (insN i xs).length = xs.length + 1
  | [] => rfl
  | j :: js => by rw [insN]; split <;> simp [insN_len i js]
theorem sortN_len : ∀ xs : List Nat, (sortN xs).length = xs.length
  | [] => rfl
  | x :: xs => by rw [sortN, insN_len, sortN_len xs]; rfl
theorem insLN_len (i : Nm) : ∀ xs : List Nm, (insLN i xs).length = xs.length + 1
  | [] => rfl
  | j :: js => by rw [insLN]; split <;> simp [insLN_len i js]
theorem sortLN_len : ∀ xs : List Nm, (sortLN xs).length = xs.length
  | [] => rfl
  | x :: xs => by rw [sortLN, insLN_len, sortLN_len xs]; rfl
theorem once_len {α : Type} [DecidableEq α] (xs : List α) : (once xs).length ≤ xs.length := by
  have := onceFrom_len xs ([] : List α)
  simpa [once, onceFrom] using this
theorem mem_strs {x : Nm} : ∀ {rs : List Ref}, x ∈ strsOf rs ↔ .inr x ∈ rs
  | [] => by simp [strsOf]
  | .inl b :: rs => by rw [strsOf, mem_strs (rs := rs), List.mem_cons]; simp
  | .inr y :: rs => by rw [strsOf, List.mem_cons, mem_strs (rs := rs), List.mem_cons]; simp
theorem mem_ints {b : Nat} : ∀ {rs : List Ref}, b ∈ intsOf rs ↔ .inl b ∈ rs
  | [] => by simp [intsOf]
  | .inl c :: rs => by rw [intsOf, List.mem_cons, mem_ints (rs := rs), List.mem_cons]; simp
  | .inr y :: rs => by rw [intsOf, mem_ints (rs := rs), List.mem_cons]; simp
/-! ### in_line -/
section
variable {m : Nat} {S : Store} {j : Nat} {rs : List Ref} {xs : List D}
theorem line_ints (hj : S[j]? = some (.dct (rs.map rk) xs)) (hz : rs.length ≤ 100000) (e1 : Option D) : evE (tabN p m) (.lcd false [2] (.nm 2) (.var 0) (some (.not (.isi [.bt .str] (.var 2)))) (.var 2)) [some (.obj j), e1, none] S = some (.lst (natsD (intsOf rs)), S) := by
  rw [E_lcd (key := rk) (g := refD) (c := fun r => !isS r) (i := j) (ks := rs) (xs := xs) (S1 := S) (by simp) hj (fun r _ => by
    have h1 : (pureN (wipeD [some (.obj j), e1, none] [2])).length = 3 := by simp [pureN, wipeD]
    have h2 : ((pureN (wipeD [some (.obj j), e1, none] [2])).set 2 (some (refD r)))[2]? = some (some (refD r)) := by rw [List.getElem?_set_self (by rw [h1]; omega)]
    cases r <;> simp [lcStep, wipeD, dk_rk, h2, isS, refD, isiL, isi1, isiB, rk, dkD, pureN]) pu_ref hz, nl_f, ints_f]
theorem line_strs (hj : S[j]? = some (.dct (rs.map rk) xs)) (hz : rs.length ≤ 100000) (e1 : Option D) : evE (tabN p m) (.lcd false [2] (.nm 2) (.var 0) (some (.isi [.bt .str] (.var 2))) (.var 2)) [some (.obj j), e1, none] S = some (.lst ((strsOf rs).map .str), S) := by
  rw [E_lcd (key := rk) (g := refD) (c := isS) (i := j) (ks := rs) (xs := xs) (S1 := S) (by simp) hj (fun r _ => by
    cases r <;> simp [lcStep, wipeD, dk_rk, isS, refD, isiL, isi1, isiB, rk, dkD, pureN]) pu_ref hz, nl_f, strs_f]
theorem b_sorted {xs : List Nat} (h : xs.length < 64) (S : Store) : pb .sorted [.lst (natsD xs)] S = some (.l (natsD (sortN xs))) := by
  have e : natsD xs = (xs.map fun x : Nat => (x : Int)).map D.int := by rw [List.map_map]; rfl
  have e2 : natsD (sortN xs) = ((sortN xs).map fun x : Nat => (x : Int)).map D.int := by rw [List.map_map]; rfl
  rw [e, e2, ← sortI_nat]
  simp only [pb, lstD, List.length_map, h, if_true, intsD_ints, Option.map_some]
theorem c58 (hp : Has p [29, 30, 58]) {n : Nat} (hn : 3 ≤ n) (hj : S[j]? = some (.dct (rs.map rk) xs)) (hz : rs.length ≤ 1000) (hi : (intsOf rs).length < 64) (hs : ∀ x, .inr x ∈ rs → x.length ≤ 100000) : (tabN p n).fn 58 [.obj j] S = some (.lst ((lineOf rs).map refD), S) := by
  obtain ⟨m, rfl⟩ : ∃ m, n = m + 1 := ⟨n - 1, by omega⟩
  rw [fn_at (d := D58) (hp 58 (by decide))]
  have hli := len_is rs
  have h30 := fun S => c30 (p := p) (n := m) (hp.mono (by decide)) (by omega) (xs := strsOf rs) (by omega) (fun x hx => hs x (mem_strs.mp hx)) S
  refine run_2 rfl rfl (s_nx (env1 := [some (.obj j), some (.lst (natsD (intsOf rs))), none]) (S1 := S) ?_ (s_rt ?_))
  · show ex _ (.asg (.nm 1) (.lcd false [2] (.nm 2) (.var 0) (some (.not (.isi [.bt .str] (.var 2)))) (.var 2))) [some (.obj j), none, none] S = _
    rw [s_asg, line_ints hj (by omega)]
    simp
  · show ex _ (.ret (.disp .lst [true, true] [.pb .sorted false [.var 1], .call 30 [.lcd false [2] (.nm 2) (.var 0) (some (.isi [.bt .str] (.var 2))) (.var 2)]])) _ _ = _
    have h1 : evE (tabN p m) (.pb .sorted false [.var 1]) [some (.obj j), some (.lst (natsD (intsOf rs))), none] S = some (.lst (natsD (sortN (intsOf rs))), S) := by
      rw [e_pb, l_cons, e_var]
      simp [b_sorted hi]
    have h2 : evE (tabN p m) (.call 30 [.lcd false [2] (.nm 2) (.var 0) (some (.isi [.bt .str] (.var 2))) (.var 2)]) [some (.obj j), some (.lst (natsD (intsOf rs))), none] S = some (.lst ((sortLN (once (strsOf rs))).map .str), S) := by
      rw [e_call, l_cons, line_strs hj (by omega)]
      simp [h30]
    have hz2 : szOk (natsD (sortN (intsOf rs)) ++ (sortLN (once (strsOf rs))).map D.str).length = true := decide_eq_true (by
      have := once_len (strsOf rs)
      simp [sortN_len, sortLN_len]; omega)
    rw [s_ret, e_disp, p_cons, h1]
    simp only [List.headD_cons, if_true, sq_lst, List.tail_cons, p_cons, h2, p_nil, List.append_nil]
    rw [hz2, line_d]
    rfl
theorem c304 (hp : Has p [29, 30, 304]) {n : Nat} (hn : 3 ≤ n) (hj : S[j]? = some (.dct (rs.map rk) xs)) (hz : rs.length ≤ 1000) (hi : (intsOf rs).length < 64) (hs : ∀ x, .inr x ∈ rs → x.length ≤ 100000) : (tabN p n).fn 304 [.obj j] S = some (.obj S.length, S ++ [.lst ((lineOf rs).map refD)]) := by
  obtain ⟨m, rfl⟩ : ∃ m, n = m + 1 := ⟨n - 1, by omega⟩
  rw [fn_at (d := D304) (hp 304 (by decide))]
  have hli := len_is rs
  have h30 := fun S => c30 (p := p) (n := m) (hp.mono (by decide)) (by omega) (xs := strsOf rs) (by omega) (fun x hx => hs x (mem_strs.mp hx)) S
  refine run_2 rfl rfl (s_nx (env1 := [some (.obj j), some (.lst (natsD (intsOf rs))), none]) (S1 := S) ?_ (s_rt ?_))
  · show ex _ (.asg (.nm 1) (.lcd false [2] (.nm 2) (.var 0) (some (.not (.isi [.bt .str] (.var 2)))) (.var 2))) [some (.obj j), none, none] S = _
    rw [s_asg, line_ints hj (by omega)]
    simp
  · show ex _ (.ret (.disp .cell [true, true] [.pb .sorted false [.var 1], .call 30 [.lcd false [2] (.nm 2) (.var 0) (some (.isi [.bt .str] (.var 2))) (.var 2)]])) _ _ = _
    have h1 : evE (tabN p m) (.pb .sorted false [.var 1]) [some (.obj j), some (.lst (natsD (intsOf rs))), none] S = some (.lst (natsD (sortN (intsOf rs))), S) := by
      rw [e_pb, l_cons, e_var]
      simp [b_sorted hi]
    have h2 : evE (tabN p m) (.call 30 [.lcd false [2] (.nm 2) (.var 0) (some (.isi [.bt .str] (.var 2))) (.var 2)]) [some (.obj j), some (.lst (natsD (intsOf rs))), none] S = some (.lst ((sortLN (once (strsOf rs))).map .str), S) := by
      rw [e_call, l_cons, line_strs hj (by omega)]
      simp [h30]
    have hz2 : szOk (natsD (sortN (intsOf rs)) ++ (sortLN (once (strsOf rs))).map D.str).length = true := decide_eq_true (by
      have := once_len (strsOf rs)
      simp [sortN_len, sortLN_len]; omega)
    rw [s_ret, e_disp, p_cons, h1]
    simp only [List.headD_cons, if_true, sq_lst, List.tail_cons, p_cons, h2, p_nil, List.append_nil]
    rw [hz2, line_d]
    simp
end
end Sp

set_option Elab.async false
set_option linter.all false
set_option maxRecDepth 100000
namespace Sp
open LN LP PySem
variable {p : Prog}
def addg {α : Type} [DecidableEq α] (ks : List α) (r : α) : List α := if r ∈ ks then ks else ks ++ [r]
def addx (ks : List Ref) (r : Ref) : List Ref := addg ks r
def addR (L : List (List Ref)) (b : Nat) (r : Ref) : List (List Ref) := L.set b (addx (L.getD b []) r)
def dctOf (ks : List Ref) : Cell := .dct (ks.map rk) (ks.map fun _ => .bl true)
def lvS (S0 : Store) (L : List (List Ref)) : Store := S0 ++ (L.map dctOf ++ [.lst ((List.range L.length).map fun i => .obj (S0.length + i))])
theorem addR_len (L : List (List Ref)) (b : Nat) (r : Ref) : (addR L b r).length = L.length := by simp [addR]
/-! ### the making of the dicts -/
theorem lc_dicts {T : Tab} {env : DEnv} : ∀ (xs : List D) (S : Store), lcL (lcStep T [5] (.nm 5) none (.dict []) env) xs S = some ((List.range xs.length).map (fun i => .obj (S.length + i)), S ++ List.replicate xs.length (.dct [] []))
  | [], S => by simp [lcL]
  | x :: xs, S => by
    rw [lcL]
    have h : lcStep T [5] (.nm 5) none (.dict []) env x S = some (some (.obj S.length), S ++ [.dct [] []]) := by simp [lcStep]
    rw [h]
    simp only [lc_dicts xs]
    rw [List.length_cons, List.range_succ_eq_map, List.replicate_succ]
    simp [List.map_map, Function.comp_def, Nat.add_assoc, Nat.add_comm 1]
theorem lv_found (S0 : Store) (L : List (List Ref)) : (lvS S0 L)[S0.length + L.length]? = some (.lst ((List.range L.length).map fun i => .obj (S0.length + i))) := by
  unfold lvS
  rw [List.getElem?_append_right (by omega), List.getElem?_append_right (by simp)]
  simp
theorem lv_dct {S0 : Store} {L : List (List Ref)} {b : Nat} (hb : b < L.length) : (lvS S0 L)[S0.length + b]? = some (dctOf (L.getD b [])) := by
  unfold lvS
  rw [List.getElem?_append_right (by omega), List.getElem?_append_left (by simp; omega)]
  simp [List.getD, hb]
theorem lv_set {S0 : Store} {L : List (List Ref)} {b : Nat} (r : Ref) (hb : b < L.length) : (lvS S0 L).set (S0.length + b) (dctOf (addx (L.getD b []) r)) = lvS S0 (addR L b r) := by
  unfold lvS
  rw [List.set_append_right _ _ (by omega), List.set_append_left _ _ (by simp; omega), addR_len]
  congr 2
  rw [addR, List.map_set]
  congr 1
  omega
theorem lv_put {S0 : Store} {L : List (List Ref)} {b : Nat} (r : Ref) (hb : b < L.length) (hz : (L.getD b []).length < 100000) : LN.setItem (.obj (S0.length + b)) (refD r) (.bl true) (lvS S0 L) = some (lvS S0 (addR L b r)) := by
  have h1 : LN.setItem (.obj (S0.length + b)) (refD r) (.bl true) (lvS S0 L) = (match keyD (refD r) with
      | some k => if ((L.getD b []).map rk).length < 100000 then some ((lvS S0 L).set (S0.length + b) (.dct (putK2 ((L.getD b []).map rk) ((L.getD b []).map fun _ => .bl true) k (.bl true)).1 (putK2 ((L.getD b []).map rk) ((L.getD b []).map fun _ => .bl true) k (.bl true)).2)) else none
      | none => none) := by
    simp only [LN.setItem, lv_dct hb, dctOf] <;> rfl
  rw [h1, key_ref]
  simp only [List.length_map, hz, if_true]
  rw [← lv_set r hb]
  congr 2
  have hmem : hasK ((L.getD b []).map rk) (rk r) = true ↔ r ∈ L.getD b [] := by
    rw [hasK_iff, List.mem_map]
    exact ⟨fun ⟨a, ha, e⟩ => rk_inj _ _ e ▸ ha, fun h => ⟨r, h, rfl⟩⟩
  have hmap : ∀ (l : List Ref), mapK (l.map rk) (l.map fun _ => D.bl true) (rk r) (.bl true) = l.map fun _ => D.bl true := fun l => by
    induction l with
    | nil => rfl
    | cons a l ih => simp [mapK, ih]
  unfold dctOf addx addg putK2
  by_cases h : r ∈ L.getD b []
  · rw [if_pos h, if_pos (hmem.mpr h)]; simp only [hmap]
  · rw [if_neg h, if_neg (fun q => h (hmem.mp q))]; simp
/-! ### the two loops -/
def fillU (L : List (List Ref)) (r : Ref) (bs : List Nat) : List (List Ref) := bs.foldl (fun L b => addR L b r) L
theorem fillU_len (r : Ref) : ∀ (bs : List Nat) (L : List (List Ref)), (fillU L r bs).length = L.length
  | [], L => rfl
  | b :: bs, L => by
    show (fillU (addR L b r) r bs).length = _
    rw [fillU_len r bs, addR_len]
theorem addx_len (ks : List Ref) (r : Ref) : (addx ks r).length ≤ ks.length + 1 := by unfold addx addg; split <;> simp
theorem getD_addR (L : List (List Ref)) (b c : Nat) (r : Ref) (hc : c < L.length) : (addR L b r).getD c [] = if c = b then addx (L.getD c []) r else L.getD c [] := by
  unfold addR
  by_cases h : c = b
  · subst h; simp [List.getD, hc]
  · rw [if_neg h]
    simp only [List.getD]
    rw [List.getElem?_set_ne (Ne.symm h)]
theorem addx_idem (ks : List Ref) (r : Ref) : addx (addx ks r) r = addx ks r := by
  unfold addx addg
  by_cases h : r ∈ ks
  · simp [h]
  · simp [h]
theorem getD_fillU (r : Ref) (c : Nat) : ∀ (bs : List Nat) (L : List (List Ref)), c < L.length → (fillU L r bs).getD c [] = if c ∈ bs then addx (L.getD c []) r else L.getD c []
  | [], L, _ => by simp [fillU]
  | b :: bs, L, hc => by
    show (fillU (addR L b r) r bs).getD c [] = _
    rw [getD_fillU r c bs _ (by rw [addR_len]; exact hc), getD_addR L b c r hc]
    by_cases h1 : c = b <;> by_cases h2 : c ∈ bs <;> simp [h1, h2, addx_idem]
def fillA (L : List (List Ref)) (us : List (List Nat × Ref)) : List (List Ref) := us.foldl (fun L u => fillU L u.2 (inn u.1 u.2)) L
theorem fillA_len : ∀ (us : List (List Nat × Ref)) (L : List (List Ref)), (fillA L us).length = L.length
  | [], L => rfl
  | u :: us, L => by
    show (fillA (fillU L u.2 (inn u.1 u.2)) us).length = _
    rw [fillA_len us, fillU_len]
def occ (us : List (List Nat × Ref)) (b : Nat) : List Ref := us.filterMap fun u => if b ∈ inn u.1 u.2 then some u.2 else none
theorem getD_fillA (c : Nat) : ∀ (us : List (List Nat × Ref)) (L : List (List Ref)), c < L.length → (fillA L us).getD c [] = onceFrom (L.getD c []) (occ us c)
  | [], L, _ => rfl
  | u :: us, L, hc => by
    show (fillA (fillU L u.2 (inn u.1 u.2)) us).getD c [] = _
    rw [getD_fillA c us _ (by rw [fillU_len]; exact hc), getD_fillU u.2 c _ L hc]
    by_cases h : c ∈ inn u.1 u.2
    · have e : occ (u :: us) c = u.2 :: occ us c := by simp [occ, h]
      rw [if_pos h, e]; rfl
    · have e : occ (u :: us) c = occ us c := by simp [occ, h]
      rw [if_neg h, e]
theorem enumD_map {α : Type} (f : α → D) : ∀ (xs : List α) (k : Nat), enumD (k : Int) (xs.map f) = (xs.zipIdx k).map fun u => .tup [iD u.2, f u.1]
  | [], _ => rfl
  | x :: xs, k => by
    rw [List.map_cons, enumD, List.zipIdx_cons, List.map_cons]
    congr 1
    have := enumD_map f xs (k + 1)
    rw [← this]
    congr 1
end Sp

set_option Elab.async false
set_option linter.all false
set_option maxRecDepth 100000
namespace Sp
open LN LP PySem
variable {p : Prog}
/-- the uses: the binders around each, what it means -/
def usT (t : Tr) : List (List Nat × Ref) := (uT t [] 0).map fun u => (u.2, meantOf (bT t) u.1 u.2)
theorem refs_us (t : Tr) : (trefs t).map refD = (usT t).map fun u => refD u.2 := by simp [trefs, usT, List.map_map, Function.comp_def]
theorem ar_us (t : Tr) : ((uT t [] 0).map fun u => D.tup (natsD u.2)) = (usT t).map fun u => .tup (natsD u.1) := by simp [usT, List.map_map, Function.comp_def]
theorem us_len {t : Tr} (h : Lim t) : (usT t).length ≤ 400 := by
  have h1 := flat_us_len h.ok
  have h2 := sm_add t [] F0 0 ⟨by simp [F0]; have := h.sz; omega, rfl, by simp [F0], by simp [F0]⟩
  have h3 : (flat t).us.length ≤ (flat t).nodes.length := h2.u
  have h4 := flat_n_len t
  have h5 := h.sz
  simp [usT]; omega
theorem us_lt {t : Tr} (h : Lim t) : ∀ u ∈ usT t, ∀ b ∈ u.1, b < (bT t).length := fun u hu b hb => by
  obtain ⟨v, hv, rfl⟩ := List.mem_map.mp hu
  have ok := (flat_adds h.ok).ok
  rw [← flat_uses h.ok] at hv
  obtain ⟨i, hi, rfl⟩ := List.mem_map.mp hv
  have hl : i < (flat t).around.length := by rw [ok.a]; exact ok.u i hi
  have e : arr (flat t) i = (flat t).around[i] := by simp [arr, List.getD, List.getElem?_eq_getElem hl]
  rw [← flat_bs_len h.ok]
  refine ok.r _ (List.getElem_mem hl) b ?_
  rw [← e]; exact hb
theorem us_ar {t : Tr} (h : Lim t) : ∀ u ∈ usT t, u.1.length ≤ 100 := fun u hu => by
  obtain ⟨v, hv, rfl⟩ := List.mem_map.mp hu
  have ok := (flat_adds h.ok).ok
  rw [← flat_uses h.ok] at hv
  obtain ⟨i, hi, rfl⟩ := List.mem_map.mp hv
  have hl : i < (flat t).around.length := by rw [ok.a]; exact ok.u i hi
  have e : arr (flat t) i = (flat t).around[i] := by simp [arr, List.getD, List.getElem?_eq_getElem hl]
  have := flat_around_len t _ (List.getElem_mem hl)
  have := h.dp
  show (arr (flat t) i).length ≤ 100
  rw [e]; omega
theorem inn_sub {ar : List Nat} {r : Ref} {b : Nat} (h : b ∈ inn ar r) : b ∈ ar := by
  cases r with
  | inr x => exact h
  | inl c => exact (List.mem_filter.mp h).1
theorem occ_len (us : List (List Nat × Ref)) (b : Nat) : (occ us b).length ≤ us.length := List.length_filterMap_le _ _
def env57 (t : Tr) (f : Nat) (e2 e3 e4 : Option D) : DEnv := [some (termD t), some (.obj f), e2, e3, e4, none, none]
section
variable {m : Nat} {t : Tr} {S0 : Store}
theorem live_0 (hk : Kls p) (h : Lim t) : ex (tabN p m) (.asg (.nm 1) (.lc true [5] (.nm 5) 0 [.attr 8 (.var 0)] none (.dict []))) [some (termD t), none, none, none, none, none, none] S0 = some (.nx (env57 t (S0.length + (bT t).length) none none none) (lvS S0 (List.replicate (bT t).length []))) := by
  have hl := lc_dicts (T := tabN p m) (env := [some (termD t), none, none, none, none, none, none]) ((bT t).map .str) S0
  have hz : szOk ((List.range ((bT t).map D.str).length).map fun i => D.obj (S0.length + i)).length = true := decide_eq_true (by have := h.bd; simp; omega)
  rw [s_asg, e_lc]
  simp only [l_cons, at_names hk 0 (show [some (termD t), none, none, none, none, none, none][0]? = _ from rfl), l_nil, srcD, lcS, hl, hz, if_true, nl_t, t_nm]
  simp [env57, lvS, dctOf]
theorem live_in (hp : Has p [53]) (hm : 1 ≤ m) (h : Lim t) {L : List (List Ref)} (hL : L.length = (bT t).length) (hz : ∀ b, (L.getD b []).length ≤ 1000) {y : (List Nat × Ref) × Nat} (hy : (usT t)[y.2]? = some y.1) (hk : Kls p) (e4 : Option D) :
    ∃ e4', ex (tabN p m) (.for (.nm 4) 0 [.call 53 [.p2 .idx (.attr 9 (.var 0)) (.var 2), .var 3]] [.setI (.p2 .idx (.var 1) (.var 4)) (.var 3) (.con (.bl true))]) (env57 t (S0.length + (bT t).length) (some (iD y.2)) (some (refD y.1.2)) e4) (lvS S0 L) = some (.nx (env57 t (S0.length + (bT t).length) (some (iD y.2)) (some (refD y.1.2)) e4') (lvS S0 (fillU L y.1.2 (inn y.1.1 y.1.2)))) := by
  have hmem : y.1 ∈ usT t := List.mem_of_getElem? hy
  have har := us_ar h _ hmem
  have h53 := fun S => c53 (p := p) (n := m) hp hm y.1.1 y.1.2 (by omega) S
  obtain ⟨env1, S1, e, e4', rfl, rfl⟩ := E_for (T := tabN p m) (env := env57 t (S0.length + (bT t).length) (some (iD y.2)) (some (refD y.1.2)) e4) (tg := .nm 4) (k := 0) (it := [.call 53 [.p2 .idx (.attr 9 (.var 0)) (.var 2), .var 3]]) (b := [.setI (.p2 .idx (.var 1) (.var 4)) (.var 3) (.con (.bl true))]) (enc := iD) (ys := inn y.1.1 y.1.2) (ds := [.lst (natsD (inn y.1.1 y.1.2))]) (S := lvS S0 L) (S1 := lvS S0 L)
    (fun done env S => ∃ e4', env = env57 t (S0.length + (bT t).length) (some (iD y.2)) (some (refD y.1.2)) e4' ∧ S = lvS S0 (fillU L y.1.2 done)) (by
      have hi : ((usT t).map fun u => D.tup (natsD u.1))[y.2]? = some (.tup (natsD y.1.1)) := by rw [List.getElem?_map, hy]; rfl
      have ha : evE (tabN p m) (.p2 .idx (.attr 9 (.var 0)) (.var 2)) (env57 t (S0.length + (bT t).length) (some (iD y.2)) (some (refD y.1.2)) e4) (lvS S0 L) = some (.tup (natsD y.1.1), lvS S0 L) := by
        rw [e_p2, at_around hk 0 rfl, ar_us]
        simp [env57, ixN, hi]
      have hv : evE (tabN p m) (.var 3) (env57 t (S0.length + (bT t).length) (some (iD y.2)) (some (refD y.1.2)) e4) (lvS S0 L) = some (refD y.1.2, lvS S0 L) := by rw [e_var]; rfl
      simp only [l_cons, e_call, ha, hv, l_nil, h53]) (by simp [srcD]) ⟨e4, rfl, rfl⟩ (by
      rintro done b rest hd env S ⟨e4', rfl, rfl⟩
      have hb : b < (bT t).length := us_lt h _ hmem b (inn_sub (by rw [← hd]; simp))
      have hL' : (fillU L y.1.2 done).length = (bT t).length := by rw [fillU_len, hL]
      have hz' : ((fillU L y.1.2 done).getD b []).length < 100000 := by
        rw [getD_fillU _ _ _ _ (by rw [hL]; exact hb)]
        have h1 := hz b
        have h2 := addx_len (L.getD b []) y.1.2
        split <;> omega
      refine ⟨env57 t (S0.length + (bT t).length) (some (iD y.2)) (some (refD y.1.2)) (some (iD b)), lvS S0 (addR (fillU L y.1.2 done) b y.1.2), ?_, _, rfl, by simp [fillU]⟩
      have hf := lv_found S0 (fillU L y.1.2 done)
      rw [hL'] at hf
      have hx : ((List.range (bT t).length).map fun i => D.obj (S0.length + i))[b]? = some (.obj (S0.length + b)) := by
        rw [List.getElem?_map, List.getElem?_range hb]; rfl
      have hput := lv_put (S0 := S0) (L := fillU L y.1.2 done) y.1.2 (by rw [hL']; exact hb) hz'
      have ho : evE (tabN p m) (.p2 .idx (.var 1) (.var 4)) (env57 t (S0.length + (bT t).length) (some (iD y.2)) (some (refD y.1.2)) (some (iD b))) (lvS S0 (fillU L y.1.2 done)) = some (.obj (S0.length + b), lvS S0 (fillU L y.1.2 done)) := by
        rw [e_p2]
        simp [env57, o_idxo hf, ixN, hx]
      have hv : evE (tabN p m) (.var 3) (env57 t (S0.length + (bT t).length) (some (iD y.2)) (some (refD y.1.2)) (some (iD b))) (lvS S0 (fillU L y.1.2 done)) = some (refD y.1.2, lvS S0 (fillU L y.1.2 done)) := by rw [e_var]; rfl
      show exL (tabN p m) [_] (env57 t (S0.length + (bT t).length) (some (iD y.2)) (some (refD y.1.2)) (some (iD b))) _ = _
      refine s_nx ?_ s_nil
      rw [s_setI, e_con]
      simp only [ho, hv, hput])
  exact ⟨e4', e⟩
theorem live_1 (hp : Has p [53]) (hm : 1 ≤ m) (hk : Kls p) (h : Lim t) : ∃ e2 e3 e4, ex (tabN p m) (.for (.tup [.nm 2, .nm 3]) 2 [.attr 10 (.var 0)] [.for (.nm 4) 0 [.call 53 [.p2 .idx (.attr 9 (.var 0)) (.var 2), .var 3]] [.setI (.p2 .idx (.var 1) (.var 4)) (.var 3) (.con (.bl true))]]) (env57 t (S0.length + (bT t).length) none none none) (lvS S0 (List.replicate (bT t).length [])) =
    some (.nx (env57 t (S0.length + (bT t).length) e2 e3 e4) (lvS S0 (fillA (List.replicate (bT t).length []) (usT t)))) := by
  have hul := us_len h
  obtain ⟨env1, S1, e, e2, e3, e4, rfl, rfl⟩ := E_for (T := tabN p m) (env := env57 t (S0.length + (bT t).length) none none none) (tg := .tup [.nm 2, .nm 3]) (k := 2) (it := [.attr 10 (.var 0)]) (b := [.for (.nm 4) 0 [.call 53 [.p2 .idx (.attr 9 (.var 0)) (.var 2), .var 3]] [.setI (.p2 .idx (.var 1) (.var 4)) (.var 3) (.con (.bl true))]]) (enc := fun y : (List Nat × Ref) × Nat => .tup [iD y.2, refD y.1.2]) (ys := (usT t).zipIdx) (ds := [.lst ((trefs t).map refD)]) (S := lvS S0 (List.replicate (bT t).length [])) (S1 := lvS S0 (List.replicate (bT t).length []))
    (fun done env S => ∃ e2 e3 e4, env = env57 t (S0.length + (bT t).length) e2 e3 e4 ∧ S = lvS S0 (fillA (List.replicate (bT t).length []) (done.map (·.1)))) (by
      rw [l_cons, at_mean hk 0 rfl]; simp only [l_nil]) (by
      rw [refs_us]
      show some (Src.items (enumD ((0 : Nat) : Int) _)) = _
      rw [enumD_map]) ⟨none, none, none, rfl, rfl⟩ (by
      rintro done y rest hd env S ⟨e2, e3, e4, rfl, rfl⟩
      have hmem : y ∈ (usT t).zipIdx := by rw [← hd]; simp
      have hy : (usT t)[y.2]? = some y.1 := by
        have := List.mem_zipIdx_iff_getElem?.mp (show (y.1, y.2) ∈ (usT t).zipIdx from hmem)
        simpa using this
      have hdl : done.length ≤ 400 := by
        have := congrArg List.length hd
        simp at this; omega
      have hL : (fillA (List.replicate (bT t).length ([] : List Ref)) (done.map (·.1))).length = (bT t).length := by rw [fillA_len]; simp
      have hz : ∀ b, ((fillA (List.replicate (bT t).length ([] : List Ref)) (done.map (·.1))).getD b []).length ≤ 1000 := fun b => by
        by_cases hb : b < (bT t).length
        · rw [getD_fillA _ _ _ (by simpa using hb)]
          have h1 := onceFrom_len (occ (done.map (·.1)) b) ((List.replicate (bT t).length ([] : List Ref)).getD b [])
          have h2 := occ_len (done.map (·.1)) b
          have h3 : ((List.replicate (bT t).length ([] : List Ref)).getD b []) = [] := by simp [List.getD, hb]
          rw [h3] at h1 ⊢
          simp at h1 h2; omega
        · have : (fillA (List.replicate (bT t).length ([] : List Ref)) (done.map (·.1)))[b]? = none := List.getElem?_eq_none (by rw [hL]; omega)
          simp [List.getD, this]
      obtain ⟨e4', hin⟩ := live_in (p := p) (m := m) (S0 := S0) hp hm h hL hz hy hk e4
      refine ⟨env57 t (S0.length + (bT t).length) (some (iD y.2)) (some (refD y.1.2)) e4', lvS S0 (fillU (fillA (List.replicate (bT t).length []) (done.map (·.1))) y.1.2 (inn y.1.1 y.1.2)), ?_, some (iD y.2), some (refD y.1.2), e4', rfl, by simp [fillA, List.foldl_append]⟩
      have hset : setT (lvS S0 (fillA (List.replicate (bT t).length []) (done.map (·.1)))) (.tup [.nm 2, .nm 3]) (.tup [iD y.2, refD y.1.2]) (env57 t (S0.length + (bT t).length) e2 e3 e4) = some (env57 t (S0.length + (bT t).length) (some (iD y.2)) (some (refD y.1.2)) e4) := by
        simp [env57]
      simp only [forStep, hset]
      exact s_nx hin s_nil)
  refine ⟨e2, e3, e4, ?_⟩
  rw [e]
  simp
end
end Sp

set_option Elab.async false
set_option linter.all false
set_option maxRecDepth 100000
namespace Sp
open LN LP PySem
variable {p : Prog}
theorem walk_cell {S : Store} {j : Nat} {xs : List D} (h : S[j]? = some (.lst xs)) : Walk 0 [.obj j] S xs := .inr ⟨j, by simp [srcD, h], h⟩
theorem nodup_lt : ∀ (n : Nat) (l : List Nat), l.Nodup → (∀ x ∈ l, x < n) → l.length ≤ n
  | 0, l, _, h => by
    cases l with
    | nil => exact Nat.le_refl _
    | cons x l => exact absurd (h x (by simp)) (by omega)
  | n + 1, l, hn, h => by
    by_cases hm : n ∈ l
    · have h1 := nodup_lt n (l.erase n) (hn.erase n) (fun x hx => by
        have h2 := (hn.mem_erase_iff).mp hx
        have := h x h2.2
        omega)
      rw [List.length_erase_of_mem hm] at h1
      omega
    · have := nodup_lt n l hn (fun x hx => by
        have h1 := h x hx
        have : x ≠ n := fun e => hm (e ▸ hx)
        omega)
      omega
theorem onceFrom_nodup {α : Type} [DecidableEq α] : ∀ (xs acc : List α), acc.Nodup → (onceFrom acc xs).Nodup
  | [], acc, h => h
  | x :: xs, acc, h => by
    show (onceFrom (if x ∈ acc then acc else acc ++ [x]) xs).Nodup
    refine onceFrom_nodup xs _ ?_
    by_cases q : x ∈ acc
    · rw [if_pos q]; exact h
    · rw [if_neg q, List.nodup_append]
      exact ⟨h, by simp, fun a ha b hb => by simp at hb; subst hb; exact fun e => q (e ▸ ha)⟩
theorem once_nodup {α : Type} [DecidableEq α] (xs : List α) : (once xs).Nodup := onceFrom_nodup xs [] List.nodup_nil
theorem ints_nodup : ∀ {rs : List Ref}, rs.Nodup → (intsOf rs).Nodup
  | [], _ => by rw [intsOf]; exact List.nodup_nil
  | .inl b :: rs, h => by
    rw [List.nodup_cons] at h
    rw [intsOf, List.nodup_cons]
    exact ⟨fun q => h.1 (mem_ints.mp q), ints_nodup h.2⟩
  | .inr x :: rs, h => by
    rw [List.nodup_cons] at h
    rw [intsOf]; exact ints_nodup h.2
theorem meant_lt {ns : List Nm} {x : Nm} {ar : List Nat} {b : Nat} (h : meantOf ns x ar = .inl b) : b ∈ ar ∧ ns[b]? = some x := by
  unfold meantOf at h
  split at h
  · rename_i c hc
    cases h
    have := List.mem_of_getLast? hc
    have := List.mem_filter.mp this
    exact ⟨this.1, of_decide_eq_true this.2⟩
  · cases h
/-- what is live at a binder -/
def liveK (t : Tr) (b : Nat) : List Ref := once (occ (usT t) b)
def live (t : Tr) (b : Nat) : List Ref := lineOf (liveK t b)
theorem mem_occ {us : List (List Nat × Ref)} {b : Nat} {r : Ref} : r ∈ occ us b ↔ ∃ u ∈ us, b ∈ inn u.1 u.2 ∧ u.2 = r := by
  unfold occ
  rw [List.mem_filterMap]
  constructor
  · rintro ⟨u, hu, h⟩
    split at h
    · rename_i q; exact ⟨u, hu, q, by simpa using h⟩
    · cases h
  · rintro ⟨u, hu, q, e⟩
    exact ⟨u, hu, by rw [if_pos q, e]⟩
theorem us_ref {t : Tr} {u : List Nat × Ref} (hu : u ∈ usT t) {b : Nat} (h : u.2 = .inl b) : b ∈ u.1 ∧ b < (bT t).length := by
  obtain ⟨v, hv, rfl⟩ := List.mem_map.mp hu
  obtain ⟨h1, h2⟩ := meant_lt h
  exact ⟨h1, (List.getElem?_eq_some_iff.mp h2).1⟩
theorem us_nm {t : Tr} (h : Lim t) {u : List Nat × Ref} (hu : u ∈ usT t) {x : Nm} (hx : u.2 = .inr x) : nmOk x = true := by
  obtain ⟨v, hv, rfl⟩ := List.mem_map.mp hu
  have ok := (flat_adds h.ok).ok
  rw [← flat_uses h.ok] at hv
  obtain ⟨i, hi, rfl⟩ := List.mem_map.mp hv
  have hl := ok.u i hi
  have e : x = label (nd (flat t) i) := by
    have hx' : meantOf (bT t) (label (nd (flat t) i)) (arr (flat t) i) = .inr x := hx
    unfold meantOf at hx'
    split at hx'
    · cases hx'
    · cases hx'; rfl
  have e2 : nd (flat t) i = (flat t).nodes[i] := by simp [nd, List.getD, List.getElem?_eq_getElem hl]
  rw [e, e2]; exact ok.t _ (List.getElem_mem hl)
theorem liveK_ints {t : Tr} (h : Lim t) (b : Nat) : (intsOf (liveK t b)).length < 64 := by
  have h1 := nodup_lt (bT t).length (intsOf (liveK t b)) (ints_nodup (once_nodup _)) (fun x hx => by
    obtain ⟨u, hu, _, e⟩ := mem_occ.mp (mem_once.mp (mem_ints.mp hx))
    exact (us_ref hu e).2)
  have := h.bd
  omega
theorem liveK_len {t : Tr} (h : Lim t) (b : Nat) : (liveK t b).length ≤ 400 := by
  have h1 := once_len (occ (usT t) b)
  have h2 := occ_len (usT t) b
  have h3 := us_len h
  show (once (occ (usT t) b)).length ≤ 400
  omega
theorem liveK_strs {t : Tr} (h : Lim t) (b : Nat) : ∀ x, .inr x ∈ liveK t b → x.length ≤ 100000 := fun x hx => by
  obtain ⟨u, hu, _, e⟩ := mem_occ.mp (mem_once.mp hx)
  have := nmOk_len (us_nm h hu e)
  omega
theorem fill_getD {t : Tr} {b : Nat} (hb : b < (bT t).length) : (fillA (List.replicate (bT t).length ([] : List Ref)) (usT t)).getD b [] = liveK t b := by
  rw [getD_fillA _ _ _ (by simpa using hb)]
  have : ((List.replicate (bT t).length ([] : List Ref)).getD b []) = [] := by simp [List.getD, hb]
  rw [this]; rfl
def livesD (t : Tr) : List D := (List.range (bT t).length).map fun b => .lst ((live t b).map refD)
@[simp] theorem pu_lives (t : Tr) : pureL (livesD t) = true := pureL_map (fun b => by simp) _
/-! ### all_live -/
theorem c57 (hp : Has p [29, 30, 53, 57, 58]) (hk : Kls p) {n : Nat} (hn : 4 ≤ n) {t : Tr} (h : Lim t) (S : Store) : (tabN p n).fn 57 [termD t] S = some (.lst (livesD t), S) := by
  obtain ⟨m, rfl⟩ : ∃ m, n = m + 1 := ⟨n - 1, by omega⟩
  rw [fn_at (d := D57) (hp 57 (by decide))]
  obtain ⟨e2, e3, e4, h1⟩ := live_1 (p := p) (m := m) (S0 := []) (hp.mono (by decide)) (by omega) hk h
  have h0 := live_0 (p := p) (m := m) (S0 := []) hk h
  let L := fillA (List.replicate (bT t).length ([] : List Ref)) (usT t)
  have hL : L.length = (bT t).length := by show (fillA _ _).length = _; rw [fillA_len]; simp
  have hf := lv_found [] L
  rw [hL] at hf
  refine run_0 (d := .lst (livesD t)) (S1 := lvS [] L) rfl (by simp [pu_term]) rfl (s_nx h0 (s_nx h1 (s_rt ?_))) (frz_pure (by simp) _) S
  show ex _ (.ret (.lc false [6] (.nm 6) 0 [.var 1] none (.call 58 [.var 6]))) _ _ = _
  rw [s_ret, E_lcm (enc := fun i => D.obj (([] : Store).length + i)) (g := fun b => .lst ((live t b).map refD)) (ys := List.range (bT t).length) (ds := [.obj (([] : Store).length + (bT t).length)]) (S1 := lvS [] L)]
  · simp [livesD]
  · simp [env57]; rfl
  · exact walk_cell hf
  · intro b hb
    have hb' := List.mem_range.mp hb
    have hd := lv_dct (S0 := []) (L := L) (b := b) (by rw [hL]; exact hb')
    have h58 := c58 (p := p) (n := m) (S := lvS [] L) (j := ([] : Store).length + b) (rs := liveK t b) (xs := (liveK t b).map fun _ => .bl true) (hp.mono (by decide)) (by omega) (by
      rw [hd]
      show some (dctOf _) = _
      rw [fill_getD hb']; rfl) (by have := liveK_len h b; omega) (liveK_ints h b) (liveK_strs h b)
    have hw : setT (lvS [] L) (.nm 6) (.obj (([] : Store).length + b)) (wipeD (env57 t (([] : Store).length + (bT t).length) e2 e3 e4) [6]) = some [some (termD t), some (.obj (([] : Store).length + (bT t).length)), e2, e3, e4, none, some (.obj (([] : Store).length + b))] := by rw [t_nm]; rfl
    have v6 : evE (tabN p m) (.var 6) [some (termD t), some (.obj (([] : Store).length + (bT t).length)), e2, e3, e4, none, some (.obj (([] : Store).length + b))] (lvS [] L) = some (.obj (([] : Store).length + b), lvS [] L) := by rw [e_var]; rfl
    simp only [lcStep, hw, c_none, e_call, l_cons, v6, l_nil, h58]
    rfl
  · have := h.bd; simp; omega
end Sp

set_option Elab.async false
set_option linter.all false
set_option maxRecDepth 100000
namespace Sp
open LN LP PySem
variable {p : Prog}
/-! ### equality of plain data: ints, texts, tuples and lists of such -/
def plain : Nat → D → Bool
  | _, .int _ => true
  | _, .str s => sOk s
  | n + 1, .tup xs => xs.all (plain n)
  | n + 1, .lst xs => xs.all (plain n)
  | _, _ => false
theorem depthAll_le {n : Nat} : ∀ {xs : List PyData}, (∀ x ∈ xs, x.depth ≤ n) → PyData.depthAll xs ≤ n
  | [], _ => by simp [PyData.depthAll]
  | x :: xs, h => by
    have h1 := h x List.mem_cons_self
    have h2 := depthAll_le (xs := xs) fun y hy => h y (List.mem_cons_of_mem _ hy)
    simp [PyData.depthAll]; omega
theorem canAll {xs : List PyData} (h : ∀ x ∈ xs, x.canLay0 = true) : PyData.canLayAll0 xs = true := by
  induction xs with
  | nil => rfl
  | cons x xs ih => simp [PyData.canLayAll0, h x List.mem_cons_self, ih fun y hy => h y (List.mem_cons_of_mem _ hy)]
/-- as the library's data -/
def pyP : Nat → D → PyData
  | _, .int i => .int i
  | _, .str s => .str ⟨s.toArray⟩
  | n + 1, .tup xs => .tuple (xs.map (pyP n))
  | n + 1, .lst xs => .list (xs.map (pyP n))
  | _, _ => .none
theorem pyL_map {f : D → PyData} : ∀ {xs : List D}, (∀ x ∈ xs, pyD x = some (f x)) → pyL xs = some (xs.map f)
  | [], _ => rfl
  | x :: xs, h => by
    rw [pyL, h x List.mem_cons_self, pyL_map fun y hy => h y (List.mem_cons_of_mem _ hy)]; rfl
theorem plain_py : ∀ (n : Nat) (d : D), plain n d = true → pyD d = some (pyP n d) ∧ (pyP n d).canLay0 = true ∧ (pyP n d).depth ≤ n
  | n, .int i, _ => by cases n <;> exact ⟨rfl, rfl, by simp [pyP, PyData.depth]⟩
  | n, .str s, h => by
    have h1 : sOk s = true := by cases n <;> exact h
    have : PyData.strOk ⟨s.toArray⟩ = true := by simpa [PyData.strOk, sOk] using h1
    cases n <;> exact ⟨rfl, by simpa [pyP, PyData.canLay0] using this, by simp [pyP, PyData.depth]⟩
  | n + 1, .tup xs, h => by
    have h1 : ∀ x ∈ xs, plain n x = true := List.all_eq_true.mp h
    refine ⟨?_, ?_, ?_⟩
    · rw [pyD, pyL_map fun x hx => (plain_py n x (h1 x hx)).1]; rfl
    · simp only [pyP, PyData.canLay0]
      exact canAll fun y hy => by obtain ⟨x, hx, rfl⟩ := List.mem_map.mp hy; exact (plain_py n x (h1 x hx)).2.1
    · simp only [pyP, PyData.depth]
      have := depthAll_le (n := n) (xs := xs.map (pyP n)) fun y hy => by obtain ⟨x, hx, rfl⟩ := List.mem_map.mp hy; exact (plain_py n x (h1 x hx)).2.2
      omega
  | n + 1, .lst xs, h => by
    have h1 : ∀ x ∈ xs, plain n x = true := List.all_eq_true.mp h
    refine ⟨?_, ?_, ?_⟩
    · rw [pyD, pyL_map fun x hx => (plain_py n x (h1 x hx)).1]; rfl
    · simp only [pyP, PyData.canLay0]
      exact canAll fun y hy => by obtain ⟨x, hx, rfl⟩ := List.mem_map.mp hy; exact (plain_py n x (h1 x hx)).2.1
    · simp only [pyP, PyData.depth]
      have := depthAll_le (n := n) (xs := xs.map (pyP n)) fun y hy => by obtain ⟨x, hx, rfl⟩ := List.mem_map.mp hy; exact (plain_py n x (h1 x hx)).2.2
      omega
  | 0, .tup _, h => by cases h
  | 0, .lst _, h => by cases h
  | n, .non, h => by cases n <;> cases h
  | n, .bl _, h => by cases n <;> cases h
  | n, .scr _, h => by cases n <;> cases h
  | n, .ins _ _ _, h => by cases n <;> cases h
  | n, .obj _, h => by cases n <;> cases h
theorem eqvAll_iff {n : Nat} : ∀ {xs ys : List D}, (∀ x ∈ xs, ∀ y ∈ ys, (PyData.eqv (pyP n x) (pyP n y) = true ↔ x = y)) → (PyData.eqvAll (xs.map (pyP n)) (ys.map (pyP n)) = true ↔ xs = ys)
  | [], [], _ => by simp [PyData.eqvAll]
  | [], y :: ys, _ => by simp [PyData.eqvAll]
  | x :: xs, [], _ => by simp [PyData.eqvAll]
  | x :: xs, y :: ys, h => by
    have h1 := h x List.mem_cons_self y List.mem_cons_self
    have h2 := eqvAll_iff (n := n) (xs := xs) (ys := ys) fun a ha b hb => h a (List.mem_cons_of_mem _ ha) b (List.mem_cons_of_mem _ hb)
    simp only [List.map_cons, PyData.eqvAll, Bool.and_eq_true, h1, h2, List.cons.injEq]
theorem plain_eqv : ∀ (n : Nat) (a b : D), plain n a = true → plain n b = true → (PyData.eqv (pyP n a) (pyP n b) = true ↔ a = b) := by
  intro n
  induction n with
  | zero =>
    intro a b ha hb
    cases a <;> first | (cases ha; done) | skip
    all_goals (cases b <;> first | (cases hb; done) | skip)
    all_goals simp [pyP, PyData.eqv, str_beq]
  | succ n ih =>
    intro a b ha hb
    cases a <;> first | (cases ha; done) | skip
    all_goals (cases b <;> first | (cases hb; done) | skip)
    all_goals first
      | (simp [pyP, PyData.eqv, str_beq]; done)
      | skip
    · rename_i xs ys
      simp only [pyP, PyData.eqv, D.tup.injEq]
      exact eqvAll_iff fun x hx y hy => ih x y (List.all_eq_true.mp ha x hx) (List.all_eq_true.mp hb y hy)
    · rename_i xs ys
      simp only [pyP, PyData.eqv, D.lst.injEq]
      exact eqvAll_iff fun x hx y hy => ih x y (List.all_eq_true.mp ha x hx) (List.all_eq_true.mp hb y hy)
theorem pyS_plain {n : Nat} {d : D} (h : plain n d = true) (S : Store) : pyS S d = some (pyP n d) := by
  have h1 := (plain_py n d h).1
  cases d with
  | obj i => cases n <;> cases h
  | _ => exact h1
theorem shp_plain {n : Nat} {d : D} (h : plain n d = true) (hn : n ≤ 60) : shp (pyP n d) = true := by
  obtain ⟨_, h2, h3⟩ := plain_py n d h
  simp only [shp, SeqAt.shaped, h2, Bool.true_and]
  exact decide_eq_true (by omega)
theorem eq_plain {n : Nat} {a b : D} (ha : plain n a = true) (hb : plain n b = true) (hn : n ≤ 60) (S : Store) : ∃ k, eqS S a b = some k ∧ (k = true ↔ a = b) := by
  refine ⟨PyData.eqv (pyP n a) (pyP n b), ?_, plain_eqv n a b ha hb⟩
  simp only [eqS, pyS_plain ha, pyS_plain hb, shp_plain ha hn, shp_plain hb hn, Bool.and_self, if_true]
theorem in_plain {n : Nat} {a : D} {xs : List D} (ha : plain n a = true) (hx : ∀ x ∈ xs, plain n x = true) (hn : n ≤ 59) (S : Store) : ∃ k, inS S a (.lst xs) = some k ∧ (k = true ↔ a ∈ xs) := by
  have hl : plain (n + 1) (.lst xs) = true := List.all_eq_true.mpr hx
  refine ⟨(xs.map (pyP n)).any fun z => PyData.eqv z (pyP n a), ?_, ?_⟩
  · have h1 : pyS S (.lst xs) = some (.list (xs.map (pyP n))) := pyS_plain hl S
    have h2 : shp (.list (xs.map (pyP n))) = true := shp_plain (d := .lst xs) hl (by omega)
    simp only [inS, pyS_plain ha, h1, shp_plain ha (by omega), h2, Bool.and_self, if_true]
  · rw [List.any_eq_true]
    constructor
    · rintro ⟨z, hz, e⟩
      obtain ⟨x, hxx, rfl⟩ := List.mem_map.mp hz
      rw [plain_eqv n x a (hx x hxx) ha] at e
      exact e ▸ hxx
    · intro h
      exact ⟨_, List.mem_map.mpr ⟨a, h, rfl⟩, (plain_eqv n a a ha ha).mpr rfl⟩
end Sp

set_option Elab.async false
set_option linter.all false
set_option maxRecDepth 100000
namespace Sp
open LN LP PySem
variable {p : Prog}
theorem lines_at {t : Tr} {b : Nat} (hb : b < (bT t).length) : (livesD t)[b]? = some (.lst ((live t b).map refD)) := by
  unfold livesD
  rw [List.getElem?_map, List.getElem?_range hb]; rfl
/-! ### live_at -/
theorem c59 (hp : Has p [3, 4, 29, 30, 34, 35, 53, 57, 58, 59]) (hk : Kls p) {n : Nat} (hn : 5 ≤ n) {t : Tr} (h : Lim t) {b : Nat} (hb : b < (bT t).length) (S : Store) : (tabN p n).fn 59 [termD t, iD b] S = some (.lst ((live t b).map refD), S) := by
  obtain ⟨m, rfl⟩ : ∃ m, n = m + 1 := ⟨n - 1, by omega⟩
  rw [fn_at (d := D59) (hp 59 (by decide))]
  have h35 := fun S => c35 (p := p) (n := m) (hp.mono (by decide)) hk (by omega) t hb S
  have h57 := fun S => c57 (p := p) (n := m) (hp.mono (by decide)) hk (by omega) h S
  refine run_0 (d := .lst ((live t b).map refD)) (S1 := []) rfl (by simp [pu_term]) rfl (s_nx (env1 := [some (termD t), some (iD b)]) (S1 := []) ?_ (s_rt ?_)) (frz_pure (by simp) _) S
  · simp [startD, D59, h35]
  · show ex _ (.ret (.p2 .idx (.call 57 [.var 0]) (.var 1))) _ _ = _
    simp [h57, ixN, lines_at hb]
/-! ### clashes -/
def clT (t : Tr) : List (Ref × Nat) := (List.range (bT t).length).flatMap fun b => (live t b).map fun r => (r, b)
def clD (q : Ref × Nat) : D := .tup [refD q.1, iD q.2]
theorem pu_cl (q : Ref × Nat) : pureD (clD q) = true := by simp [clD, pu_ref]
theorem sortN_len' (rs : List Ref) : (lineOf rs).length ≤ rs.length := by
  have := len_is rs
  have h2 := once_len (strsOf rs)
  simp [lineOf, sortN_len, sortLN_len]; omega
theorem live_len {t : Tr} (h : Lim t) (b : Nat) : (live t b).length ≤ 400 := Nat.le_trans (sortN_len' _) (liveK_len h b)
theorem fm_len {α β : Type} (f : α → List β) (k : Nat) : ∀ l : List α, (∀ a ∈ l, (f a).length ≤ k) → (l.flatMap f).length ≤ l.length * k
  | [], _ => by simp
  | a :: l, h => by
    have h1 := h a List.mem_cons_self
    have h2 := fm_len f k l fun b hb => h b (List.mem_cons_of_mem _ hb)
    rw [List.flatMap_cons, List.length_append, List.length_cons, Nat.succ_mul]; omega
def env60 (t : Tr) (f : Nat) (e2 e3 : Option D) : DEnv := [some (termD t), some (.obj f), e2, e3, none]
theorem zipIdx_range {α : Type} (f : Nat → α) (n : Nat) : ((List.range n).map f).zipIdx = (List.range n).map fun b => (f b, b) := by
  apply List.ext_getElem?
  intro i
  rw [List.getElem?_zipIdx, List.getElem?_map, List.getElem?_map]
  by_cases h : i < n
  · simp [List.getElem?_range h]
  · simp [List.getElem?_eq_none (l := List.range n) (i := i) (by simpa using h)]
section
variable {m : Nat} {t : Tr} {S0 : Store}
theorem pairs_loop (hp : Has p [29, 30, 53, 57, 58]) (hk : Kls p) (hm : 4 ≤ m) (h : Lim t) : ∃ e2 e3, ex (tabN p m) (.for (.tup [.nm 2, .nm 3]) 2 [.call 57 [.var 0]] [.drop (.pm .extend (.var 1) [.lc false [4] (.nm 4) 0 [.var 3] none (.disp .tup [false, false] [.var 4, .var 2])])]) (env60 t S0.length none none) (S0 ++ [.lst []]) =
    some (.nx (env60 t S0.length e2 e3) (S0 ++ [.lst ((clT t).map clD)])) := by
  have h57 := fun S => c57 (p := p) (n := m) (hp.mono (by decide)) hk (by omega) h S
  obtain ⟨env1, S1, e, e2, e3, rfl, rfl⟩ := E_for (T := tabN p m) (env := env60 t S0.length none none) (tg := .tup [.nm 2, .nm 3]) (k := 2) (it := [.call 57 [.var 0]]) (b := [.drop (.pm .extend (.var 1) [.lc false [4] (.nm 4) 0 [.var 3] none (.disp .tup [false, false] [.var 4, .var 2])])]) (enc := fun b : Nat => .tup [iD b, .lst ((live t b).map refD)]) (ys := List.range (bT t).length) (ds := [.lst (livesD t)]) (S := S0 ++ [.lst []]) (S1 := S0 ++ [.lst []])
    (fun done env S => ∃ e2 e3, env = env60 t S0.length e2 e3 ∧ S = S0 ++ [.lst ((done.flatMap fun b => (live t b).map fun r => (r, b)).map clD)]) (by simp [env60, h57]) (by
      show some (Src.items (enumD ((0 : Nat) : Int) _)) = _
      unfold livesD
      have := enumD_map (fun x : D => x) ((List.range (bT t).length).map fun b => D.lst ((live t b).map refD)) 0
      rw [List.map_id'] at this
      rw [this, zipIdx_range, List.map_map]
      rfl) ⟨none, none, rfl, rfl⟩ (by
      rintro done b rest hd env S ⟨e2, e3, rfl, rfl⟩
      have hbd := h.bd
      have hdl : done.length ≤ 60 := by
        have := congrArg List.length hd
        simp at this; omega
      have hl := live_len h b
      have hpl := fm_len (fun b => (live t b).map fun r => (r, b)) 400 done (fun a _ => by rw [List.length_map]; exact live_len h a)
      refine ⟨env60 t S0.length (some (iD b)) (some (.lst ((live t b).map refD))), S0 ++ [.lst (((done ++ [b]).flatMap fun b => (live t b).map fun r => (r, b)).map clD)], ?_, _, _, rfl, rfl⟩
      have hset : setT (S0 ++ [.lst ((done.flatMap fun b => (live t b).map fun r => (r, b)).map clD)]) (.tup [.nm 2, .nm 3]) (.tup [iD b, .lst ((live t b).map refD)]) (env60 t S0.length e2 e3) = some (env60 t S0.length (some (iD b)) (some (.lst ((live t b).map refD)))) := by simp [env60]
      simp only [forStep, hset]
      refine s_nx ?_ s_nil
      have hlc : evE (tabN p m) (.lc false [4] (.nm 4) 0 [.var 3] none (.disp .tup [false, false] [.var 4, .var 2])) (env60 t S0.length (some (iD b)) (some (.lst ((live t b).map refD)))) (S0 ++ [.lst ((done.flatMap fun b => (live t b).map fun r => (r, b)).map clD)]) = some (.lst (((live t b).map fun r => (r, b)).map clD), S0 ++ [.lst ((done.flatMap fun b => (live t b).map fun r => (r, b)).map clD)]) := by
        rw [E_lcm (enc := refD) (g := fun r => clD (r, b)) (ys := live t b) (ds := [.lst ((live t b).map refD)]) (S1 := S0 ++ [.lst ((done.flatMap fun b => (live t b).map fun r => (r, b)).map clD)])]
        · rw [nl_f, List.map_map]; rfl
        · simp [env60]
        · exact .inl (by simp [srcD])
        · intro r _
          simp [lcStep, env60, wipeD, szOk, clD]
        · omega
      have hc : (S0 ++ [Cell.lst ((done.flatMap fun b => (live t b).map fun r => (r, b)).map clD)])[S0.length]? = some (.lst ((done.flatMap fun b => (live t b).map fun r => (r, b)).map clD)) := by
        rw [List.getElem?_append_right (Nat.le_refl _)]; simp
      have v1 : ∀ S : Store, evE (tabN p m) (.var 1) (env60 t S0.length (some (iD b)) (some (.lst ((live t b).map refD)))) S = some (.obj S0.length, S) := fun S => by rw [e_var]; rfl
      have hz : szOk (((done.flatMap fun b => (live t b).map fun r => (r, b)).map clD).length + (((live t b).map fun r => (r, b)).map clD).length) = true := decide_eq_true (by simp only [List.length_map] at hpl ⊢; omega)
      have hpm : pm .extend (.obj S0.length) [.lst (((live t b).map fun r => (r, b)).map clD)] (S0 ++ [.lst ((done.flatMap fun b => (live t b).map fun r => (r, b)).map clD)]) = some (.non, (S0 ++ [Cell.lst ((done.flatMap fun b => (live t b).map fun r => (r, b)).map clD)]).set S0.length (.lst ((done.flatMap fun b => (live t b).map fun r => (r, b)).map clD ++ ((live t b).map fun r => (r, b)).map clD))) := by
        simp only [LN.pm, hc, lstD, hz, if_true]
      rw [s_drop, e_pm, v1]
      simp only [r_obj hc, if_true, l_cons, hlc, l_nil, hpm]
      simp)
  exact ⟨e2, e3, e⟩
theorem pairs_0 : ex (tabN p m) (.asg (.nm 1) (.disp .cell [] [])) [some (termD t), none, none, none, none] S0 = some (.nx (env60 t S0.length none none) (S0 ++ [.lst []])) := by
  simp [env60, szOk]
end
theorem c60 (hp : Has p [29, 30, 53, 57, 58, 60]) (hk : Kls p) {n : Nat} (hn : 5 ≤ n) {t : Tr} (h : Lim t) (S : Store) : (tabN p n).fn 60 [termD t] S = some (.lst ((clT t).map clD), S) := by
  obtain ⟨m, rfl⟩ : ∃ m, n = m + 1 := ⟨n - 1, by omega⟩
  rw [fn_at (d := D60) (hp 60 (by decide))]
  obtain ⟨e2, e3, h1⟩ := pairs_loop (p := p) (m := m) (S0 := []) (hp.mono (by decide)) hk (by omega) h
  refine run_0 (d := .obj 0) (S1 := [] ++ [.lst ((clT t).map clD)]) rfl (by simp [pu_term]) rfl (s_nx (pairs_0 (S0 := [])) (s_nx h1 (s_rt ?_))) (frz_cell (pureL_map pu_cl _) rfl) S
  show ex _ (.ret (.var 1)) _ _ = _
  simp [env60]
theorem c301 (hp : Has p [29, 30, 53, 57, 58, 301]) (hk : Kls p) {n : Nat} (hn : 5 ≤ n) {t : Tr} (h : Lim t) (S : Store) : (tabN p n).fn 301 [termD t] S = some (.obj S.length, S ++ [.lst ((clT t).map clD)]) := by
  obtain ⟨m, rfl⟩ : ∃ m, n = m + 1 := ⟨n - 1, by omega⟩
  rw [fn_at (d := D301) (hp 301 (by decide))]
  obtain ⟨e2, e3, h1⟩ := pairs_loop (p := p) (m := m) (S0 := S) (hp.mono (by decide)) hk (by omega) h
  refine run_2 rfl rfl (s_nx (pairs_0 (S0 := S)) (s_nx h1 (s_rt ?_)))
  show ex _ (.ret (.var 1)) _ _ = _
  simp [env60]
theorem c61 (hp : Has p [29, 30, 34, 53, 57, 58, 60, 61]) (hk : Kls p) {n : Nat} (hn : 6 ≤ n) {t : Tr} (h : Lim t) (S : Store) : (tabN p n).fn 61 [termD t] S = some (.lst ((clT t).map clD), S) := by
  obtain ⟨m, rfl⟩ : ∃ m, n = m + 1 := ⟨n - 1, by omega⟩
  rw [fn_at (d := D61) (hp 61 (by decide))]
  have h34 := fun S => c34 (p := p) (n := m) (hp.mono (by decide)) hk (by omega) t S
  have h60 := fun S => c60 (p := p) (n := m) (hp.mono (by decide)) hk (by omega) h S
  refine run_0 (d := .lst ((clT t).map clD)) (S1 := []) rfl (by simp [pu_term]) rfl ?_ (frz_pure (by rw [pu_lst]; exact pureL_map pu_cl _) _) S
  simp [D61, B61, startD, h34, h60]
theorem c300 (hp : Has p [29, 30, 34, 53, 57, 58, 300, 301]) (hk : Kls p) {n : Nat} (hn : 6 ≤ n) {t : Tr} (h : Lim t) (S : Store) : (tabN p n).fn 300 [termD t] S = some (.obj S.length, S ++ [.lst ((clT t).map clD)]) := by
  obtain ⟨m, rfl⟩ : ∃ m, n = m + 1 := ⟨n - 1, by omega⟩
  rw [fn_at (d := D300) (hp 300 (by decide))]
  have h34 := fun S => c34 (p := p) (n := m) (hp.mono (by decide)) hk (by omega) t S
  have h301 := fun S => c301 (p := p) (n := m) (hp.mono (by decide)) hk (by omega) h S
  refine run_2 rfl rfl ?_
  simp [D300, B300, startD, h34, h301]
/-! ### do_clash -/
theorem plain_ref {r : Ref} (h : ∀ x, r = .inr x → nmOk x = true) (n : Nat) : plain n (refD r) = true := by
  cases r with
  | inl b => cases n <;> rfl
  | inr x => have := sOk_nm (h x rfl); cases n <;> exact this
theorem refD_inj : ∀ a b : Ref, refD a = refD b → a = b
  | .inl a, .inl b, h => by simp only [refD, D.int.injEq] at h; exact congrArg Sum.inl (by omega)
  | .inr a, .inr b, h => by simp only [refD, D.str.injEq] at h; rw [h]
  | .inl a, .inr b, h => by simp [refD] at h
  | .inr a, .inl b, h => by simp [refD] at h
theorem mem_insLN {i x : Nm} : ∀ {xs : List Nm}, x ∈ insLN i xs ↔ x = i ∨ x ∈ xs
  | [] => by simp [insLN]
  | j :: js => by
    rw [insLN]
    split
    · simp
    · rw [List.mem_cons, mem_insLN, List.mem_cons]
      constructor
      · rintro (h | h | h)
        · exact .inr (.inl h)
        · exact .inl h
        · exact .inr (.inr h)
      · rintro (h | h | h)
        · exact .inr (.inl h)
        · exact .inl h
        · exact .inr (.inr h)
theorem mem_sortLN {x : Nm} : ∀ {xs : List Nm}, x ∈ sortLN xs ↔ x ∈ xs
  | [] => by simp [sortLN]
  | i :: is => by rw [sortLN, mem_insLN, mem_sortLN, List.mem_cons]
theorem mem_insN {i x : Nat} : ∀ {xs : List Nat}, x ∈ insN i xs ↔ x = i ∨ x ∈ xs
  | [] => by simp [insN]
  | j :: js => by
    rw [insN]
    split
    · simp
    · rw [List.mem_cons, mem_insN, List.mem_cons]
      constructor
      · rintro (h | h | h)
        · exact .inr (.inl h)
        · exact .inl h
        · exact .inr (.inr h)
      · rintro (h | h | h)
        · exact .inr (.inl h)
        · exact .inl h
        · exact .inr (.inr h)
theorem mem_sortN {x : Nat} : ∀ {xs : List Nat}, x ∈ sortN xs ↔ x ∈ xs
  | [] => by simp [sortN]
  | i :: is => by rw [sortN, mem_insN, mem_sortN, List.mem_cons]
theorem mem_line {r : Ref} {rs : List Ref} : r ∈ lineOf rs ↔ r ∈ rs := by
  unfold lineOf
  rw [List.mem_append, List.mem_map, List.mem_map]
  cases r with
  | inl b =>
    constructor
    · rintro (⟨c, hc, e⟩ | ⟨c, hc, e⟩)
      · cases e; exact mem_ints.mp (mem_sortN.mp hc)
      · cases e
    · exact fun h => .inl ⟨b, mem_sortN.mpr (mem_ints.mpr h), rfl⟩
  | inr x =>
    constructor
    · rintro (⟨c, hc, e⟩ | ⟨c, hc, e⟩)
      · cases e
      · cases e; exact mem_strs.mp (mem_once.mp (mem_sortLN.mp hc))
    · exact fun h => .inr ⟨x, mem_sortLN.mpr (mem_once.mpr (mem_strs.mpr h)), rfl⟩
/-- live: a use within the binder means it, from outside -/
theorem mem_live {t : Tr} {b : Nat} {r : Ref} : r ∈ live t b ↔ ∃ u ∈ usT t, b ∈ inn u.1 u.2 ∧ u.2 = r := by
  unfold live liveK
  rw [mem_line, mem_once, mem_occ]
theorem live_nm {t : Tr} (h : Lim t) {b : Nat} {x : Nm} (hx : .inr x ∈ live t b) : nmOk x = true := by
  obtain ⟨u, hu, _, e⟩ := mem_live.mp hx
  exact us_nm h hu e
theorem c62 (hp : Has p [3, 4, 29, 30, 34, 35, 53, 57, 58, 62]) (hk : Kls p) {n : Nat} (hn : 5 ≤ n) {t : Tr} (h : Lim t) {a b : Nat} (ha : a < (bT t).length) (hb : b < (bT t).length) (S : Store) :
    ∃ k, (tabN p n).fn 62 [termD t, iD a, iD b] S = some (.bl k, S) ∧ (k = true ↔ .inl (min a b) ∈ live t (max a b)) := by
  obtain ⟨m, rfl⟩ : ∃ m, n = m + 1 := ⟨n - 1, by omega⟩
  have h35 := fun S => c35 (p := p) (n := m) (hp.mono (by decide)) hk (by omega) t ha S
  have h35' := fun S => c35 (p := p) (n := m) (hp.mono (by decide)) hk (by omega) t hb S
  have h57 := fun S => c57 (p := p) (n := m) (hp.mono (by decide)) hk (by omega) h S
  have hmx : max a b < (bT t).length := by omega
  obtain ⟨k, hk1, hk2⟩ := in_plain (n := 0) (a := iD (min a b)) (xs := (live t (max a b)).map refD) rfl (fun x hx => by
    obtain ⟨r, hr, rfl⟩ := List.mem_map.mp hx
    exact plain_ref (fun x e => live_nm h (e ▸ hr)) 0) (by omega) []
  refine ⟨k, ?_, ?_⟩
  · rw [fn_at (d := D62) (hp 62 (by decide))]
    have e1 : (if (b : Int) < a then (b : Int) else a) = ((min a b : Nat) : Int) := by split <;> omega
    have e2 : (if (b : Int) > a then (b : Int) else a) = ((max a b : Nat) : Int) := by split <;> omega
    refine run_0 (d := .bl k) (S1 := []) rfl (by simp [pu_term]) rfl (s_nx (env1 := [some (termD t), some (iD a), some (iD b), none, none]) (S1 := []) ?_ (s_nx (env1 := [some (termD t), some (iD a), some (iD b), none, none]) (S1 := []) ?_ (s_nx (env1 := [some (termD t), some (iD a), some (iD b), some (iD (min a b)), some (iD (max a b))]) (S1 := []) ?_ (s_rt ?_)))) (frz_pure rfl _) S
    · simp [startD, D62, h35]
    · simp [h35']
    · show ex _ (.par [3, 4] [.pb .min false [.var 1, .var 2], .pb .max false [.var 1, .var 2]]) _ _ = _
      simp only [s_par, l_cons, l_nil, e_pb, e_var, List.getElem?_cons_succ, List.getElem?_cons_zero, b_min2, b_max2, e1, e2]
      simp
    · show ex _ (.ret (.p2 .inn (.var 3) (.p2 .idx (.call 57 [.var 0]) (.var 4)))) _ _ = _
      have hi : evE (tabN p m) (.p2 .idx (.call 57 [.var 0]) (.var 4)) [some (termD t), some (iD a), some (iD b), some (iD (min a b)), some (iD (max a b))] [] = some (.lst ((live t (max a b)).map refD), []) := by
        simp only [e_p2, e_call, l_cons, l_nil, e_var, List.getElem?_cons_succ, List.getElem?_cons_zero, h57, o_idxl, ixN, lines_at hmx]
      rw [s_ret, e_p2]
      simp only [e_var, List.getElem?_cons_succ, List.getElem?_cons_zero, hi, o_in, hk1, Option.map_some]
  · rw [hk2, List.mem_map]
    constructor
    · rintro ⟨r, hr, e⟩
      have := refD_inj r (.inl (min a b)) e
      exact this ▸ hr
    · exact fun hr => ⟨_, hr, rfl⟩
end Sp

set_option Elab.async false
set_option linter.all false
set_option maxRecDepth 100000
namespace Sp
open LN LP PySem
variable {p : Prog}
/-- a naming of a tree, as a tuple -/
structure Nmg (t : Tr) (xs : List Nm) : Prop where
  len : xs.length = (bT t).length
  ok : ∀ x ∈ xs, nmOk x = true
abbrev nmsD (xs : List Nm) : D := .tup (xs.map .str)
theorem nmg_at {t : Tr} {xs : List Nm} (h : Nmg t xs) {b : Nat} (hb : b < (bT t).length) : (xs.map D.str)[b]? = some (.str (xs.getD b [])) ∧ nmOk (xs.getD b []) = true := by
  have hl : b < xs.length := by rw [h.len]; exact hb
  constructor
  · rw [List.getElem?_map, List.getElem?_eq_getElem hl]; simp [List.getD, List.getElem?_eq_getElem hl]
  · have : xs.getD b [] = xs[b] := by simp [List.getD, List.getElem?_eq_getElem hl]
    rw [this]; exact h.ok _ (List.getElem_mem hl)
theorem nm_of {t : Tr} (hL : Lim t) {xs : List Nm} (h : Nmg t xs) {u : List Nat × Ref} (hu : u ∈ usT t) : nmOk (nameOf xs u.2) = true := by
  cases e : u.2 with
  | inl b => exact (nmg_at h (us_ref hu e).2).2
  | inr x => exact us_nm hL hu e
theorem c45 (hp : Has p [5, 28, 45]) (hk : Kls p) {n : Nat} (hn : 2 ≤ n) {t : Tr} (hL : Lim t) {xs : List Nm} (h : Nmg t xs) (S : Store) : (tabN p n).fn 45 [termD t, nmsD xs] S = some (.bl true, S) := by
  obtain ⟨m, rfl⟩ : ∃ m, n = m + 1 := ⟨n - 1, by omega⟩
  rw [fn_at (d := D45) (hp 45 (by decide))]
  have h28 := fun S => c28t (p := p) (n := m) (hp.mono (by decide)) (by omega) (xs := xs.map .str) (by simp) S
  have h5 := fun x (hx : x ∈ xs) S => c5 (p := p) (n := m) (hp.mono (by decide)) (by omega) (h.ok x hx) S
  have hb := hL.bd
  have hlen := h.len
  let env : DEnv := [some (termD t), some (nmsD xs), none]
  refine run_0 (d := .bl true) (S1 := []) rfl (by simp [pu_term]) rfl (s_nx (env1 := env) (S1 := []) ?_ (s_rt ?_)) (frz_pure rfl _) S
  · show ex _ (.ite (.or (.not (.call 28 [.var 1])) (.p2 .ne (.pb .len false [.var 1]) (.pb .len false [.attr 8 (.var 0)]))) [.ret (.con (.bl false))] []) env _ = _
    have hl2 : evE (tabN p m) (.pb .len false [.attr 8 (.var 0)]) env [] = some (iD (bT t).length, []) := by
      rw [e_pb, l_cons, at_names hk 0 rfl]; simp
    have hl1 : evE (tabN p m) (.pb .len false [.var 1]) env [] = some (iD xs.length, []) := by
      rw [e_pb, l_cons, e_var]; simp [env]
    have hc1 : evE (tabN p m) (.not (.call 28 [.var 1])) env [] = some (.bl false, []) := by
      rw [e_not, e_call, l_cons, e_var]; simp [env, h28]
    have hc : evE (tabN p m) (.or (.not (.call 28 [.var 1])) (.p2 .ne (.pb .len false [.var 1]) (.pb .len false [.attr 8 (.var 0)]))) env [] = some (.bl false, []) := by
      rw [e_or, hc1, ]
      simp only [e_p2, hl1, hl2, o_ne, eq_int, Option.map_some]
      simp [hlen]
    rw [if_f hc rfl, s_nil]
  · show ex _ (.ret (.pb .all false [.lc false [2] (.nm 2) 0 [.var 1] none (.call 5 [.var 2])])) env _ = _
    rw [s_ret, e_pb, l_cons, E_lcm (enc := D.str) (g := fun _ => .bl true) (ys := xs) (ds := [nmsD xs]) (S1 := [])]
    · simp only [l_nil, nl_f]
      rw [map_true, b_all, all_true]
    · simp [env]
    · exact .inl (by simp [srcD])
    · intro x hx; simp [lcStep, env, wipeD, h5 x hx]
    · omega
theorem c47 (hp : Has p [5, 28, 34, 45, 47]) (hk : Kls p) {n : Nat} (hn : 3 ≤ n) {t : Tr} (hL : Lim t) {xs : List Nm} (h : Nmg t xs) (S : Store) : (tabN p n).fn 47 [termD t, nmsD xs] S = some (.non, S) := by
  obtain ⟨m, rfl⟩ : ∃ m, n = m + 1 := ⟨n - 1, by omega⟩
  rw [fn_at (d := D47) (hp 47 (by decide))]
  have h34 := fun S => c34 (p := p) (n := m) (hp.mono (by decide)) hk (by omega) t S
  have h45 := fun S => c45 (p := p) (n := m) (hp.mono (by decide)) hk (by omega) hL h S
  refine run_0n (env1 := [some (termD t), some (nmsD xs)]) (S1 := []) rfl (by simp [pu_term]) rfl ?_ S
  simp [D47, B47, startD, h34, h45]
/-! ### catches -/
def catU (xs : List Nm) (y : (List Nat × Ref) × Nat) : List (Nat × Nat × Ref) := ((inn y.1.1 y.1.2).filter fun b => decide (xs.getD b [] = nameOf xs y.1.2)).map fun b => (y.2, b, y.1.2)
def catT (t : Tr) (xs : List Nm) : List (Nat × Nat × Ref) := (usT t).zipIdx.flatMap (catU xs)
def caD (q : Nat × Nat × Ref) : D := .tup [iD q.1, iD q.2.1, refD q.2.2]
theorem pu_ca (q : Nat × Nat × Ref) : pureD (caD q) = true := by simp [caD, pu_ref]
theorem inn_len {ar : List Nat} {r : Ref} : (inn ar r).length ≤ ar.length := by
  cases r with
  | inr x => exact Nat.le_refl _
  | inl b => exact List.length_filter_le _ _
theorem catU_len {t : Tr} (hL : Lim t) (xs : List Nm) {y : (List Nat × Ref) × Nat} (hy : y.1 ∈ usT t) : (catU xs y).length ≤ 100 := by
  have h1 := us_ar hL _ hy
  have h2 := inn_len (ar := y.1.1) (r := y.1.2)
  have h3 := List.length_filter_le (fun b => decide (xs.getD b [] = nameOf xs y.1.2)) (inn y.1.1 y.1.2)
  rw [catU, List.length_map]; omega
def env54 (t : Tr) (xs : List Nm) (e3 e4 e5 : Option D) : DEnv := [some (termD t), some (nmsD xs), some (.obj 0), e3, e4, e5, none]
theorem c54 (hp : Has p [50, 53, 54]) (hk : Kls p) {n : Nat} (hn : 2 ≤ n) {t : Tr} (hL : Lim t) {xs : List Nm} (h : Nmg t xs) (S : Store) : (tabN p n).fn 54 [termD t, nmsD xs] S = some (.lst ((catT t xs).map caD), S) := by
  obtain ⟨m, rfl⟩ : ∃ m, n = m + 1 := ⟨n - 1, by omega⟩
  rw [fn_at (d := D54) (hp 54 (by decide))]
  have hul := us_len hL
  obtain ⟨env1, S1, e, e3, e4, e5, rfl, rfl⟩ := E_for (T := tabN p m) (env := env54 t xs none none none) (tg := .tup [.nm 3, .nm 4]) (k := 2) (it := [.attr 10 (.var 0)]) (b := [(.asg (.nm 5) (.lc false [6] (.nm 6) 0 [(.call 53 [(.p2 .idx (.attr 9 (.var 0)) (.var 3)),(.var 4)])] (some (.p2 .eq (.p2 .idx (.var 1) (.var 6)) (.call 50 [(.var 1),(.var 4)]))) (.var 6))), (.drop (.pm .extend (.var 2) [(.lc false [6] (.nm 6) 0 [(.var 5)] none (.disp .tup [false,false,false] [(.var 3),(.var 6),(.var 4)]))]))]) (enc := fun y : (List Nat × Ref) × Nat => .tup [iD y.2, refD y.1.2]) (ys := (usT t).zipIdx) (ds := [.lst ((trefs t).map refD)]) (S := [.lst []]) (S1 := [.lst []])
    (fun done env S => ∃ e3 e4 e5, env = env54 t xs e3 e4 e5 ∧ S = [.lst ((done.flatMap (catU xs)).map caD)]) (by
      rw [l_cons, at_mean hk 0 rfl]; simp only [l_nil]) (by
      rw [refs_us]
      show some (Src.items (enumD ((0 : Nat) : Int) _)) = _
      rw [enumD_map]) ⟨none, none, none, rfl, rfl⟩ (by
      rintro done y rest hd env S ⟨e3, e4, e5, rfl, rfl⟩
      have hmem : y ∈ (usT t).zipIdx := by rw [← hd]; simp
      have hy : (usT t)[y.2]? = some y.1 := by
        have := List.mem_zipIdx_iff_getElem?.mp (show (y.1, y.2) ∈ (usT t).zipIdx from hmem)
        simpa using this
      have hyu : y.1 ∈ usT t := List.mem_of_getElem? hy
      have har := us_ar hL _ hyu
      have hdl : done.length ≤ 400 := by
        have := congrArg List.length hd
        simp at this; omega
      have hcl := catU_len hL xs hyu
      have hpl := fm_len (catU xs) 100 done (fun z hz => by
        have hz2 : z ∈ (usT t).zipIdx := by rw [← hd]; simp [hz]
        have := List.mem_zipIdx_iff_getElem?.mp (show (z.1, z.2) ∈ (usT t).zipIdx from hz2)
        exact catU_len hL xs (List.mem_of_getElem? (by simpa using this)))
      have h53 := fun S => c53 (p := p) (n := m) (hp.mono (by decide)) (by omega) y.1.1 y.1.2 (by omega) S
      have h50 := fun S => c50 (p := p) (n := m) (hp.mono (by decide)) (by omega) xs y.1.2 (fun b e => by rw [h.len]; exact (us_ref hyu e).2) S
      let some_ := (inn y.1.1 y.1.2).filter fun b => decide (xs.getD b [] = nameOf xs y.1.2)
      let S0 : Store := [.lst ((done.flatMap (catU xs)).map caD)]
      refine ⟨env54 t xs (some (iD y.2)) (some (refD y.1.2)) (some (.lst (natsD some_))), [.lst (((done ++ [y]).flatMap (catU xs)).map caD)], ?_, _, _, _, rfl, rfl⟩
      have hset : setT S0 (.tup [.nm 3, .nm 4]) (.tup [iD y.2, refD y.1.2]) (env54 t xs e3 e4 e5) = some (env54 t xs (some (iD y.2)) (some (refD y.1.2)) e5) := by simp [env54]
      have hi : ((usT t).map fun u => D.tup (natsD u.1))[y.2]? = some (.tup (natsD y.1.1)) := by rw [List.getElem?_map, hy]; rfl
      have ha : evE (tabN p m) (.p2 .idx (.attr 9 (.var 0)) (.var 3)) (env54 t xs (some (iD y.2)) (some (refD y.1.2)) e5) S0 = some (.tup (natsD y.1.1), S0) := by
        rw [e_p2, at_around hk 0 rfl, ar_us]
        simp [env54, ixN, hi]
      have hv4 : evE (tabN p m) (.var 4) (env54 t xs (some (iD y.2)) (some (refD y.1.2)) e5) S0 = some (refD y.1.2, S0) := by rw [e_var]; rfl
      have hlc : evE (tabN p m) (.lc false [6] (.nm 6) 0 [(.call 53 [(.p2 .idx (.attr 9 (.var 0)) (.var 3)),(.var 4)])] (some (.p2 .eq (.p2 .idx (.var 1) (.var 6)) (.call 50 [(.var 1),(.var 4)]))) (.var 6)) (env54 t xs (some (iD y.2)) (some (refD y.1.2)) e5) S0 = some (.lst (natsD some_), S0) := by
        rw [E_lcf (enc := iD) (g := iD) (c := fun b => decide (xs.getD b [] = nameOf xs y.1.2)) (ys := inn y.1.1 y.1.2) (ds := [.lst (natsD (inn y.1.1 y.1.2))]) (S1 := S0)]
        · rw [nl_f]
        · simp only [l_cons, e_call, ha, hv4, l_nil, h53]
        · exact .inl (by simp [srcD])
        · intro b hb
          have hbl : b < (bT t).length := us_lt hL _ hyu b (inn_sub hb)
          obtain ⟨g1, g2⟩ := nmg_at h hbl
          have hw : setT S0 (.nm 6) (iD b) (wipeD (env54 t xs (some (iD y.2)) (some (refD y.1.2)) e5) [6]) = some [some (termD t), some (nmsD xs), some (.obj 0), some (iD y.2), some (refD y.1.2), e5, some (iD b)] := by rw [t_nm]; rfl
          have heq := eq_str (sOk_nm g2) (sOk_nm (nm_of hL h hyu)) S0
          have hcd : evE (tabN p m) (.p2 .eq (.p2 .idx (.var 1) (.var 6)) (.call 50 [(.var 1),(.var 4)])) [some (termD t), some (nmsD xs), some (.obj 0), some (iD y.2), some (refD y.1.2), e5, some (iD b)] S0 = some (.bl (decide (xs.getD b [] = nameOf xs y.1.2)), S0) := by
            simp only [e_p2, e_call, l_cons, l_nil, e_var, List.getElem?_cons_succ, List.getElem?_cons_zero, o_idxt, ixN, g1, h50, o_eq, heq, Option.map_some]
          have hv6 : evE (tabN p m) (.var 6) [some (termD t), some (nmsD xs), some (.obj 0), some (iD y.2), some (refD y.1.2), e5, some (iD b)] S0 = some (iD b, S0) := by rw [e_var]; rfl
          simp only [lcStep, hw, c_some, hcd, hv6]
          cases decide (xs.getD b [] = nameOf xs y.1.2) <;> rfl
        · have := inn_len (ar := y.1.1) (r := y.1.2); omega
      simp only [forStep]
      rw [show (Cell.lst ((done.flatMap (catU xs)).map caD) :: ([] : Store)) = S0 from rfl, hset]
      refine s_nx (env1 := env54 t xs (some (iD y.2)) (some (refD y.1.2)) (some (.lst (natsD some_)))) (S1 := S0) (by rw [s_asg, hlc]; simp [env54]) (s_nx ?_ s_nil)
      have hlc2 : evE (tabN p m) (.lc false [6] (.nm 6) 0 [(.var 5)] none (.disp .tup [false,false,false] [(.var 3),(.var 6),(.var 4)])) (env54 t xs (some (iD y.2)) (some (refD y.1.2)) (some (.lst (natsD some_)))) S0 = some (.lst ((catU xs y).map caD), S0) := by
        rw [E_lcm (enc := iD) (g := fun b => caD (y.2, b, y.1.2)) (ys := some_) (ds := [.lst (natsD some_)]) (S1 := S0)]
        · rw [nl_f, catU, List.map_map]; rfl
        · simp [env54]
        · exact .inl (by simp [srcD])
        · intro b _; simp [lcStep, env54, wipeD, szOk, caD]
        · have : some_.length = (catU xs y).length := by simp [catU, some_]
          omega
      have v2 : evE (tabN p m) (.var 2) (env54 t xs (some (iD y.2)) (some (refD y.1.2)) (some (.lst (natsD some_)))) S0 = some (.obj 0, S0) := by rw [e_var]; rfl
      have hc : S0[0]? = some (.lst ((done.flatMap (catU xs)).map caD)) := rfl
      have hz : szOk (((done.flatMap (catU xs)).map caD).length + ((catU xs y).map caD).length) = true := decide_eq_true (by simp only [List.length_map]; omega)
      have hpm : pm .extend (.obj 0) [.lst ((catU xs y).map caD)] S0 = some (.non, S0.set 0 (.lst ((done.flatMap (catU xs)).map caD ++ (catU xs y).map caD))) := by
        simp only [LN.pm, hc, lstD, hz, if_true]
      rw [s_drop, e_pm, v2]
      simp only [r_obj hc, if_true, l_cons, hlc2, l_nil, hpm]
      simp [S0])
  refine run_0 (d := .obj 0) (S1 := [.lst ((catT t xs).map caD)]) rfl (by simp [pu_term]) rfl (s_nx (env1 := env54 t xs none none none) (S1 := [.lst []]) ?_ (s_nx e (s_rt ?_))) (frz_cell (pureL_map pu_ca _) rfl) S
  · show ex _ (.asg (.nm 2) (.disp .cell [] [])) [some (termD t), some (nmsD xs), none, none, none, none, none] [] = _
    simp [env54, szOk]
  · show ex _ (.ret (.var 2)) _ _ = _
    simp [env54, catT]
theorem plain_ca {t : Tr} (hL : Lim t) {xs : List Nm} : ∀ q ∈ catT t xs, plain 1 (caD q) = true := fun q hq => by
  obtain ⟨y, hy, hq⟩ := List.mem_flatMap.mp hq
  obtain ⟨b, hb, rfl⟩ := List.mem_map.mp hq
  have := List.mem_zipIdx_iff_getElem?.mp (show (y.1, y.2) ∈ (usT t).zipIdx from hy)
  have hyu : y.1 ∈ usT t := List.mem_of_getElem? (by simpa using this)
  have := plain_ref (r := y.1.2) (fun x e => us_nm hL hyu e) 0
  simp [caD, plain, this]
theorem c55 (hp : Has p [5, 28, 34, 45, 47, 50, 53, 54, 55]) (hk : Kls p) {n : Nat} (hn : 4 ≤ n) {t : Tr} (hL : Lim t) {xs : List Nm} (h : Nmg t xs) (S : Store) : ∃ k, (tabN p n).fn 55 [termD t, nmsD xs] S = some (.bl k, S) ∧ (k = true ↔ catT t xs = []) := by
  obtain ⟨m, rfl⟩ : ∃ m, n = m + 1 := ⟨n - 1, by omega⟩
  have h47 := fun S => c47 (p := p) (n := m) (hp.mono (by decide)) hk (by omega) hL h S
  have h54 := fun S => c54 (p := p) (n := m) (hp.mono (by decide)) hk (by omega) hL h S
  obtain ⟨k, hk1, hk2⟩ := eq_plain (n := 2) (a := .lst ((catT t xs).map caD)) (b := .lst []) (List.all_eq_true.mpr fun x hx => by
    obtain ⟨q, hq, rfl⟩ := List.mem_map.mp hx
    exact plain_ca hL q hq) rfl (by omega) []
  refine ⟨k, ?_, ?_⟩
  · rw [fn_at (d := D55) (hp 55 (by decide))]
    refine run_0 (d := .bl k) (S1 := []) rfl (by simp [pu_term]) rfl ?_ (frz_pure rfl _) S
    simp [D55, B55, startD, h47, h54, szOk, hk1]
  · rw [hk2]; simp
end Sp

set_option Elab.async false
set_option linter.all false
set_option maxRecDepth 100000
namespace Sp
open LN LP PySem
variable {p : Prog}
theorem cl_lt {t : Tr} {q : Ref × Nat} (hq : q ∈ clT t) : q.2 < (bT t).length ∧ q.1 ∈ live t q.2 := by
  obtain ⟨b, hb, hq⟩ := List.mem_flatMap.mp hq
  obtain ⟨r, hr, rfl⟩ := List.mem_map.mp hq
  exact ⟨List.mem_range.mp hb, hr⟩
theorem cl_len {t : Tr} (h : Lim t) : (clT t).length ≤ 24000 := by
  have h1 := fm_len (fun b => (live t b).map fun r => (r, b)) 400 (List.range (bT t).length) (fun a _ => by rw [List.length_map]; exact live_len h a)
  have h2 := h.bd
  rw [List.length_range] at h1
  show ((List.range (bT t).length).flatMap fun b => (live t b).map fun r => (r, b)).length ≤ 24000
  have : (bT t).length * 400 ≤ 60 * 400 := Nat.mul_le_mul_right _ h2
  omega
def hurtT (t : Tr) (xs : List Nm) : List (Ref × Nat) := (clT t).filter fun q => decide (nameOf xs q.1 = xs.getD q.2 [])
theorem c63 (hp : Has p [5, 28, 29, 30, 34, 45, 47, 50, 53, 57, 58, 60, 63]) (hk : Kls p) {n : Nat} (hn : 6 ≤ n) {t : Tr} (hL : Lim t) {xs : List Nm} (h : Nmg t xs) (S : Store) : (tabN p n).fn 63 [termD t, nmsD xs] S = some (.lst ((hurtT t xs).map clD), S) := by
  obtain ⟨m, rfl⟩ : ∃ m, n = m + 1 := ⟨n - 1, by omega⟩
  rw [fn_at (d := D63) (hp 63 (by decide))]
  have h47 := fun S => c47 (p := p) (n := m) (hp.mono (by decide)) hk (by omega) hL h S
  have h60 := fun S => c60 (p := p) (n := m) (hp.mono (by decide)) hk (by omega) hL S
  have hcl := cl_len hL
  let env : DEnv := [some (termD t), some (nmsD xs), none, none]
  refine run_0 (d := .lst ((hurtT t xs).map clD)) (S1 := []) rfl (by simp [pu_term]) rfl (s_nx (env1 := env) (S1 := []) ?_ (s_rt ?_)) (frz_pure (by rw [pu_lst]; exact pureL_map pu_cl _) _) S
  · show ex _ (.drop (.call 47 [.var 0, .var 1])) env _ = _
    simp [env, h47]
  · show ex _ (.ret (.lc false [2,3] (.tup [(.nm 2),(.nm 3)]) 0 [(.call 60 [(.var 0)])] (some (.p2 .eq (.call 50 [(.var 1),(.var 2)]) (.p2 .idx (.var 1) (.var 3)))) (.disp .tup [false,false] [(.var 2),(.var 3)]))) env _ = _
    rw [s_ret, E_lcf (enc := clD) (g := clD) (c := fun q => decide (nameOf xs q.1 = xs.getD q.2 [])) (ys := clT t) (ds := [.lst ((clT t).map clD)]) (S1 := [])]
    · rw [nl_f]; rfl
    · simp [env, h60]
    · exact .inl (by simp [srcD])
    · intro q hq
      obtain ⟨q1, q2⟩ := cl_lt hq
      obtain ⟨u, hu, hb, hr⟩ := mem_live.mp q2
      have h50 := fun S => c50 (p := p) (n := m) (hp.mono (by decide)) (by omega) xs q.1 (fun b e => by rw [h.len]; exact (us_ref hu (hr.trans e)).2) S
      obtain ⟨g1, g2⟩ := nmg_at h q1
      have hn1 : nmOk (nameOf xs q.1) = true := by rw [← hr]; exact nm_of hL h hu
      have heq := eq_str (sOk_nm hn1) (sOk_nm g2) []
      have hw : setT [] (.tup [.nm 2, .nm 3]) (clD q) (wipeD env [2, 3]) = some [some (termD t), some (nmsD xs), some (refD q.1), some (iD q.2)] := by simp [clD, env, wipeD]
      have hcd : evE (tabN p m) (.p2 .eq (.call 50 [(.var 1),(.var 2)]) (.p2 .idx (.var 1) (.var 3))) [some (termD t), some (nmsD xs), some (refD q.1), some (iD q.2)] [] = some (.bl (decide (nameOf xs q.1 = xs.getD q.2 [])), []) := by
        simp only [e_p2, e_call, l_cons, l_nil, e_var, List.getElem?_cons_succ, List.getElem?_cons_zero, o_idxt, ixN, g1, h50, o_eq, heq, Option.map_some]
      have hv : evE (tabN p m) (.disp .tup [false,false] [(.var 2),(.var 3)]) [some (termD t), some (nmsD xs), some (refD q.1), some (iD q.2)] [] = some (clD q, []) := by simp [szOk, clD]
      simp only [lcStep, hw, c_some, hcd, hv]
      cases decide (nameOf xs q.1 = xs.getD q.2 []) <;> rfl
    · omega
/-! ### all_live, its lists as cells -/
theorem lcC_grow {stp : D → Store → Option (Option D × Store)} {i : Nat} {xs : List D} {P : Cell → Prop} {S : Store} (hi : S[i]? = some (.lst xs)) (hs : ∀ x ∈ xs, ∀ X, ∃ c, stp x (S ++ X) = some (some (.obj (S ++ X).length), S ++ X ++ [c]) ∧ P c) : ∀ (n k : Nat) (X : Store), xs.length - k < n →
    ∃ ys cs, lcC stp i n k (S ++ X) = some (ys, S ++ X ++ cs) ∧ ys.length = xs.length - k ∧ cs.length = xs.length - k ∧ (∀ j, j < ys.length → ys[j]? = some (.obj ((S ++ X).length + j))) ∧ ∀ c ∈ cs, P c
  | 0, k, X, hn => by omega
  | n + 1, k, X, hn => by
    have hi' : (S ++ X)[i]? = some (.lst xs) := by rw [List.getElem?_append_left (List.getElem?_eq_some_iff.mp hi).1]; exact hi
    rw [lcC, hi']
    dsimp only
    by_cases q : k < xs.length
    · rw [List.getElem?_eq_getElem q]
      dsimp only
      obtain ⟨c, e, hP⟩ := hs _ (List.getElem_mem q) X
      rw [e]
      obtain ⟨ys, cs, e2, l1, l2, h1, h2⟩ := lcC_grow hi hs n (k + 1) (X ++ [c]) (by omega)
      rw [← List.append_assoc] at e2 h1
      refine ⟨.obj (S ++ X).length :: ys, c :: cs, ?_, by simp [l1]; omega, by simp [l2]; omega, ?_, ?_⟩
      · simp only [e2]; simp
      · intro j hj
        cases j with
        | zero => simp
        | succ j =>
          rw [List.getElem?_cons_succ, h1 j (by simpa using hj)]
          simp; omega
      · intro d hd
        rcases List.mem_cons.mp hd with rfl | hd
        · exact hP
        · exact h2 d hd
    · rw [List.getElem?_eq_none (by omega)]
      refine ⟨[], [], by simp, by simp; omega, by simp; omega, by simp, by simp⟩
theorem c303 (hp : Has p [29, 30, 53, 303, 304]) (hk : Kls p) {n : Nat} (hn : 4 ≤ n) {t : Tr} (h : Lim t) (S : Store) : ∃ ys X cs, (tabN p n).fn 303 [termD t] S = some (.lst ys, S ++ X ++ cs) ∧ ys.length = (bT t).length ∧ cs.length = (bT t).length ∧ (∀ j, j < (bT t).length → ys[j]? = some (.obj ((S ++ X).length + j))) ∧ ∀ c ∈ cs, ∃ zs, c = .lst zs ∧ zs.length < 100000 := by
  obtain ⟨m, rfl⟩ : ∃ m, n = m + 1 := ⟨n - 1, by omega⟩
  rw [fn_at (d := D303) (hp 303 (by decide))]
  obtain ⟨e2, e3, e4, h1⟩ := live_1 (p := p) (m := m) (S0 := S) (hp.mono (by decide)) (by omega) hk h
  have h0 := live_0 (p := p) (m := m) (S0 := S) hk h
  obtain ⟨L, hLd⟩ : ∃ L, L = fillA (List.replicate (bT t).length ([] : List Ref)) (usT t) := ⟨_, rfl⟩
  rw [← hLd] at h1
  have hL : L.length = (bT t).length := by rw [hLd, fillA_len]; simp
  have hf := lv_found S L
  rw [hL] at hf
  obtain ⟨ys, cs, hc, l1, l2, g1, g2⟩ := lcC_grow (stp := lcStep (tabN p m) [6] (.nm 6) none (.call 304 [.var 6]) (env57 t (S.length + (bT t).length) e2 e3 e4)) (P := fun c => ∃ zs, c = .lst zs ∧ zs.length < 100000) hf (fun x hx X => by
    obtain ⟨b, hb, rfl⟩ := List.mem_map.mp hx
    have hb' := List.mem_range.mp hb
    have hd := lv_dct (S0 := S) (L := L) (b := b) (by rw [hL]; exact hb')
    have hd2 : (lvS S L ++ X)[S.length + b]? = some (.dct ((liveK t b).map rk) ((liveK t b).map fun _ => .bl true)) := by
      rw [List.getElem?_append_left (List.getElem?_eq_some_iff.mp hd).1, hd]
      rw [hLd, fill_getD hb']; rfl
    have h304 := c304 (p := p) (n := m) (hp.mono (by decide)) (by omega) hd2 (by have := liveK_len h b; omega) (liveK_ints h b) (liveK_strs h b)
    refine ⟨.lst ((live t b).map refD), ?_, _, rfl, by have := live_len h b; rw [List.length_map]; omega⟩
    have hw : setT (lvS S L ++ X) (.nm 6) (.obj (S.length + b)) (wipeD (env57 t (S.length + (bT t).length) e2 e3 e4) [6]) = some [some (termD t), some (.obj (S.length + (bT t).length)), e2, e3, e4, none, some (.obj (S.length + b))] := by rw [t_nm]; rfl
    have v6 : evE (tabN p m) (.var 6) [some (termD t), some (.obj (S.length + (bT t).length)), e2, e3, e4, none, some (.obj (S.length + b))] (lvS S L ++ X) = some (.obj (S.length + b), lvS S L ++ X) := by rw [e_var]; rfl
    simp only [lcStep, hw, c_none, e_call, l_cons, v6, l_nil, h304]
    rfl) (((List.range (bT t).length).map fun i => D.obj (S.length + i)).length + 1) 0 [] (by omega)
  simp only [List.append_nil, Nat.sub_zero, List.length_map, List.length_range] at l1 l2 g1
  rw [List.append_nil] at hc
  have hz : szOk ys.length = true := decide_eq_true (by have := h.bd; omega)
  refine ⟨ys, L.map dctOf ++ [.lst ((List.range L.length).map fun i => .obj (S.length + i))], cs, ?_, l1, l2, fun j hj => g1 j (by omega), g2⟩
  refine run_2 rfl rfl (s_nx h0 (s_nx h1 (s_rt ?_)))
  show ex _ (.ret (.lc false [6] (.nm 6) 0 [.var 1] none (.call 304 [.var 6]))) _ _ = _
  have v1 : evE (tabN p m) (.var 1) (env57 t (S.length + (bT t).length) e2 e3 e4) (lvS S L) = some (.obj (S.length + (bT t).length), lvS S L) := by rw [e_var]; rfl
  have hsr : srcD 0 [.obj (S.length + (bT t).length)] (lvS S L) = some (.cell (S.length + (bT t).length)) := by simp [srcD, hf]
  rw [s_ret, e_lc]
  simp only [l_cons, v1, l_nil, hsr, lcS, hf, List.length_map, List.length_range]
  rw [List.length_map, List.length_range] at hc
  simp only [hc, hz, if_true, nl_f]
  simp [lvS]
theorem c302 (hp : Has p [3, 4, 29, 30, 34, 35, 53, 302, 303, 304]) (hk : Kls p) {n : Nat} (hn : 5 ≤ n) {t : Tr} (h : Lim t) {b : Nat} (hb : b < (bT t).length) (S : Store) : ∃ j X zs, (tabN p n).fn 302 [termD t, iD b] S = some (.obj j, S ++ X) ∧ S.length ≤ j ∧ (S ++ X)[j]? = some (.lst zs) ∧ zs.length < 100000 := by
  obtain ⟨m, rfl⟩ : ∃ m, n = m + 1 := ⟨n - 1, by omega⟩
  have h35 := fun S => c35 (p := p) (n := m) (hp.mono (by decide)) hk (by omega) t hb S
  obtain ⟨ys, X, cs, e, l1, l2, g1, g2⟩ := c303 (p := p) (n := m) (hp.mono (by decide)) hk (by omega) h S
  have hbc : b < cs.length := by omega
  obtain ⟨zs, hz1, hz2⟩ := g2 _ (List.getElem_mem hbc)
  refine ⟨(S ++ X).length + b, X ++ cs, zs, ?_, by simp; omega, ?_, hz2⟩
  · rw [fn_at (d := D302) (hp 302 (by decide))]
    refine run_2 rfl rfl (s_nx (env1 := [some (termD t), some (iD b)]) (S1 := S) (by simp [startD, D302, h35]) (s_rt ?_))
    show ex _ (.ret (.p2 .idx (.call 303 [.var 0]) (.var 1))) _ _ = _
    simp [e, ixN, g1 b hb]
  · rw [← List.append_assoc, List.getElem?_append_right (by omega), Nat.add_sub_cancel_left, List.getElem?_eq_getElem hbc, hz1]
end Sp

set_option Elab.async false
set_option linter.all false
set_option maxRecDepth 100000
namespace Sp
open LN LP PySem
variable {p : Prog}
/-! ### the source of draws -/
def Src (S : Store) (j : Nat) : Prop := ∃ b s : Int, S[j]? = some (.lst [.int b, .int s])
/-- the source goes on, all other old cells stay -/
structure Kp (j : Nat) (S S' : Store) : Prop where
  src : Src S' j
  len : S.length ≤ S'.length
  old : ∀ i, i < S.length → i ≠ j → S'[i]? = S[i]?
theorem Kp.refl {j : Nat} {S : Store} (h : Src S j) : Kp j S S := ⟨h, Nat.le_refl _, fun _ _ _ => rfl⟩
theorem Kp.trans {j : Nat} {S S1 S2 : Store} (a : Kp j S S1) (b : Kp j S1 S2) : Kp j S S2 := ⟨b.src, Nat.le_trans a.len b.len, fun i h1 h2 => by rw [b.old i (Nat.lt_of_lt_of_le h1 a.len) h2, a.old i h1 h2]⟩
theorem Src.lt {S : Store} {j : Nat} (h : Src S j) : j < S.length := by obtain ⟨b, s, e⟩ := h; exact (List.getElem?_eq_some_iff.mp e).1
/-- a new cell behind -/
theorem Kp.new {j : Nat} {S : Store} (h : Src S j) (X : Store) : Kp j S (S ++ X) := by
  have hl := h.lt
  obtain ⟨b, s, e⟩ := h
  exact ⟨⟨b, s, by rw [List.getElem?_append_left hl]; exact e⟩, by simp, fun i hi _ => List.getElem?_append_left hi⟩
/-- a cell written that is neither old nor the source -/
theorem Kp.set {j k : Nat} {S S1 : Store} {c : Cell} (a : Kp j S S1) (hk : S.length ≤ k) (hj : j < S.length) : Kp j S (S1.set k c) := by
  obtain ⟨b, s, e⟩ := a.src
  exact ⟨⟨b, s, by rw [List.getElem?_set_ne (by omega)]; exact e⟩, by simp; exact a.len, fun i h1 h2 => by rw [List.getElem?_set_ne (by omega), a.old i h1 h2]⟩
def tkV (b s top : Int) : Int := if 0 < b then b % top else (((s * 39373 + 7) % 2147483647) * ((s * 39373 + 7) % 2147483647) % 2147483629 / 32) % top
def tkB (b top : Int) : Int := if 0 < b then b / top else b
def tkS (b s : Int) : Int := if 0 < b then s else (s * 39373 + 7) % 2147483647
theorem cmul_r (i j : Int) (h1 : -(2 ^ 64) < j) (h2 : j < 2 ^ 64) : cmulB i j = true := by
  simp only [cmulB, Bool.or_eq_true, decide_eq_true_eq]
  exact .inr ⟨h1, h2⟩
theorem set_it (j : Nat) (xs : List D) (i : Int) (y : D) (S : Store) (h : S[j]? = some (.lst xs)) : LN.setItem (.obj j) (.int i) y S = if 0 ≤ i ∧ i < xs.length then some (S.set j (.lst (xs.set i.toNat y))) else none := by
  simp only [LN.setItem, h]
theorem take_eq (T : Tab) (S : Store) (j : Nat) (b s top : Int) (h : S[j]? = some (.lst [.int b, .int s])) (ht : 0 < top) (ht2 : top < 1073741824) :
    runF T D401 [.obj j, .int top] S = some (.int (tkV b s top), S.set j (.lst [.int (tkB b top), .int (tkS b s)])) := by
  have hj : j < S.length := (List.getElem?_eq_some_iff.mp h).1
  have m1 : cmulB s 39373 = true := cmul_r _ _ (by decide) (by decide)
  have p0 : 0 ≤ (s * 39373 + 7) % 2147483647 := Int.emod_nonneg _ (by decide)
  have p1 : (s * 39373 + 7) % 2147483647 < 2147483647 := Int.emod_lt_of_pos _ (by decide)
  have m2 : cmulB ((s * 39373 + 7) % 2147483647) ((s * 39373 + 7) % 2147483647) = true := cmul_r _ _ (by omega) (by omega)
  have hb0 : (S.set j (.lst [.int b, .int ((s * 39373 + 7) % 2147483647)]))[j]? = some (.lst [.int b, .int ((s * 39373 + 7) % 2147483647)]) := List.getElem?_set_self hj
  refine run_2 rfl rfl ?_
  by_cases hb : 0 < b
  · simp [D401, B401, startD, hb, tkV, tkB, tkS, o_idxo h, ixD, set_it j _ _ _ S h, ht, ht2]
  · simp [D401, B401, startD, hb, tkV, tkB, tkS, o_idxo h, o_idxo hb0, ixD, set_it j _ _ _ S h, ht, ht2, m1, m2]
theorem tkV_lt (b s top : Int) (ht : 0 < top) : 0 ≤ tkV b s top ∧ tkV b s top < top := by
  unfold tkV
  split
  · exact ⟨Int.emod_nonneg _ (by omega), Int.emod_lt_of_pos _ ht⟩
  · exact ⟨Int.emod_nonneg _ (by omega), Int.emod_lt_of_pos _ ht⟩
theorem c401 (hp : Has p [401]) {n : Nat} (hn : 1 ≤ n) {S : Store} {j : Nat} (h : Src S j) {top : Nat} (ht : 0 < top) (ht2 : top < 1000000) : ∃ k S1, k < top ∧ (tabN p n).fn 401 [.obj j, iD top] S = some (iD k, S1) ∧ Kp j S S1 ∧ S1.length = S.length := by
  obtain ⟨m, rfl⟩ : ∃ m, n = m + 1 := ⟨n - 1, by omega⟩
  have hj := h.lt
  obtain ⟨b, s, e⟩ := h
  have e1 := take_eq (tabN p m) S j b s top e (by omega) (by omega)
  obtain ⟨h1, h2⟩ := tkV_lt b s top (by omega)
  refine ⟨(tkV b s top).toNat, S.set j (.lst [.int (tkB b top), .int (tkS b s)]), by omega, ?_, ⟨⟨tkB b top, tkS b s, List.getElem?_set_self hj⟩, by simp, fun i _ hi => by rw [List.getElem?_set_ne (Ne.symm hi)]⟩, by simp⟩
  rw [fn_at (d := D401) (hp 401 (by decide)), e1]
  congr 2
  show D.int _ = D.int _
  congr 1
  omega
theorem c402 (hp : Has p [401, 402]) {n : Nat} (hn : 2 ≤ n) {S : Store} {j : Nat} (h : Src S j) {xs : List D} (h1 : xs ≠ []) (h2 : xs.length < 1000000) : ∃ x S1, x ∈ xs ∧ (tabN p n).fn 402 [.obj j, .lst xs] S = some (x, S1) ∧ Kp j S S1 ∧ S1.length = S.length := by
  obtain ⟨m, rfl⟩ : ∃ m, n = m + 1 := ⟨n - 1, by omega⟩
  obtain ⟨k, S1, hk, e, hkp, hl⟩ := c401 (p := p) (n := m) (hp.mono (by decide)) (by omega) h (top := xs.length) (List.length_pos_iff.mpr h1) h2
  refine ⟨xs[k], S1, List.getElem_mem hk, ?_, hkp, hl⟩
  rw [fn_at (d := D402) (hp 402 (by decide))]
  refine run_2 rfl rfl (s_rt ?_)
  show ex _ (.ret (.p2 .idx (.var 1) (.call 401 [.var 0, .pb .len false [.var 1]]))) _ _ = _
  simp [startD, D402, e, ixN, List.getElem?_eq_getElem hk]
/-- words of which a tree is drawn -/
structure Wds (ws : List Nm) : Prop where
  ne : ws ≠ []
  len : ws.length < 1000
  ok : ∀ w ∈ ws, nmOk w = true
abbrev wD (ws : List Nm) : D := .lst (ws.map .str)
theorem one_w (hp : Has p [401, 402]) {n : Nat} (hn : 2 ≤ n) {S : Store} {j : Nat} (h : Src S j) {ws : List Nm} (hw : Wds ws) : ∃ w S1, w ∈ ws ∧ nmOk w = true ∧ (tabN p n).fn 402 [.obj j, wD ws] S = some (.str w, S1) ∧ Kp j S S1 ∧ S1.length = S.length := by
  obtain ⟨x, S1, hx, e, hk, hl⟩ := c402 (p := p) hp hn h (xs := ws.map .str) (by simpa using hw.ne) (by have := hw.len; simp; omega)
  obtain ⟨w, hw1, rfl⟩ := List.mem_map.mp hx
  exact ⟨w, S1, hw1, hw.ok w hw1, e, hk, hl⟩
theorem one_n (hp : Has p [401, 402]) {n : Nat} (hn : 2 ≤ n) {S : Store} {j : Nat} (h : Src S j) {ks : List Nat} (h1 : ks ≠ []) (h2 : ks.length < 1000) : ∃ k S1, k ∈ ks ∧ (tabN p n).fn 402 [.obj j, .lst (natsD ks)] S = some (iD k, S1) ∧ Kp j S S1 ∧ S1.length = S.length := by
  obtain ⟨x, S1, hx, e, hk, hl⟩ := c402 (p := p) hp hn h (xs := natsD ks) (by simpa using h1) (by simp; omega)
  obtain ⟨w, hw1, rfl⟩ := List.mem_map.mp hx
  exact ⟨w, S1, hw1, e, hk, hl⟩
theorem c405 (hp : Has p [401, 402, 405]) {n : Nat} (hn : 3 ≤ n) {S : Store} {j : Nat} (h : Src S j) {ws : List Nm} (hw : Wds ws) : ∃ w S1, nmOk w = true ∧ (tabN p n).fn 405 [.obj j, wD ws] S = some ((Tr.use w).d, S1) ∧ Kp j S S1 ∧ S1.length = S.length := by
  obtain ⟨m, rfl⟩ : ∃ m, n = m + 1 := ⟨n - 1, by omega⟩
  obtain ⟨w, S1, _, ok, e, hk, hl⟩ := one_w (p := p) (n := m) (hp.mono (by decide)) (by omega) h hw
  refine ⟨w, S1, ok, ?_, hk, hl⟩
  rw [fn_at (d := D405) (hp 405 (by decide))]
  refine run_2 rfl rfl (s_rt ?_)
  show ex _ (.ret (.disp .tup [false, false] [.con (.str [117,115,101]), .call 402 [.var 0, .var 1]])) _ _ = _
  simp [startD, D405, e, szOk, Tr.d]
end Sp

set_option Elab.async false
set_option linter.all false
set_option maxRecDepth 100000
namespace Sp
open LN LP PySem
variable {p : Prog}
mutual
theorem dp_sz : ∀ t : Tr, t.dp ≤ t.sz
  | .use _ => by rw [Tr.dp, Tr.sz]; omega
  | .join _ ps => by rw [Tr.dp, Tr.sz]; have := dp_szL ps; omega
  | .bind _ a b => by rw [Tr.dp, Tr.sz]; have := dp_szL a; have := dp_sz b; omega
theorem dp_szL : ∀ ts : List Tr, dpL ts ≤ szL ts
  | [] => by rw [dpL, szL]; omega
  | t :: ts => by rw [dpL, szL]; have := dp_szL ts; have := dp_sz t; omega
end
theorem bTs_app : ∀ (xs ys : List Tr), bTs (xs ++ ys) = bTs xs ++ bTs ys
  | [], ys => by simp [bTs]
  | x :: xs, ys => by rw [List.cons_append, bTs, bTs, bTs_app xs, List.append_assoc]
theorem okL_app : ∀ (xs ys : List Tr), okL (xs ++ ys) = (okL xs && okL ys)
  | [], ys => by simp [okL]
  | x :: xs, ys => by rw [List.cons_append, okL, okL, okL_app xs, Bool.and_assoc]
/-- the room that is left -/
abbrev rmD (a b : Nat) : D := .lst [iD a, iD b]
/-- a drawn tree within a room -/
structure Drawn (t : Tr) (a b a' b' : Nat) : Prop where
  ok : t.ok = true
  sz : a' + t.sz ≤ a
  bd : b' + (bT t).length ≤ b
/-- grown does what it is to do -/
def Grows (T : Tab) (j : Nat) (ws : List Nm) (A : Nat) : Prop := ∀ (a b : Nat) (S : Store), 1 ≤ a → a ≤ A → Src S j → ∃ t a' b' S1, T.fn 406 [.obj j, wD ws, rmD a b] S = some (.lst [t.d, rmD a' b'], S1) ∧ Kp j S S1 ∧ Drawn t a b a' b'
def env6 (j : Nat) (ws : List Nm) (rm : D) (e3 : Option D) (k : Nat) (l0 l1 : Nat) (e6 : Option D) : DEnv := [some (.obj j), some (wD ws), some rm, e3, some (.obj k), some (rmD l0 l1), e6]
/-- the parts that stand in a cell -/
structure Pts (j : Nat) (S S' : Store) (k A B l0 l1 : Nat) (ts : List Tr) : Prop where
  kp : Kp j S S'
  ge : S.length ≤ k
  at_ : S'[k]? = some (.lst (dL ts))
  ok : okL ts = true
  sz : l0 + szL ts ≤ A
  bd : l1 + (bTs ts).length ≤ B
  nil : ts = [] → l0 = A
theorem ge0 (x : Nat) : (0 : Int) < (x : Int) ↔ 0 < x := by omega
theorem parts_loop6 {T : Tab} {j : Nat} {ws : List Nm} {A B : Nat} {rm : D} {k : Nat} {S S0 : Store} {c : Nat} {it : List IE} {e3 e6 : Option D} {q : Nat} (hG : Grows T j ws A) (hj : j < S.length) (hq : q ≤ 100) (h0 : Pts j S S0 k A B A B [])
    (hit : ∃ S1, evL T it (env6 j ws rm e3 k A B e6) S0 = some ([iD q], S1) ∧ Kp j S0 S1) : ∃ e3' l0 l1 e6' S', ex T (.for (.nm 3) 1 it [.ite (.p2 .gt (.p2 .idx (.var 5) (.con (.int 0))) (.con (.int (c : Int)))) [.asg (.tup [.nm 6, .nm 5]) (.call 406 [.var 0, .var 1, .var 5]), .drop (.pm .append (.var 4) [.var 6])] []]) (env6 j ws rm e3 k A B e6) S0 = some (.nx (env6 j ws rm e3' k l0 l1 e6') S') ∧ ∃ ts, Pts j S S' k A B l0 l1 ts ∧ ts.length ≤ q := by
  obtain ⟨S1, hit, hk1⟩ := hit
  have hk0 : k < S0.length := (List.getElem?_eq_some_iff.mp h0.at_).1
  have hrng : ∀ (q : Nat) (a : Nat), rngD (a : Int) q = (List.range' a q).map iD := by
    intro q
    induction q with
    | zero => intro a; rfl
    | succ q ih =>
      intro a
      rw [rngD, List.range'_succ, List.map_cons]
      congr 1
      rw [← ih (a + 1)]
      congr 1
  have hsr : srcD 1 [iD q] S1 = some (.items ((List.range' 0 q).map iD)) := by
    show (if -100000 ≤ (q : Int) ∧ (q : Int) ≤ 100000 then some (Src.items (rngD 0 (q : Int).toNat)) else none) = _
    rw [if_pos (by omega), Int.toNat_natCast]
    have := hrng q 0
    simp at this
    rw [this]
  obtain ⟨env1, S', e, e3', l0, l1, e6', rfl, ts, hP, hl⟩ := E_for (T := T) (tg := .nm 3) (k := 1) (it := it) (b := [.ite (.p2 .gt (.p2 .idx (.var 5) (.con (.int 0))) (.con (.int (c : Int)))) [.asg (.tup [.nm 6, .nm 5]) (.call 406 [.var 0, .var 1, .var 5]), .drop (.pm .append (.var 4) [.var 6])] []]) (enc := iD) (ys := List.range' 0 q)
    (fun done env S' => ∃ e3' l0 l1 e6', env = env6 j ws rm e3' k l0 l1 e6' ∧ ∃ ts, Pts j S S' k A B l0 l1 ts ∧ ts.length ≤ done.length) hit hsr ⟨e3, A, B, e6, rfl, [], ⟨h0.kp.trans hk1, h0.ge, by rw [hk1.old k hk0 (by have := h0.ge; omega)]; exact h0.at_, h0.ok, h0.sz, h0.bd, h0.nil⟩, by simp⟩ (by
    rintro done y rest hd env S' ⟨e3', l0, l1, e6', rfl, ts, hP, hl⟩
    have hdl : done.length ≤ 100 := by
      have := congrArg List.length hd
      simp at this; omega
    have hset : setT S' (.nm 3) (iD y) (env6 j ws rm e3' k l0 l1 e6') = some (env6 j ws rm (some (iD y)) k l0 l1 e6') := by simp [env6]
    have hcond : evE T (.p2 .gt (.p2 .idx (.var 5) (.con (.int 0))) (.con (.int (c : Int)))) (env6 j ws rm (some (iD y)) k l0 l1 e6') S' = some (.bl (decide ((c : Int) < (l0 : Int))), S') := by
      simp [env6, ixD]
    simp only [forStep, hset]
    by_cases hc : c < l0
    · obtain ⟨t, a', b', S2, e, hk2, hD⟩ := hG l0 l1 S' (by omega) (by have := hP.sz; omega) hP.kp.src
      have hkS : k < S'.length := (List.getElem?_eq_some_iff.mp hP.at_).1
      have hjk : k ≠ j := by have := hP.ge; omega
      have hat : S2[k]? = some (.lst (dL ts)) := by rw [hk2.old k hkS hjk]; exact hP.at_
      have hk2l : k < S2.length := by have := hk2.len; omega
      refine ⟨env6 j ws rm (some (iD y)) k a' b' (some t.d), S2.set k (.lst (dL (ts ++ [t]))), ?_, _, a', b', _, rfl, ts ++ [t], ⟨(hP.kp.trans hk2).set hP.ge hj, hP.ge, List.getElem?_set_self hk2l, ?_, ?_, ?_, ?_⟩, by simp; omega⟩
      · refine s_nx ?_ s_nil
        rw [if_t hcond (decide_eq_true (by omega))]
        refine s_nx (env1 := env6 j ws rm (some (iD y)) k a' b' (some t.d)) (S1 := S2) ?_ (s_nx ?_ s_nil)
        · have hcall : evE T (.call 406 [.var 0, .var 1, .var 5]) (env6 j ws rm (some (iD y)) k l0 l1 e6') S' = some (.lst [t.d, rmD a' b'], S2) := by
            simp only [e_call, l_cons, e_var, l_nil, env6, List.getElem?_cons_succ, List.getElem?_cons_zero, e]
          rw [s_asg, hcall]
          simp [env6]
        · have hv : evE T (.var 6) (env6 j ws rm (some (iD y)) k a' b' (some t.d)) S2 = some (t.d, S2) := by rw [e_var]; rfl
          have hv4 : evE T (.var 4) (env6 j ws rm (some (iD y)) k a' b' (some t.d)) S2 = some (.obj k, S2) := by rw [e_var]; rfl
          rw [s_drop, e_pm, hv4]
          simp only [r_obj hat, if_true, l_cons, hv, l_nil, m_app hat]
          rw [if_pos (by rw [dL_len]; omega)]
          simp [dL_app, dL]
      · rw [okL_app, hP.ok, okL, hD.ok]; rfl
      · rw [szL_app, szL, szL]; have := hP.sz; have := hD.sz; omega
      · rw [bTs_app, bTs, bTs]; have := hP.bd; have := hD.bd; simp; omega
      · intro h; simp at h
    · refine ⟨env6 j ws rm (some (iD y)) k l0 l1 e6', S', ?_, _, l0, l1, _, rfl, ts, hP, by simp; omega⟩
      refine s_nx ?_ s_nil
      rw [if_f hcond (decide_eq_false (by omega)), s_nil])
  refine ⟨e3', l0, l1, e6', S', e, ts, hP, by simpa using hl⟩
end Sp

set_option Elab.async false
set_option linter.all false
set_option maxRecDepth 100000
namespace Sp
open LN LP PySem
variable {p : Prog}
def Bnds (T : Tab) (j : Nat) (ws : List Nm) (A : Nat) : Prop := ∀ (a b : Nat) (S : Store), 3 ≤ a → a ≤ A → 1 ≤ b → Src S j → ∃ t a' b' S1, T.fn 407 [.obj j, wD ws, rmD a b] S = some (.lst [t.d, rmD a' b'], S1) ∧ Kp j S S1 ∧ Drawn t a b a' b'
theorem z0 : szOk 0 = true := rfl
theorem z1 : szOk (0 + 1) = true := rfl
theorem z2 : szOk (0 + 1 + 1) = true := rfl
theorem z3 : szOk (0 + 1 + 1 + 1) = true := rfl
theorem z4 : szOk (0 + 1 + 1 + 1 + 1) = true := rfl
theorem v_of {T : Tab} {env : DEnv} {i : Nat} {d : D} (h : env[i]? = some (some d)) (S : Store) : evE T (.var i) env S = some (d, S) := by rw [e_var, h]
theorem pts0 {j : Nat} {S : Store} (h : Src S j) (A B : Nat) : Pts j S (S ++ [.lst []]) S.length A B A B [] :=
  ⟨Kp.new h _, Nat.le_refl _, by rw [List.getElem?_append_right (Nat.le_refl _)]; simp [dL], rfl, by simp [szL], by simp [bTs], fun _ => rfl⟩
theorem bnd_of (hp : Has p [401, 402, 407]) {m : Nat} (hm : 2 ≤ m) {j : Nat} {ws : List Nm} (hw : Wds ws) {A : Nat} (hG : Grows (tabN p m) j ws A) : Bnds (tabN p (m + 1)) j ws (A + 1) := by
  intro a b S h3 ha hb hS
  have hj := hS.lt
  have hA : a - 1 ≤ A := by omega
  have hG' : Grows (tabN p m) j ws (a - 1) := fun a0 b0 S0 h1 h2 h4 => hG a0 b0 S0 h1 (by omega) h4
  have hP0 := pts0 hS (a - 1) (b - 1)
  have e0 : ex (tabN p m) (B407.getD 0 .nev) [some (.obj j), some (wD ws), some (rmD a b), none, none, none, none] S = some (.nx (env6 j ws (rmD a b) none S.length (a - 1) (b - 1) none) (S ++ [.lst []])) := by
    have h1 : (a : Int) - 1 = ((a - 1 : Nat) : Int) := by omega
    have h2 : (b : Int) - 1 = ((b - 1 : Nat) : Int) := by omega
    show ex _ (.par [4,5] [(.disp .cell [] []),(.disp .lst [false,false] [(.p2 .sub (.p2 .idx (.var 2) (.con (.int 0))) (.con (.int 1))),(.p2 .sub (.p2 .idx (.var 2) (.con (.int 1))) (.con (.int 1)))])]) _ _ = _
    simp [szOk, ixD, env6, h1, h2]
  obtain ⟨q, S1, hqm, eq1, hk1, _⟩ := one_n (p := p) (n := m) (hp.mono (by decide)) hm hP0.kp.src (ks := [0, 0, 0, 1, 1, 2]) (by simp) (by simp)
  have hq2 : q ≤ 100 := by simp at hqm; omega
  obtain ⟨e3', l0, l1, e6', S', e1, ts, hP, hl⟩ := parts_loop6 (T := tabN p m) (j := j) (ws := ws) (A := a - 1) (B := b - 1) (rm := rmD a b) (k := S.length) (S := S) (S0 := S ++ [.lst []]) (c := 3) (it := [(.call 402 [(.var 0),(.disp .lst [false,false,false,false,false,false] [(.con (.int 0)),(.con (.int 0)),(.con (.int 0)),(.con (.int 1)),(.con (.int 1)),(.con (.int 2))])])]) (e3 := none) (e6 := none) (q := q) hG' hj hq2 hP0 ⟨S1, by
      have eq1' : (tabN p m).fn 402 [.obj j, .lst [.int 0, .int 0, .int 0, .int 1, .int 1, .int 2]] (S ++ [.lst []]) = some (iD q, S1) := eq1
      simp [env6, szOk, eq1'], hk1⟩
  have hkS : S.length < S'.length := (List.getElem?_eq_some_iff.mp hP.at_).1
  have hjk : S.length ≠ j := by omega
  have hin : ∀ (e : IE), evE (tabN p m) (.p2 .idx (.var 5) (.con (.int 0))) (env6 j ws (rmD a b) e3' S.length l0 l1 e6') S' = some (iD l0, S') := fun _ => by simp [env6, ixD]
  by_cases hc : l0 < 1
  · have hne : ts ≠ [] := fun h => by have := hP.nil h; omega
    obtain ⟨t0, ts', rfl⟩ : ∃ t0 ts', ts = t0 :: ts' := by cases ts with | nil => exact (hne rfl).elim | cons x y => exact ⟨x, y, rfl⟩
    obtain ⟨w, S2, _, wok, ew, hk2, _⟩ := one_w (p := p) (n := m) (hp.mono (by decide)) hm hP.kp.src hw
    have hat : S2[S.length]? = some (.lst (dL (t0 :: ts'))) := by rw [hk2.old _ hkS hjk]; exact hP.at_
    refine ⟨.bind w [] t0, l0, l1, S2, ?_, hP.kp.trans hk2, ?_⟩
    · rw [fn_at (d := D407) (hp 407 (by decide))]
      refine run_2 rfl rfl (s_nx e0 (s_nx e1 (s_rt ?_)))
      show ex _ (.ite (.p2 .lt (.p2 .idx (.var 5) (.con (.int 0))) (.con (.int 1))) [.ret (.disp .lst [false,false] [(.disp .tup [false,false,false,false] [(.con (.str [98,105,110,100])),(.call 402 [(.var 0),(.var 1)]),(.disp .tup [] []),(.p2 .idx (.var 4) (.con (.int 0)))]),(.var 5)])] []) _ _ = _
      have hcond : evE (tabN p m) (.p2 .lt (.p2 .idx (.var 5) (.con (.int 0))) (.con (.int 1))) (env6 j ws (rmD a b) e3' S.length l0 l1 e6') S' = some (.bl (decide ((l0 : Int) < 1)), S') := by simp [env6, ixD]
      rw [if_t hcond (decide_eq_true (by omega))]
      refine s_rt ?_
      have hcall : evE (tabN p m) (.call 402 [.var 0, .var 1]) (env6 j ws (rmD a b) e3' S.length l0 l1 e6') S' = some (.str w, S2) := by
        simp only [e_call, l_cons, e_var, l_nil, env6, List.getElem?_cons_succ, List.getElem?_cons_zero, ew]
      have hix : evE (tabN p m) (.p2 .idx (.var 4) (.con (.int 0))) (env6 j ws (rmD a b) e3' S.length l0 l1 e6') S2 = some (t0.d, S2) := by
        have := o_idxo hat 0
        simp [env6, ixD, dL] at this ⊢
        rw [this]
      have hv5 : evE (tabN p m) (.var 5) (env6 j ws (rmD a b) e3' S.length l0 l1 e6') S2 = some (rmD l0 l1, S2) := v_of rfl S2
      simp only [s_ret, e_disp, p_cons, p_nil, e_con, hcall, hix, hv5, List.headD_cons, List.tail_cons, List.headD_nil, Bool.false_eq_true, if_false, List.length_cons, List.length_nil, z0, z1, z2, z3, z4, if_true]
      simp [szOk, Tr.d, dL]
    · refine ⟨?_, ?_, ?_⟩
      · have := hP.ok; rw [okL, Bool.and_eq_true] at this
        rw [Tr.ok, wok, okL, this.1]; rfl
      · have := hP.sz; rw [szL] at this; rw [Tr.sz, szL]; omega
      · have := hP.bd; rw [bTs] at this; rw [bT, bTs]; simp at this ⊢; omega
  · obtain ⟨t, a', b', S2, et, hk2, hD⟩ := hG' l0 l1 S' (by omega) (by have := hP.sz; omega) hP.kp.src
    have hat2 : S2[S.length]? = some (.lst (dL ts)) := by rw [hk2.old _ hkS hjk]; exact hP.at_
    obtain ⟨w, S3, _, wok, ew, hk3, _⟩ := one_w (p := p) (n := m) (hp.mono (by decide)) hm hk2.src hw
    have hat : S3[S.length]? = some (.lst (dL ts)) := by rw [hk3.old _ (by have := hk2.len; omega) hjk]; exact hat2
    refine ⟨.bind w ts t, a', b', S3, ?_, (hP.kp.trans hk2).trans hk3, ?_⟩
    · rw [fn_at (d := D407) (hp 407 (by decide))]
      refine run_2 rfl rfl (s_nx e0 (s_nx e1 (s_nx (env1 := env6 j ws (rmD a b) e3' S.length l0 l1 e6') (S1 := S') ?_ (s_nx (env1 := env6 j ws (rmD a b) e3' S.length a' b' (some t.d)) (S1 := S2) ?_ (s_rt ?_)))))
      · show ex _ (.ite (.p2 .lt (.p2 .idx (.var 5) (.con (.int 0))) (.con (.int 1))) [_] []) _ _ = _
        have hcond : evE (tabN p m) (.p2 .lt (.p2 .idx (.var 5) (.con (.int 0))) (.con (.int 1))) (env6 j ws (rmD a b) e3' S.length l0 l1 e6') S' = some (.bl (decide ((l0 : Int) < 1)), S') := by simp [env6, ixD]
        rw [if_f hcond (decide_eq_false (by omega)), s_nil]
      · show ex _ (.asg (.tup [.nm 6, .nm 5]) (.call 406 [.var 0, .var 1, .var 5])) _ _ = _
        have hcall : evE (tabN p m) (.call 406 [.var 0, .var 1, .var 5]) (env6 j ws (rmD a b) e3' S.length l0 l1 e6') S' = some (.lst [t.d, rmD a' b'], S2) := by
          simp only [e_call, l_cons, e_var, l_nil, env6, List.getElem?_cons_succ, List.getElem?_cons_zero, et]
        rw [s_asg, hcall]
        simp [env6]
      · show ex _ (.ret (.disp .lst [false,false] [(.disp .tup [false,false,false,false] [(.con (.str [98,105,110,100])),(.call 402 [(.var 0),(.var 1)]),(.pb .tuple false [(.var 4)]),(.var 6)]),(.var 5)])) _ _ = _
        have hcall : evE (tabN p m) (.call 402 [.var 0, .var 1]) (env6 j ws (rmD a b) e3' S.length a' b' (some t.d)) S2 = some (.str w, S3) := by
          simp only [e_call, l_cons, e_var, l_nil, env6, List.getElem?_cons_succ, List.getElem?_cons_zero, ew]
        have hv4 := v_of (T := tabN p m) (env := env6 j ws (rmD a b) e3' S.length a' b' (some t.d)) (i := 4) (d := .obj S.length) rfl S3
        have htp : evE (tabN p m) (.pb .tuple false [.var 4]) (env6 j ws (rmD a b) e3' S.length a' b' (some t.d)) S3 = some (.tup (dL ts), S3) := by
          rw [e_pb, l_cons, hv4]
          simp only [l_nil, b_tupo hat]
        have hv5 := v_of (T := tabN p m) (env := env6 j ws (rmD a b) e3' S.length a' b' (some t.d)) (i := 5) (d := rmD a' b') rfl S3
        have hv6 := v_of (T := tabN p m) (env := env6 j ws (rmD a b) e3' S.length a' b' (some t.d)) (i := 6) (d := t.d) rfl S3
        simp only [s_ret, e_disp, p_cons, p_nil, e_con, hcall, htp, hv5, hv6, List.headD_cons, List.tail_cons, List.headD_nil, Bool.false_eq_true, if_false, List.length_cons, List.length_nil, z0, z1, z2, z3, z4, if_true]
        simp [szOk, Tr.d]
    · refine ⟨?_, ?_, ?_⟩
      · rw [Tr.ok, wok, hP.ok, hD.ok]; rfl
      · have h1 := hP.sz; have h2 := hD.sz; rw [Tr.sz]; omega
      · have h1 := hP.bd; have h2 := hD.bd; rw [bT]; simp; omega
theorem grow_all (hp : Has p [401, 402, 405, 406, 407]) {j : Nat} {ws : List Nm} (hw : Wds ws) : ∀ (A n : Nat), 2 * A + 4 ≤ n → Grows (tabN p n) j ws A
  | 0, n, _ => fun a b S h1 h2 => by omega
  | A + 1, n, hn => by
    obtain ⟨m, rfl⟩ : ∃ m, n = m + 2 := ⟨n - 2, by omega⟩
    have hG1 : Grows (tabN p (m + 1)) j ws A := grow_all hp hw A (m + 1) (by omega)
    have hB : Bnds (tabN p (m + 1)) j ws (A + 1) := bnd_of (hp.mono (by decide)) (by omega) hw (grow_all hp hw A m (by omega))
    intro a b S h1 ha hS
    have hj := hS.lt
    let ev0 : DEnv := [some (.obj j), some (wD ws), some (rmD a b), none, none, none, none]
    have hix0 : ∀ S, evE (tabN p (m + 1)) (.p2 .idx (.var 2) (.con (.int 0))) ev0 S = some (iD a, S) := fun S => by simp [ev0, ixD]
    have hix1 : ∀ S, evE (tabN p (m + 1)) (.p2 .idx (.var 2) (.con (.int 1))) ev0 S = some (iD b, S) := fun S => by simp [ev0, ixD]
    -- the leaf
    have leaf : ∀ S1, Kp j S S1 → (∃ k, evE (tabN p (m + 1)) (.or (.p2 .lt (.p2 .idx (.var 2) (.con (.int 0))) (.con (.int 3))) (.p2 .eq (.call 401 [(.var 0),(.con (.int 7))]) (.con (.int 0)))) ev0 S = some (.bl k, S1) ∧ k = true) → ∃ t a' b' S2, (tabN p (m + 2)).fn 406 [.obj j, wD ws, rmD a b] S = some (.lst [t.d, rmD a' b'], S2) ∧ Kp j S S2 ∧ Drawn t a b a' b' := by
      rintro S1 hk1 ⟨k, hc, hkt⟩
      obtain ⟨w, S2, wok, ew, hk2, _⟩ := c405 (p := p) (n := m + 1) (hp.mono (by decide)) (by omega) hk1.src hw
      refine ⟨.use w, a - 1, b, S2, ?_, hk1.trans hk2, ⟨wok, by rw [Tr.sz]; omega, by rw [bT]; simp⟩⟩
      rw [fn_at (d := D406) (hp 406 (by decide))]
      refine run_2 rfl rfl (s_rt ?_)
      show ex _ (.ite _ [.ret (.disp .lst [false,false] [(.call 405 [(.var 0),(.var 1)]),(.disp .lst [false,false] [(.p2 .sub (.p2 .idx (.var 2) (.con (.int 0))) (.con (.int 1))),(.p2 .idx (.var 2) (.con (.int 1)))])])] []) ev0 S = _
      rw [if_t hc hkt]
      refine s_rt ?_
      have hcall : evE (tabN p (m + 1)) (.call 405 [.var 0, .var 1]) ev0 S1 = some ((Tr.use w).d, S2) := by
        simp only [e_call, l_cons, e_var, l_nil, ev0, List.getElem?_cons_succ, List.getElem?_cons_zero, ew]
      have h1 : (a : Int) - 1 = ((a - 1 : Nat) : Int) := by omega
      simp only [s_ret, e_disp, p_cons, p_nil, hcall, e_p2, e_con]
      simp [ev0, ixD, szOk, h1]
    by_cases h3 : a < 3
    · exact leaf S (Kp.refl hS) ⟨true, by
        rw [e_or, e_p2, hix0]
        have : (a : Int) < 3 := by omega
        simp [this], rfl⟩
    · obtain ⟨k7, S1, _, e7, hk1, _⟩ := c401 (p := p) (n := m + 1) (hp.mono (by decide)) (by omega) hS (top := 7) (by omega) (by omega)
      have hc7 : evE (tabN p (m + 1)) (.or (.p2 .lt (.p2 .idx (.var 2) (.con (.int 0))) (.con (.int 3))) (.p2 .eq (.call 401 [(.var 0),(.con (.int 7))]) (.con (.int 0)))) ev0 S = some (.bl (decide ((k7 : Int) = 0)), S1) := by
        have hn3 : ¬ (a : Int) < 3 := by omega
        have e7' : (tabN p (m + 1)).fn 401 [.obj j, .int 7] S = some (iD k7, S1) := e7
        rw [e_or, e_p2, hix0]
        simp [hn3, ev0, e7']
      by_cases hz : k7 = 0
      · exact leaf S1 hk1 ⟨_, hc7, decide_eq_true (by omega)⟩
      · have s0 : ex (tabN p (m + 1)) (B406.getD 0 .nev) ev0 S = some (.nx ev0 S1) := by
          show ex _ (.ite _ [_] []) ev0 S = _
          rw [if_f hc7 (decide_eq_false (by omega)), s_nil]
        -- the join, once the binder's draw is done
        have join : ∀ S2, Kp j S S2 → ex (tabN p (m + 1)) (B406.getD 1 .nev) ev0 S1 = some (.nx ev0 S2) → ∃ t a' b' S3, (tabN p (m + 2)).fn 406 [.obj j, wD ws, rmD a b] S = some (.lst [t.d, rmD a' b'], S3) ∧ Kp j S S3 ∧ Drawn t a b a' b' := by
          intro S2 hk2 s1
          have hG' : Grows (tabN p (m + 1)) j ws (a - 1) := fun a0 b0 S0 h1 h2 h4 => hG1 a0 b0 S0 h1 (by omega) h4
          have hP0 := pts0 hk2.src (a - 1) b
          have s2 : ex (tabN p (m + 1)) (B406.getD 2 .nev) ev0 S2 = some (.nx (env6 j ws (rmD a b) none S2.length (a - 1) b none) (S2 ++ [.lst []])) := by
            have h1 : (a : Int) - 1 = ((a - 1 : Nat) : Int) := by omega
            show ex _ (.par [4,5] [(.disp .cell [] []),(.disp .lst [false,false] [(.p2 .sub (.p2 .idx (.var 2) (.con (.int 0))) (.con (.int 1))),(.p2 .idx (.var 2) (.con (.int 1)))])]) _ _ = _
            simp [szOk, ixD, env6, h1, ev0]
          obtain ⟨q, S3, hqm, eq1, hk3, _⟩ := one_n (p := p) (n := m + 1) (hp.mono (by decide)) (by omega) hP0.kp.src (ks := [0, 1, 2, 2, 3]) (by simp) (by simp)
          have hq2 : q ≤ 100 := by simp at hqm; omega
          obtain ⟨e3', l0, l1, e6', S', e1, ts, hP, hl⟩ := parts_loop6 (T := tabN p (m + 1)) (j := j) (ws := ws) (A := a - 1) (B := b) (rm := rmD a b) (k := S2.length) (S := S2) (S0 := S2 ++ [.lst []]) (c := 0) (it := [(.call 402 [(.var 0),(.disp .lst [false,false,false,false,false] [(.con (.int 0)),(.con (.int 1)),(.con (.int 2)),(.con (.int 2)),(.con (.int 3))])])]) (e3 := none) (e6 := none) (q := q) hG' hk2.src.lt hq2 hP0 ⟨S3, by
            have eq1' : (tabN p (m + 1)).fn 402 [.obj j, .lst [.int 0, .int 1, .int 2, .int 2, .int 3]] (S2 ++ [.lst []]) = some (iD q, S3) := eq1
            simp [env6, szOk, eq1'], hk3⟩
          have hkS : S2.length < S'.length := (List.getElem?_eq_some_iff.mp hP.at_).1
          have hjk : S2.length ≠ j := by have := hk2.src.lt; omega
          obtain ⟨w, S4, _, wok, ew, hk4, _⟩ := one_w (p := p) (n := m + 1) (hp.mono (by decide)) (by omega) hP.kp.src (ws := [[102], [120], [106, 111, 105, 110]]) ⟨by simp, by simp, by decide⟩
          have hat : S4[S2.length]? = some (.lst (dL ts)) := by rw [hk4.old _ hkS hjk]; exact hP.at_
          refine ⟨.join w ts, l0, l1, S4, ?_, (hk2.trans hP.kp).trans hk4, ⟨?_, ?_, ?_⟩⟩
          · rw [fn_at (d := D406) (hp 406 (by decide))]
            refine run_2 rfl rfl (s_nx s0 (s_nx s1 (s_nx s2 (s_nx e1 (s_rt ?_)))))
            show ex _ (.ret (.disp .lst [false,false] [(.disp .tup [false,false,false] [(.con (.str [106,111,105,110])),(.call 402 [(.var 0),(.disp .lst [false,false,false] [(.con (.str [102])),(.con (.str [120])),(.con (.str [106,111,105,110]))])]),(.pb .tuple false [(.var 4)])]),(.var 5)])) _ _ = _
            have hcall : evE (tabN p (m + 1)) (.call 402 [(.var 0),(.disp .lst [false,false,false] [(.con (.str [102])),(.con (.str [120])),(.con (.str [106,111,105,110]))])]) (env6 j ws (rmD a b) e3' S2.length l0 l1 e6') S' = some (.str w, S4) := by
              have ew' : (tabN p (m + 1)).fn 402 [.obj j, .lst [.str [102], .str [120], .str [106, 111, 105, 110]]] S' = some (.str w, S4) := ew
              simp [env6, szOk, ew']
            have hv4 := v_of (T := tabN p (m + 1)) (env := env6 j ws (rmD a b) e3' S2.length l0 l1 e6') (i := 4) (d := .obj S2.length) rfl S4
            have htp : evE (tabN p (m + 1)) (.pb .tuple false [.var 4]) (env6 j ws (rmD a b) e3' S2.length l0 l1 e6') S4 = some (.tup (dL ts), S4) := by
              rw [e_pb, l_cons, hv4]
              simp only [l_nil, b_tupo hat]
            have hv5 := v_of (T := tabN p (m + 1)) (env := env6 j ws (rmD a b) e3' S2.length l0 l1 e6') (i := 5) (d := rmD l0 l1) rfl S4
            simp only [s_ret, e_disp, p_cons, p_nil, e_con, hcall, htp, hv5, List.headD_cons, List.tail_cons, List.headD_nil, Bool.false_eq_true, if_false, List.length_cons, List.length_nil, z0, z1, z2, z3, z4, if_true]
            simp [szOk, Tr.d]
          · rw [Tr.ok, wok, hP.ok]; rfl
          · have h1 := hP.sz; rw [Tr.sz]; omega
          · have h1 := hP.bd; rw [bT]; omega
        by_cases hb : 0 < b
        · obtain ⟨k3, S2, _, e3, hk2, _⟩ := c401 (p := p) (n := m + 1) (hp.mono (by decide)) (by omega) hk1.src (top := 3) (by omega) (by omega)
          have hc3 : evE (tabN p (m + 1)) (.and (.p2 .gt (.p2 .idx (.var 2) (.con (.int 1))) (.con (.int 0))) (.p2 .gt (.call 401 [(.var 0),(.con (.int 3))]) (.con (.int 0)))) ev0 S1 = some (.bl (decide ((0 : Int) < k3)), S2) := by
            have hb' : (0 : Int) < b := by omega
            have e3' : (tabN p (m + 1)).fn 401 [.obj j, .int 3] S1 = some (iD k3, S2) := e3
            rw [e_and, e_p2, hix1]
            simp [hb, ev0, e3']
          by_cases hz3 : 0 < k3
          · obtain ⟨t, a', b', S3, e, hk3, hD⟩ := hB a b S2 (by omega) ha (by omega) hk2.src
            refine ⟨t, a', b', S3, ?_, (hk1.trans hk2).trans hk3, hD⟩
            rw [fn_at (d := D406) (hp 406 (by decide))]
            refine run_2 rfl rfl (s_nx s0 (s_rt ?_))
            show ex _ (.ite _ [.ret (.call 407 [.var 0, .var 1, .var 2])] []) ev0 S1 = _
            rw [if_t hc3 (decide_eq_true (by omega))]
            refine s_rt ?_
            simp only [s_ret, e_call, l_cons, e_var, l_nil, ev0, List.getElem?_cons_succ, List.getElem?_cons_zero, e]
          · refine join S2 (hk1.trans hk2) ?_
            show ex _ (.ite _ [_] []) ev0 S1 = _
            rw [if_f hc3 (decide_eq_false (by omega)), s_nil]
        · refine join S1 hk1 ?_
          show ex _ (.ite (.and (.p2 .gt (.p2 .idx (.var 2) (.con (.int 1))) (.con (.int 0))) (.p2 .gt (.call 401 [(.var 0),(.con (.int 3))]) (.con (.int 0)))) [_] []) ev0 S1 = _
          have hc : evE (tabN p (m + 1)) (.and (.p2 .gt (.p2 .idx (.var 2) (.con (.int 1))) (.con (.int 0))) (.p2 .gt (.call 401 [(.var 0),(.con (.int 3))]) (.con (.int 0)))) ev0 S1 = some (.bl false, S1) := by
            have hb' : ¬ (0 : Int) < b := by omega
            rw [e_and, e_p2, hix1]
            simp [hb]
          rw [if_f hc rfl, s_nil]
end Sp

set_option Elab.async false
set_option linter.all false
set_option maxRecDepth 100000
namespace Sp
open LN LP PySem
variable {p : Prog}
theorem c404 (hp : Has p [401, 402, 404]) {n : Nat} (hn : 3 ≤ n) {S : Store} {j : Nat} (h : Src S j) : ∃ ws S1, Wds ws ∧ (tabN p n).fn 404 [.obj j] S = some (wD ws, S1) ∧ Kp j S S1 := by
  obtain ⟨m, rfl⟩ : ∃ m, n = m + 1 := ⟨n - 1, by omega⟩
  let wss : List (List Nm) := [[[120], [121]], [[120], [121], [122], [97]], [[97], [98], [99], [100], [101], [102]], [[120], [97,98,99,100,101,102,103,104], [97,97], [98], [122,122]]]
  obtain ⟨x, S1, hx, e, hk, _⟩ := c402 (p := p) (n := m) (hp.mono (by decide)) (by omega) h (xs := wss.map wD) (by simp [wss]) (by simp [wss])
  obtain ⟨ws, hw, rfl⟩ := List.mem_map.mp hx
  have hW : ∀ ws ∈ wss, Wds ws := by
    intro ws hw
    simp only [wss, List.mem_cons, List.not_mem_nil, or_false] at hw
    rcases hw with rfl | rfl | rfl | rfl
    · exact ⟨by simp, by simp, by decide⟩
    · exact ⟨by simp, by simp, by decide⟩
    · exact ⟨by simp, by simp, by decide⟩
    · exact ⟨by simp, by simp, by decide⟩
  refine ⟨ws, S1, hW ws hw, ?_, hk⟩
  rw [fn_at (d := D404) (hp 404 (by decide))]
  refine run_2 rfl rfl (s_nx (env1 := [some (.obj j), some (.lst (wss.map wD))]) (S1 := S) ?_ (s_rt ?_))
  · simp [startD, D404, B404, szOk, wss]
  · show ex _ (.ret (.call 402 [.var 0, .var 1])) _ _ = _
    simp only [s_ret, e_call, l_cons, e_var, l_nil, List.getElem?_cons_succ, List.getElem?_cons_zero, e]
theorem rng_nat : ∀ (q a : Nat), rngD (a : Int) q = (List.range' a q).map iD
  | 0, a => rfl
  | q + 1, a => by
    rw [rngD, List.range'_succ, List.map_cons]
    congr 1
    rw [← rng_nat q (a + 1)]
    congr 1
theorem src_rng {q : Nat} (hq : q ≤ 100000) (S : Store) : srcD 1 [iD q] S = some (.items ((List.range' 0 q).map iD)) := by
  show (if -100000 ≤ (q : Int) ∧ (q : Int) ≤ 100000 then some (Src.items (rngD 0 (q : Int).toNat)) else none) = _
  rw [if_pos (by omega), Int.toNat_natCast]
  have := rng_nat q 0
  simp at this
  rw [this]
/-- leaves alone -/
def Leaves (ts : List Tr) : Prop := ∀ t ∈ ts, ∃ w, t = .use w ∧ nmOk w = true
theorem leaves_of : ∀ {ts : List Tr}, Leaves ts → okL ts = true ∧ szL ts = ts.length ∧ bTs ts = []
  | [], _ => ⟨by rw [okL], by rw [szL]; rfl, by rw [bTs]⟩
  | t :: ts, h => by
    obtain ⟨w, rfl, hw⟩ := h t List.mem_cons_self
    obtain ⟨h1, h2, h3⟩ := leaves_of (ts := ts) fun u hu => h u (List.mem_cons_of_mem _ hu)
    refine ⟨by rw [okL, Tr.ok, hw, h1]; rfl, by rw [szL, Tr.sz, h2]; simp; omega, by rw [bTs, bT, h3]; rfl⟩
theorem lcL_leaves {stp : D → Store → Option (Option D × Store)} {j : Nat} (hs : ∀ x S, Src S j → ∃ w S1, nmOk w = true ∧ stp x S = some (some (Tr.use w).d, S1) ∧ Kp j S S1) : ∀ (xs : List D) (S : Store), Src S j → ∃ ts S1, lcL stp xs S = some (dL ts, S1) ∧ Kp j S S1 ∧ ts.length = xs.length ∧ Leaves ts
  | [], S, h => ⟨[], S, by rw [dL]; rfl, Kp.refl h, rfl, fun t ht => by cases ht⟩
  | x :: xs, S, h => by
    obtain ⟨w, S1, hw, e, hk⟩ := hs x S h
    obtain ⟨ts, S2, e2, hk2, hl, hL⟩ := lcL_leaves hs xs S1 hk.src
    refine ⟨.use w :: ts, S2, ?_, hk.trans hk2, by simp [hl], fun t ht => ?_⟩
    · rw [lcL, e]; simp only [e2]; rw [dL]
    · rcases List.mem_cons.mp ht with rfl | ht
      · exact ⟨w, rfl, hw⟩
      · exact hL t ht
theorem leaves_lc (hp : Has p [401, 402, 405]) {n : Nat} (hn : 3 ≤ n) {j : Nat} {ws : List Nm} (hw : Wds ws) {x : Nat} (hx : 2 ≤ x) {it : List IE} {env : DEnv} (h0 : env[0]? = some (some (.obj j))) (h1 : env[1]? = some (some (wD ws))) {S S1 : Store} {q : Nat} (hit : evL (tabN p n) it env S = some ([iD q], S1)) (hk : Kp j S S1) (hq : q ≤ 100) :
    ∃ ts S2, evE (tabN p n) (.lc false [x] (.nm x) 1 it none (.call 405 [.var 0, .var 1])) env S = some (.lst (dL ts), S2) ∧ Kp j S S2 ∧ ts.length = q ∧ Leaves ts := by
  obtain ⟨ts, S2, e, hk2, hl, hL⟩ := lcL_leaves (stp := lcStep (tabN p n) [x] (.nm x) none (.call 405 [.var 0, .var 1]) env) (j := j) (fun y S hS => by
    obtain ⟨w, S1, wok, ew, hk, _⟩ := c405 (p := p) (n := n) hp hn hS hw
    refine ⟨w, S1, wok, ?_, hk⟩
    have g0 : ((wipeD env [x]).set x (some y))[0]? = some (some (.obj j)) := by
      rw [List.getElem?_set_ne (by omega), wipeD, wipeD, List.getElem?_set_ne (by omega)]; exact h0
    have g1 : ((wipeD env [x]).set x (some y))[1]? = some (some (wD ws)) := by
      rw [List.getElem?_set_ne (by omega), wipeD, wipeD, List.getElem?_set_ne (by omega)]; exact h1
    simp only [lcStep, t_nm, c_none, e_call, l_cons, e_var, g0, g1, l_nil, ew]) ((List.range' 0 q).map iD) S1 hk.src
  have hz : szOk (dL ts).length = true := decide_eq_true (by rw [dL_len, hl]; simp; omega)
  refine ⟨ts, S2, ?_, hk.trans hk2, by simpa using hl, hL⟩
  rw [e_lc, hit]
  simp only [src_rng (show q ≤ 100000 by omega), lcS, e, hz, if_true, nl_f]
def env8 (j : Nat) (ws : List Nm) (d : Nat) (t : Tr) (e4 e5 e6 e7 : Option D) : DEnv := [some (.obj j), some (wD ws), some (iD d), some t.d, e4, e5, e6, e7, none]
theorem plain_nil : plain 1 (.lst []) = true := rfl
theorem eq_leaves_nil {ts : List Tr} (h : Leaves ts) (S : Store) : eqS S (.lst (dL ts)) (.lst []) = some ts.isEmpty := by
  obtain ⟨k, hk1, hk2⟩ := eq_plain (n := 3) (a := .lst (dL ts)) (b := .lst []) (List.all_eq_true.mpr fun x hx => by
    rw [dL_map] at hx
    obtain ⟨t, ht, rfl⟩ := List.mem_map.mp hx
    obtain ⟨w, rfl, hw⟩ := h t ht
    have := sOk_nm hw
    rw [Tr.d]
    show (sOk us && (sOk w && true)) = true
    rw [this]; rfl) rfl (by omega) S
  rw [hk1]
  cases ts with
  | nil => have := hk2.mpr rfl; rw [this]; rfl
  | cons t ts =>
    cases k with
    | false => rfl
    | true => have := hk2.mp rfl; rw [dL] at this; cases this
theorem c408 (hp : Has p [401, 402, 405, 408]) {n : Nat} (hn : 4 ≤ n) {j : Nat} {ws : List Nm} (hw : Wds ws) {d : Nat} (hd : d ≤ 60) {S : Store} (hS : Src S j) : ∃ t S1, (tabN p n).fn 408 [.obj j, wD ws, iD d] S = some (t.d, S1) ∧ Kp j S S1 ∧ t.ok = true ∧ t.sz ≤ 5 + 4 * d ∧ (bT t).length ≤ d := by
  obtain ⟨m, rfl⟩ : ∃ m, n = m + 1 := ⟨n - 1, by omega⟩
  obtain ⟨k4, S1, hk4, e4, hk1, _⟩ := c401 (p := p) (n := m) (hp.mono (by decide)) (by omega) hS (top := 4) (by omega) (by omega)
  have e4' : (tabN p m).fn 401 [.obj j, .int 4] S = some (iD k4, S1) := e4
  let ev0 : DEnv := [some (.obj j), some (wD ws), some (iD d), none, none, none, none, none, none]
  obtain ⟨ts0, S2, e0, hk2, hl0, hL0⟩ := leaves_lc (p := p) (n := m) (hp.mono (by decide)) (by omega) hw (x := 4) (by omega) (it := [.p2 .add (.con (.int 1)) (.call 401 [.var 0, .con (.int 4)])]) (env := ev0) rfl rfl (S := S) (S1 := S1) (q := 1 + k4) (by
    simp [ev0, e4']) hk1 (by omega)
  obtain ⟨l1, l2, l3⟩ := leaves_of hL0
  have s0 : ex (tabN p m) (B408.getD 0 .nev) ev0 S = some (.nx (env8 j ws d (.join [102] ts0) none none none none) S2) := by
    show ex _ (.asg (.nm 3) (.disp .tup [false,false,false] [(.con (.str [106,111,105,110])),(.con (.str [102])),(.pb .tuple false [.lc false [4] (.nm 4) 1 [.p2 .add (.con (.int 1)) (.call 401 [.var 0, .con (.int 4)])] none (.call 405 [.var 0, .var 1])])])) ev0 S = _
    simp only [s_asg, e_disp, p_cons, p_nil, e_con, e_pb, l_cons, e0, l_nil, b_tupl, List.headD_cons, List.tail_cons, List.headD_nil, Bool.false_eq_true, if_false, List.length_cons, List.length_nil, z3, if_true, t_nm]
    simp [ev0, env8, Tr.d]
  obtain ⟨env1, S', e1, t, e4v, e5, e6, e7, rfl, hkp, hok, hsz, hbd⟩ := E_for (T := tabN p m) (env := env8 j ws d (.join [102] ts0) none none none none) (tg := .nm 4) (k := 1) (it := [.var 2]) (b := [(.asg (.nm 5) (.lc false [8] (.nm 8) 1 [(.call 401 [(.var 0),(.con (.int 2))])] none (.call 405 [(.var 0),(.var 1)]))), (.asg (.nm 6) (.ite (.p2 .eq (.var 5) (.disp .lst [] [])) (.var 3) (.disp .tup [false,false,false] [(.con (.str [106,111,105,110])),(.con (.str [103])),(.pb .tuple false [(.p2 .add (.var 5) (.disp .lst [false] [(.var 3)]))])]))), (.asg (.nm 7) (.ite (.p2 .eq (.call 401 [(.var 0),(.con (.int 4))]) (.con (.int 0))) (.disp .lst [false] [(.call 405 [(.var 0),(.var 1)])]) (.disp .lst [] []))), (.asg (.nm 3) (.disp .tup [false,false,false,false] [(.con (.str [98,105,110,100])),(.call 402 [(.var 0),(.var 1)]),(.pb .tuple false [(.var 7)]),(.var 6)]))]) (enc := iD) (ys := List.range' 0 d) (ds := [iD d]) (S := S2) (S1 := S2)
    (fun done env S' => ∃ t e4 e5 e6 e7, env = env8 j ws d t e4 e5 e6 e7 ∧ Kp j S S' ∧ t.ok = true ∧ t.sz ≤ 5 + 4 * done.length ∧ (bT t).length ≤ done.length) (by simp [env8]) (src_rng (by omega) _)
    ⟨.join [102] ts0, none, none, none, none, rfl, hk2, by rw [Tr.ok, l1]; rfl, by rw [Tr.sz, l2, hl0]; simp; omega, by rw [bT, l3]; simp⟩ (by
    rintro done y rest hdn env S' ⟨t, e4, e5, e6, e7, rfl, hkp, hok, hsz, hbd⟩
    obtain ⟨k2, Sa, _, ea, hka, _⟩ := c401 (p := p) (n := m) (hp.mono (by decide)) (by omega) hkp.src (top := 2) (by omega) (by omega)
    have ea' : (tabN p m).fn 401 [.obj j, .int 2] S' = some (iD k2, Sa) := ea
    obtain ⟨tb, Sb, eb, hkb, hlb, hLb⟩ := leaves_lc (p := p) (n := m) (hp.mono (by decide)) (by omega) hw (x := 8) (by omega) (it := [.call 401 [.var 0, .con (.int 2)]]) (env := env8 j ws d t (some (iD y)) e5 e6 e7) rfl rfl (S := S') (S1 := Sa) (q := k2) (by simp [env8, ea']) hka (by omega)
    obtain ⟨lb1, lb2, lb3⟩ := leaves_of hLb
    -- the core
    obtain ⟨core, hcd, hcok, hcsz, hcbd⟩ : ∃ core : Tr, ex (tabN p m) (.asg (.nm 6) (.ite (.p2 .eq (.var 5) (.disp .lst [] [])) (.var 3) (.disp .tup [false,false,false] [(.con (.str [106,111,105,110])),(.con (.str [103])),(.pb .tuple false [(.p2 .add (.var 5) (.disp .lst [false] [(.var 3)]))])]))) (env8 j ws d t (some (iD y)) (some (.lst (dL tb))) e6 e7) Sb = some (.nx (env8 j ws d t (some (iD y)) (some (.lst (dL tb))) (some core.d) e7) Sb) ∧ core.ok = true ∧ core.sz ≤ t.sz + 2 ∧ bT core = bT t := by
      have heq := eq_leaves_nil hLb Sb
      have hv5 := v_of (T := tabN p m) (env := env8 j ws d t (some (iD y)) (some (.lst (dL tb))) e6 e7) (i := 5) (d := .lst (dL tb)) rfl Sb
      have hv3 := v_of (T := tabN p m) (env := env8 j ws d t (some (iD y)) (some (.lst (dL tb))) e6 e7) (i := 3) (d := t.d) rfl Sb
      have hc : evE (tabN p m) (.p2 .eq (.var 5) (.disp .lst [] [])) (env8 j ws d t (some (iD y)) (some (.lst (dL tb))) e6 e7) Sb = some (.bl tb.isEmpty, Sb) := by
        simp only [e_p2, hv5, e_disp, p_nil, List.length_nil, z0, if_true, o_eq, heq, Option.map_some]
      by_cases hemp : tb = []
      · subst hemp
        refine ⟨t, ?_, hok, by omega, rfl⟩
        rw [s_asg, e_ite, hc]
        simp only [List.isEmpty_nil, hv3, t_nm]
        rfl
      · have hie : tb.isEmpty = false := by cases tb with | nil => exact (hemp rfl).elim | cons _ _ => rfl
        refine ⟨.join [103] (tb ++ [t]), ?_, by rw [Tr.ok, okL_app, lb1, okL, hok]; rfl, ?_, by rw [bT, bTs_app, lb3, bTs, bTs]; simp⟩
        · have hz : szOk ((dL tb).length + (0 + 1)) = true := decide_eq_true (by rw [dL_len, hlb]; omega)
          rw [s_asg, e_ite, hc, hie]
          simp only [e_disp, p_cons, p_nil, e_con, e_pb, l_cons, l_nil, e_p2, hv5, hv3, List.headD_cons, List.tail_cons, List.headD_nil, Bool.false_eq_true, if_false, List.length_cons, List.length_nil, z1, z3, if_true, o_addl, hz, b_tupl, t_nm]
          simp [env8, Tr.d, dL_app, dL]
        · rw [Tr.sz, szL_app, lb2, szL, szL]; omega
    obtain ⟨k4b, Sc, _, ec, hkc, _⟩ := c401 (p := p) (n := m) (hp.mono (by decide)) (by omega) (hkp.trans hkb).src (top := 4) (by omega) (by omega)
    have ec' : (tabN p m).fn 401 [.obj j, .int 4] Sb = some (iD k4b, Sc) := ec
    -- what is ahead
    obtain ⟨ta, Sd, had, hkd, hla, hLa⟩ : ∃ ta Sd, ex (tabN p m) (.asg (.nm 7) (.ite (.p2 .eq (.call 401 [(.var 0),(.con (.int 4))]) (.con (.int 0))) (.disp .lst [false] [(.call 405 [(.var 0),(.var 1)])]) (.disp .lst [] []))) (env8 j ws d t (some (iD y)) (some (.lst (dL tb))) (some core.d) e7) Sb = some (.nx (env8 j ws d t (some (iD y)) (some (.lst (dL tb))) (some core.d) (some (.lst (dL ta)))) Sd) ∧ Kp j Sb Sd ∧ ta.length ≤ 1 ∧ Leaves ta := by
      have hc : evE (tabN p m) (.p2 .eq (.call 401 [(.var 0),(.con (.int 4))]) (.con (.int 0))) (env8 j ws d t (some (iD y)) (some (.lst (dL tb))) (some core.d) e7) Sb = some (.bl (decide ((k4b : Int) = 0)), Sc) := by
        simp only [e_p2, e_call, l_cons, e_con, l_nil, env8, e_var, List.getElem?_cons_zero, ec', o_eq, eq_int, Option.map_some]
      by_cases hz : (k4b : Int) = 0
      · obtain ⟨w, Se, wok, ew, hke, _⟩ := c405 (p := p) (n := m) (hp.mono (by decide)) (by omega) hkc.src hw
        refine ⟨[.use w], Se, ?_, hkc.trans hke, by simp, fun u hu => ⟨w, by simpa using hu, wok⟩⟩
        have hcall : evE (tabN p m) (.call 405 [.var 0, .var 1]) (env8 j ws d t (some (iD y)) (some (.lst (dL tb))) (some core.d) e7) Sc = some ((Tr.use w).d, Se) := by
          simp only [e_call, l_cons, e_var, l_nil, env8, List.getElem?_cons_succ, List.getElem?_cons_zero, ew]
        rw [s_asg, e_ite, hc, decide_eq_true hz]
        simp only [e_disp, p_cons, p_nil, hcall, List.headD_cons, List.tail_cons, Bool.false_eq_true, if_false, List.length_cons, List.length_nil, z1, if_true, t_nm]
        simp [env8, dL]
      · refine ⟨[], Sc, ?_, hkc, by simp, fun u hu => by cases hu⟩
        rw [s_asg, e_ite, hc, decide_eq_false hz]
        simp only [e_disp, p_nil, List.length_nil, z0, if_true, t_nm]
        simp [env8, dL]
    obtain ⟨la1, la2, la3⟩ := leaves_of hLa
    obtain ⟨w, Sf, _, wok, ew, hkf, _⟩ := one_w (p := p) (n := m) (hp.mono (by decide)) (by omega) hkd.src hw
    refine ⟨env8 j ws d (.bind w ta core) (some (iD y)) (some (.lst (dL tb))) (some core.d) (some (.lst (dL ta))), Sf, ?_, _, _, _, _, _, rfl, ((hkp.trans hkb).trans hkd).trans hkf, ?_, ?_, ?_⟩
    · have hset : setT S' (.nm 4) (iD y) (env8 j ws d t e4 e5 e6 e7) = some (env8 j ws d t (some (iD y)) e5 e6 e7) := by simp [env8]
      simp only [forStep, hset]
      refine s_nx (env1 := env8 j ws d t (some (iD y)) (some (.lst (dL tb))) e6 e7) (S1 := Sb) (by rw [s_asg, eb]; simp [env8]) (s_nx hcd (s_nx had (s_nx ?_ s_nil)))
      have hcall : evE (tabN p m) (.call 402 [.var 0, .var 1]) (env8 j ws d t (some (iD y)) (some (.lst (dL tb))) (some core.d) (some (.lst (dL ta)))) Sd = some (.str w, Sf) := by
        simp only [e_call, l_cons, e_var, l_nil, env8, List.getElem?_cons_succ, List.getElem?_cons_zero, ew]
      have hv7 := v_of (T := tabN p m) (env := env8 j ws d t (some (iD y)) (some (.lst (dL tb))) (some core.d) (some (.lst (dL ta)))) (i := 7) (d := .lst (dL ta)) rfl Sf
      have hv6 := v_of (T := tabN p m) (env := env8 j ws d t (some (iD y)) (some (.lst (dL tb))) (some core.d) (some (.lst (dL ta)))) (i := 6) (d := core.d) rfl Sf
      simp only [s_asg, e_disp, p_cons, p_nil, e_con, hcall, e_pb, l_cons, l_nil, hv7, hv6, b_tupl, List.headD_cons, List.tail_cons, List.headD_nil, Bool.false_eq_true, if_false, List.length_cons, List.length_nil, z4, if_true, t_nm]
      simp [env8, Tr.d]
    · rw [Tr.ok, wok, la1, hcok]; rfl
    · rw [Tr.sz, la2]; simp; omega
    · rw [bT, la3, hcbd]; simp; omega)
  refine ⟨t, S', ?_, hkp, hok, by simpa using hsz, by simpa using hbd⟩
  rw [fn_at (d := D408) (hp 408 (by decide))]
  refine run_2 rfl rfl (s_nx s0 (s_nx e1 (s_rt ?_)))
  show ex _ (.ret (.var 3)) _ _ = _
  rw [s_ret, v_of (d := t.d) rfl]
end Sp

set_option Elab.async false
set_option linter.all false
set_option maxRecDepth 100000
namespace Sp
open LN LP PySem
variable {p : Prog}
/-- a drawn tree: within the limits of a Term -/
theorem lim_of {t : Tr} {N B : Nat} (h1 : t.ok = true) (h2 : t.sz ≤ N) (h3 : (bT t).length ≤ B) (hN : N ≤ 100) (hB : B ≤ 60) : Lim t := ⟨h1, by omega, by omega, by have := dp_sz t; omega⟩
theorem c409 (hp : Has p [401, 402, 404, 405, 406, 407, 408, 409]) {N B : Nat} (hN : 12 ≤ N) (hN2 : N ≤ 100) (hB : B ≤ 60) {n : Nat} (hn : 2 * N + 5 ≤ n) {j : Nat} {S : Store} (hS : Src S j) : ∃ t S1, (tabN p n).fn 409 [.obj j, iD N, iD B] S = some (t.d, S1) ∧ Kp j S S1 ∧ t.ok = true ∧ t.sz ≤ N + 1 ∧ (bT t).length ≤ B := by
  obtain ⟨m, rfl⟩ : ∃ m, n = m + 1 := ⟨n - 1, by omega⟩
  obtain ⟨ws, S1, hw, ew, hk1⟩ := c404 (p := p) (n := m) (hp.mono (by decide)) (by omega) hS
  obtain ⟨k4, S2, hk4, e4, hk2, _⟩ := c401 (p := p) (n := m) (hp.mono (by decide)) (by omega) hk1.src (top := 4) (by omega) (by omega)
  have e4' : (tabN p m).fn 401 [.obj j, .int 4] S1 = some (iD k4, S2) := e4
  have hG := fun A (hA : 2 * A + 4 ≤ m) => grow_all (p := p) (hp.mono (by decide)) (j := j) hw A m hA
  let ev0 : DEnv := [some (.obj j), some (iD N), some (iD B), none, none, none, none, none]
  let ev1 : DEnv := [some (.obj j), some (iD N), some (iD B), some (wD ws), some (iD k4), none, none, none]
  have s0 : ex (tabN p m) (B409.getD 0 .nev) ev0 S = some (.nx ev1 S2) := by
    show ex _ (.par [3,4] [(.call 404 [(.var 0)]),(.call 401 [(.var 0),(.con (.int 4))])]) ev0 S = _
    simp [ev0, ev1, ew, e4']
  have hv4 : ∀ S, evE (tabN p m) (.var 4) ev1 S = some (iD k4, S) := fun S => v_of rfl S
  have hc : ∀ (k : Nat) S, evE (tabN p m) (.p2 .eq (.var 4) (.con (.int (k : Int)))) ev1 S = some (.bl (decide ((k4 : Int) = k)), S) := fun k S => by
    simp only [e_p2, hv4, e_con, o_eq, eq_int, Option.map_some]
  by_cases h0 : k4 = 0
  · -- nested
    let top := min B (N / 6) + 1
    obtain ⟨d, S3, hd, ed, hk3, _⟩ := c401 (p := p) (n := m) (hp.mono (by decide)) (by omega) hk2.src (top := top) (by show 0 < min B (N / 6) + 1; omega) (by show min B (N / 6) + 1 < 1000000; omega)
    have hd2 : d ≤ B ∧ d ≤ N / 6 := by have hd' : d < min B (N / 6) + 1 := hd; omega
    obtain ⟨t, S4, et, hk4', hok, hsz, hbd⟩ := c408 (p := p) (n := m) (hp.mono (by decide)) (by omega) hw (d := d) (by omega) hk3.src
    refine ⟨t, S4, ?_, ((hk1.trans hk2).trans hk3).trans hk4', hok, by omega, by omega⟩
    rw [fn_at (d := D409) (hp 409 (by decide))]
    refine run_2 rfl rfl (s_nx s0 (s_rt ?_))
    show ex _ (.ite (.p2 .eq (.var 4) (.con (.int ((0 : Nat) : Int)))) [.ret (.call 408 [(.var 0),(.var 3),(.call 401 [(.var 0),(.p2 .add (.pb .min false [(.var 2),(.p2 .fdiv (.var 1) (.con (.int 6)))]) (.con (.int 1)))])])] []) ev1 S2 = _
    rw [if_t (hc 0 S2) (decide_eq_true (by omega))]
    refine s_rt ?_
    have htop : evE (tabN p m) (.p2 .add (.pb .min false [(.var 2),(.p2 .fdiv (.var 1) (.con (.int 6)))]) (.con (.int 1))) ev1 S2 = some (iD top, S2) := by
      have hq : (N : Int) / 6 = ((N / 6 : Nat) : Int) := by omega
      have e1 : (if ((N / 6 : Nat) : Int) < (B : Int) then ((N / 6 : Nat) : Int) else (B : Int)) + 1 = (top : Int) := by simp only [top]; split <;> omega
      have hdiv : p2 .fdiv (iD N) (.int 6) S2 = some (.int ((N / 6 : Nat) : Int)) := by rw [o_fdiv, if_pos (by omega), hq]
      simp only [e_p2, e_pb, l_cons, l_nil, e_var, e_con, ev1, List.getElem?_cons_succ, List.getElem?_cons_zero, hdiv, b_min2, o_add, e1]
    have hcd : evE (tabN p m) (.call 401 [(.var 0),(.p2 .add (.pb .min false [(.var 2),(.p2 .fdiv (.var 1) (.con (.int 6)))]) (.con (.int 1)))]) ev1 S2 = some (iD d, S3) := by
      rw [e_call, l_cons, v_of (d := .obj j) rfl]
      simp only [l_cons, htop, l_nil, ed]
    rw [s_ret, e_call, l_cons, v_of (d := .obj j) rfl]
    simp only [l_cons, v_of (T := tabN p m) (env := ev1) (i := 3) (d := wD ws) rfl, hcd, l_nil, et]
  · have s1 : ex (tabN p m) (B409.getD 1 .nev) ev1 S2 = some (.nx ev1 S2) := by
      show ex _ (.ite (.p2 .eq (.var 4) (.con (.int ((0 : Nat) : Int)))) [_] []) ev1 S2 = _
      rw [if_f (hc 0 S2) (decide_eq_false (by omega)), s_nil]
    by_cases h1 : k4 = 1
    · -- two beside one another
      have hG2 := hG (N / 2) (by omega)
      obtain ⟨t1, a1, b1, S3, et1, hk3, hD1⟩ := hG2 (N / 2) (B / 2) S2 (by omega) (Nat.le_refl _) hk2.src
      obtain ⟨t2, a2, b2, S4, et2, hk4', hD2⟩ := hG2 (N / 2) (B / 2) S3 (by omega) (Nat.le_refl _) hk3.src
      have z1' := hD1.sz; have z2' := hD2.sz; have y1 := hD1.bd; have y2 := hD2.bd
      refine ⟨.join [102] [t1, t2], S4, ?_, ((hk1.trans hk2).trans hk3).trans hk4', ?_, ?_, ?_⟩
      · rw [fn_at (d := D409) (hp 409 (by decide))]
        refine run_2 rfl rfl (s_nx s0 (s_nx s1 (s_rt ?_)))
        show ex _ (.ite (.p2 .eq (.var 4) (.con (.int ((1 : Nat) : Int)))) [(.asg (.nm 5) (.disp .lst [false,false] [(.p2 .fdiv (.var 1) (.con (.int 2))),(.p2 .fdiv (.var 2) (.con (.int 2)))])), (.par [6,7] [(.p2 .idx (.call 406 [(.var 0),(.var 3),(.var 5)]) (.con (.int 0))),(.p2 .idx (.call 406 [(.var 0),(.var 3),(.var 5)]) (.con (.int 0)))]), (.ret (.disp .tup [false,false,false] [(.con (.str [106,111,105,110])),(.con (.str [102])),(.disp .tup [false,false] [(.var 6),(.var 7)])]))] []) ev1 S2 = _
        rw [if_t (hc 1 S2) (decide_eq_true (by omega))]
        let ev2 : DEnv := [some (.obj j), some (iD N), some (iD B), some (wD ws), some (iD k4), some (rmD (N / 2) (B / 2)), none, none]
        have hd1 : p2 .fdiv (iD N) (.int 2) S2 = some (.int ((N / 2 : Nat) : Int)) := by rw [o_fdiv, if_pos (by omega)]; congr 2
        have hd2 : p2 .fdiv (iD B) (.int 2) S2 = some (.int ((B / 2 : Nat) : Int)) := by rw [o_fdiv, if_pos (by omega)]; congr 2
        refine s_nx (env1 := ev2) (S1 := S2) ?_ (s_nx (env1 := [some (.obj j), some (iD N), some (iD B), some (wD ws), some (iD k4), some (rmD (N / 2) (B / 2)), some t1.d, some t2.d]) (S1 := S4) ?_ (s_rt ?_))
        · simp only [s_asg, e_disp, p_cons, p_nil, e_p2, e_var, e_con, ev1, List.getElem?_cons_succ, List.getElem?_cons_zero, hd1, hd2, List.headD_cons, List.tail_cons, Bool.false_eq_true, if_false, List.length_cons, List.length_nil, z2, if_true, t_nm]
          rfl
        · have hcall1 : evE (tabN p m) (.call 406 [(.var 0),(.var 3),(.var 5)]) ev2 S2 = some (.lst [t1.d, rmD a1 b1], S3) := by
            simp only [e_call, l_cons, l_nil, e_var, ev2, List.getElem?_cons_succ, List.getElem?_cons_zero, et1]
          have hcall2 : evE (tabN p m) (.call 406 [(.var 0),(.var 3),(.var 5)]) ev2 S3 = some (.lst [t2.d, rmD a2 b2], S4) := by
            simp only [e_call, l_cons, l_nil, e_var, ev2, List.getElem?_cons_succ, List.getElem?_cons_zero, et2]
          have i0 : ∀ (x y : D) S, p2 .idx (.lst [x, y]) (.int 0) S = some x := fun x y S => by simp [ixD]
          simp only [s_par, l_cons, l_nil, e_p2, e_con, hcall1, hcall2, i0, sp_cons, sp_nil]
          rfl
        · simp only [s_ret, e_disp, p_cons, p_nil, e_con, e_var, List.getElem?_cons_succ, List.getElem?_cons_zero, List.headD_cons, List.tail_cons, List.headD_nil, Bool.false_eq_true, if_false, List.length_cons, List.length_nil, z2, z3, if_true]
          simp [Tr.d, dL]
      · rw [Tr.ok, okL, okL, okL, hD1.ok, hD2.ok]; rfl
      · rw [Tr.sz, szL, szL, szL]; omega
      · rw [bT, bTs, bTs, bTs]; simp; omega
    · have s2 : ex (tabN p m) (B409.getD 2 .nev) ev1 S2 = some (.nx ev1 S2) := by
        show ex _ (.ite (.p2 .eq (.var 4) (.con (.int ((1 : Nat) : Int)))) [_, _, _] []) ev1 S2 = _
        rw [if_f (hc 1 S2) (decide_eq_false (by omega)), s_nil]
      obtain ⟨t, a', b', S3, et, hk3, hD⟩ := hG N (by omega) N B S2 (by omega) (Nat.le_refl _) hk2.src
      refine ⟨t, S3, ?_, (hk1.trans hk2).trans hk3, hD.ok, by have := hD.sz; omega, by have := hD.bd; omega⟩
      rw [fn_at (d := D409) (hp 409 (by decide))]
      refine run_2 rfl rfl (s_nx s0 (s_nx s1 (s_nx s2 (s_rt ?_))))
      show ex _ (.ret (.p2 .idx (.call 406 [(.var 0),(.var 3),(.disp .lst [false,false] [(.var 1),(.var 2)])]) (.con (.int 0)))) ev1 S2 = _
      have hcall : evE (tabN p m) (.call 406 [(.var 0),(.var 3),(.disp .lst [false,false] [(.var 1),(.var 2)])]) ev1 S2 = some (.lst [t.d, rmD a' b'], S3) := by
        simp only [e_call, l_cons, l_nil, e_var, e_disp, p_cons, p_nil, ev1, List.getElem?_cons_succ, List.getElem?_cons_zero, List.headD_cons, List.tail_cons, Bool.false_eq_true, if_false, List.length_cons, List.length_nil, z2, if_true, et]
      rw [s_ret, e_p2, hcall]
      simp [ixD]
end Sp

set_option Elab.async false
set_option linter.all false
set_option maxRecDepth 100000
namespace Sp
open LN LP PySem
variable {p : Prog}
theorem c410 (hp : Has p [410]) {n : Nat} (hn : 1 ≤ n) (t : Tr) (hz : t.sz ≤ 90000) (S : Store) : (tabN p n).fn 410 [t.d] S = some (.lst (dL (parts t)), S) := by
  obtain ⟨m, rfl⟩ : ∃ m, n = m + 1 := ⟨n - 1, by omega⟩
  rw [fn_at (d := D410) (hp 410 (by decide))]
  refine run_0 (d := .lst (dL (parts t))) (S1 := []) rfl (by simp [pu_tr]) rfl ?_ (frz_pure (by simp [pu_trL]) _) S
  have e1 := eq_us t; have e2 := eq_jo t
  have i0 := ix0 t
  cases t with
  | use x => simp [root] at e1 e2 i0; simp [D410, B410, startD, i0, e1, parts, dL, szOk]
  | join l ps => simp [root] at e1 e2 i0; simp [D410, B410, startD, i0, e1, e2, parts]; simp [Tr.d, ixD]
  | bind x a b =>
    rw [Tr.sz] at hz
    have h1 := szL_len a
    have h2 : szOk (a.length + 1) = true := decide_eq_true (by omega)
    simp [root] at e1 e2 i0; simp [D410, B410, startD, i0, e1, e2, parts]; have h3 : szOk 1 = true := rfl
    simp [Tr.d, ixD, dL_map, h2, h3]
/-! ### spots -/
mutual
def spT : Tr → List Nat → Nat → List (Nat × Tr × List Nat)
  | .use x, ar, k => [(k, .use x, ar)]
  | .join l ps, ar, k => (k, .join l ps, ar) :: spTs ps ar (k + 1)
  | .bind x a b, ar, k => (k, .bind x a b, ar) :: (spTs a ar (k + 1) ++ spT b (ar ++ [k]) (k + 1 + szL a))
def spTs : List Tr → List Nat → Nat → List (Nat × Tr × List Nat)
  | [], _, _ => []
  | t :: ts, ar, k => spT t ar k ++ spTs ts ar (k + t.sz)
end
mutual
theorem sp_len : ∀ (t : Tr) (ar : List Nat) (k : Nat), (spT t ar k).length = t.sz
  | .use x, ar, k => by rw [spT, Tr.sz]; rfl
  | .join l ps, ar, k => by rw [spT, Tr.sz, List.length_cons, sp_lenL]; omega
  | .bind x a b, ar, k => by rw [spT, Tr.sz, List.length_cons, List.length_append, sp_lenL, sp_len b]; omega
theorem sp_lenL : ∀ (ts : List Tr) (ar : List Nat) (k : Nat), (spTs ts ar k).length = szL ts
  | [], ar, k => by rw [spTs, szL]; rfl
  | t :: ts, ar, k => by rw [spTs, szL, List.length_append, sp_len t, sp_lenL ts]
end
def partsI : Tr → List Nat → Nat → List (Tr × List Nat)
  | .use _, _, _ => []
  | .join _ ps, ar, _ => ps.map fun q => (q, ar)
  | .bind _ a b, ar, k => (a.map fun q => (q, ar)) ++ [(b, ar ++ [k])]
def spSeq : List (Tr × List Nat) → Nat → List (Nat × Tr × List Nat)
  | [], _ => []
  | q :: r, k => spT q.1 q.2 k ++ spSeq r (k + q.1.sz)
theorem spSeq_app : ∀ (xs ys : List (Tr × List Nat)) (k : Nat), spSeq (xs ++ ys) k = spSeq xs k ++ spSeq ys (k + (spSeq xs k).length)
  | [], ys, k => by simp [spSeq]
  | x :: xs, ys, k => by
    rw [List.cons_append, spSeq, spSeq, spSeq_app xs, List.append_assoc, List.length_append, sp_len, Nat.add_assoc]
theorem spSeq_map (ar : List Nat) : ∀ (ts : List Tr) (k : Nat), spSeq (ts.map fun q => (q, ar)) k = spTs ts ar k
  | [], k => by rw [spTs]; rfl
  | t :: ts, k => by rw [List.map_cons, spSeq, spTs, spSeq_map ar ts]
theorem sp_eq (t : Tr) (ar : List Nat) (k : Nat) : spT t ar k = (k, t, ar) :: spSeq (partsI t ar k) (k + 1) := by
  cases t with
  | use x => rw [spT]; rfl
  | join l ps => rw [spT, partsI, spSeq_map]
  | bind x a b => rw [spT, partsI, spSeq_app, spSeq_map, sp_lenL]; simp [spSeq]
def spD (q : Nat × Tr × List Nat) : D := .lst [iD q.1, q.2.1.d, .lst (natsD q.2.2)]
theorem pu_sp (q : Nat × Tr × List Nat) : pureD (spD q) = true := by simp [spD, pu_tr]
theorem parts_fst (t : Tr) (ar : List Nat) (k : Nat) : (partsI t ar k).map (·.1) = parts t := by
  cases t <;> simp [partsI, parts, Function.comp_def]
theorem partsI_at (t : Tr) (ar : List Nat) (k : Nat) {i : Nat} {q : Tr × List Nat} (h : (partsI t ar k)[i]? = some q) : q.2 = if root t = bi ∧ i + 1 = (parts t).length then ar ++ [k] else ar := by
  cases t with
  | use x => simp [partsI] at h
  | join l ps =>
    rw [if_neg (by simp [root])]
    simp [partsI] at h
    obtain ⟨a, _, rfl⟩ := h
    rfl
  | bind x a b =>
    simp only [partsI] at h
    by_cases hi : i < a.length
    · rw [List.getElem?_append_left (by simpa using hi)] at h
      rw [if_neg (by simp [parts]; omega)]
      simp at h
      obtain ⟨a, _, rfl⟩ := h
      rfl
    · rw [List.getElem?_append_right (by simpa using hi)] at h
      have hi2 : i = a.length := by
        have := (List.getElem?_eq_some_iff.mp h).1
        simp at this; omega
      subst hi2
      simp at h
      subst h
      simp [root, parts]
def env7s (t : Tr) (ar : List Nat) (k : Nat) (f : List (Nat × Tr × List Nat)) (e4 e5 e6 : Option D) : DEnv := [some t.d, some (.lst (natsD ar)), some (iD k), some (.lst (f.map spD)), e4, e5, e6]
theorem c411_of (hp : Has p [410, 411]) {m : Nat} (hm : 1 ≤ m) (t : Tr) (ar : List Nat) (k : Nat) (hz : t.sz ≤ 40000) (har : ar.length ≤ 40000) (hrec : ∀ q ∈ partsI t ar k, ∀ k' S, (tabN p m).fn 411 [q.1.d, .lst (natsD q.2), iD k'] S = some (.lst ((spT q.1 q.2 k').map spD), S)) (S : Store) : (tabN p (m + 1)).fn 411 [t.d, .lst (natsD ar), iD k] S = some (.lst ((spT t ar k).map spD), S) := by
  rw [fn_at (d := D411) (hp 411 (by decide))]
  have h410 := fun S => c410 (p := p) (n := m) (hp.mono (by decide)) hm t (by omega) S
  obtain ⟨env1, S1, e, e4, e5, e6, rfl, rfl⟩ := E_for (T := tabN p m) (env := env7s t ar k [(k, t, ar)] none none none) (tg := .tup [.nm 4, .nm 5]) (k := 2) (it := [.call 410 [.var 0]]) (b := [(.asg (.nm 6) (.var 1)), (.ite (.and (.p2 .eq (.p2 .idx (.var 0) (.con (.int 0))) (.con (.str [98,105,110,100]))) (.p2 .eq (.var 4) (.pb .len false [(.p2 .idx (.var 0) (.con (.int 2)))]))) [(.asg (.nm 6) (.p2 .add (.var 1) (.disp .lst [false] [(.var 2)])))] []), (.asg (.nm 3) (.p2 .add (.var 3) (.call 411 [(.var 5),(.var 6),(.p2 .add (.var 2) (.pb .len false [(.var 3)]))])))]) (enc := fun y : (Tr × List Nat) × Nat => .tup [iD y.2, y.1.1.d]) (ys := (partsI t ar k).zipIdx) (ds := [.lst (dL (parts t))]) (S := []) (S1 := [])
    (fun done env S => ∃ e4 e5 e6, env = env7s t ar k ((k, t, ar) :: spSeq (done.map (·.1)) (k + 1)) e4 e5 e6 ∧ S = []) (by simp [env7s, h410]) (by
      rw [dL_map, ← parts_fst t ar k, List.map_map]
      show some (Src.items (enumD ((0 : Nat) : Int) _)) = _
      rw [enumD_map]; rfl) ⟨none, none, none, rfl, rfl⟩ (by
      rintro done y rest hd env S ⟨e4, e5, e6, rfl, rfl⟩
      have hmem : y ∈ (partsI t ar k).zipIdx := by rw [← hd]; simp
      have hy : (partsI t ar k)[y.2]? = some y.1 := by
        have := List.mem_zipIdx_iff_getElem?.mp (show (y.1, y.2) ∈ (partsI t ar k).zipIdx from hmem)
        simpa using this
      have hin := partsI_at t ar k hy
      have hlp : (partsI t ar k).length = (parts t).length := by rw [← parts_fst t ar k, List.length_map]
      have hsl : ∀ (l : List (Tr × List Nat)) (k : Nat), (spSeq l k).length = szL (l.map (·.1)) := fun l => by
        induction l with
        | nil => intro k; simp [spSeq, szL]
        | cons a l ih => intro k; rw [spSeq, List.length_append, sp_len, ih, List.map_cons, szL]
      have hpre : done.map (·.1) ++ y.1 :: rest.map (·.1) = partsI t ar k := by
        have := congrArg (List.map (·.1)) hd
        simpa using this
      have hsum : szL (parts t) + 1 ≤ 40000 := by
        cases t with
        | use x => simp [parts, szL]
        | join l ps => rw [Tr.sz] at hz; simp only [parts]; omega
        | bind x a b => rw [Tr.sz] at hz; simp only [parts]; rw [szL_app, szL, szL]; omega
      have hsz2 : szL ((done.map (·.1)).map (·.1)) + y.1.1.sz ≤ szL (parts t) := by
        rw [← parts_fst t ar k, ← hpre, List.map_append, szL_app, List.map_cons, szL]; omega
      have hfl : (spSeq (done.map (·.1)) (k + 1)).length + y.1.1.sz + 1 ≤ 40000 := by rw [hsl]; omega
      let f0 := (k, t, ar) :: spSeq (done.map (·.1)) (k + 1)
      have hset : setT [] (.tup [.nm 4, .nm 5]) (.tup [iD y.2, y.1.1.d]) (env7s t ar k f0 e4 e5 e6) = some (env7s t ar k f0 (some (iD y.2)) (some y.1.1.d) e6) := by simp [env7s]
      have hcall := hrec y.1 (List.mem_of_getElem? hy) (k + f0.length) []
      refine ⟨env7s t ar k ((k, t, ar) :: spSeq ((done ++ [y]).map (·.1)) (k + 1)) (some (iD y.2)) (some y.1.1.d) (some (.lst (natsD y.1.2))), [], ?_, _, _, _, rfl, rfl⟩
      simp only [forStep]
      rw [show ((k, t, ar) :: spSeq (done.map (·.1)) (k + 1)) = f0 from rfl, hset]
      have sA : ex (tabN p m) (.asg (.nm 6) (.var 1)) (env7s t ar k f0 (some (iD y.2)) (some y.1.1.d) e6) [] = some (.nx (env7s t ar k f0 (some (iD y.2)) (some y.1.1.d) (some (.lst (natsD ar)))) []) := by simp [env7s]
      have hb0 := ev_bi (T := tabN p m) (env := env7s t ar k f0 (some (iD y.2)) (some y.1.1.d) (some (.lst (natsD ar)))) (S := []) (t := t) 0 rfl
      have sB : ex (tabN p m) (.ite (.and (.p2 .eq (.p2 .idx (.var 0) (.con (.int 0))) (.con (.str bi))) (.p2 .eq (.var 4) (.pb .len false [(.p2 .idx (.var 0) (.con (.int 2)))]))) [(.asg (.nm 6) (.p2 .add (.var 1) (.disp .lst [false] [(.var 2)])))] []) (env7s t ar k f0 (some (iD y.2)) (some y.1.1.d) (some (.lst (natsD ar)))) [] = some (.nx (env7s t ar k f0 (some (iD y.2)) (some y.1.1.d) (some (.lst (natsD y.1.2)))) []) := by
        by_cases hbi : root t = bi
        · obtain ⟨x, a, b, rfl⟩ : ∃ x a b, t = .bind x a b := by cases t <;> first | exact ⟨_, _, _, rfl⟩ | (simp [root] at hbi)
          have hc : evE (tabN p m) (.and (.p2 .eq (.p2 .idx (.var 0) (.con (.int 0))) (.con (.str bi))) (.p2 .eq (.var 4) (.pb .len false [(.p2 .idx (.var 0) (.con (.int 2)))]))) (env7s (.bind x a b) ar k f0 (some (iD y.2)) (some y.1.1.d) (some (.lst (natsD ar)))) [] = some (.bl (decide ((y.2 : Int) = a.length)), []) := by
            rw [e_and, hb0, decide_eq_true hbi]
            simp [env7s, ix2b, dL_len]
          by_cases hq : y.2 = a.length
          · rw [if_pos ⟨hbi, by simp [parts, hq]⟩] at hin
            rw [if_t hc (decide_eq_true (by omega)), hin]
            have hz1 : szOk (ar.length + 1) = true := decide_eq_true (by omega)
            have h3 : szOk 1 = true := rfl
            simp [env7s, hz1, h3]
          · rw [if_neg (by simp [parts]; intro _ h; exact hq h)] at hin
            rw [if_f hc (decide_eq_false (by omega)), s_nil, hin]
        · rw [if_neg (fun h => hbi h.1)] at hin
          have hc : evE (tabN p m) (.and (.p2 .eq (.p2 .idx (.var 0) (.con (.int 0))) (.con (.str bi))) (.p2 .eq (.var 4) (.pb .len false [(.p2 .idx (.var 0) (.con (.int 2)))]))) (env7s t ar k f0 (some (iD y.2)) (some y.1.1.d) (some (.lst (natsD ar)))) [] = some (.bl false, []) := by
            rw [e_and, hb0, decide_eq_false hbi]
          rw [if_f hc rfl, s_nil, hin]
      refine s_nx sA (s_nx sB (s_nx ?_ s_nil))
      have hl3 : evE (tabN p m) (.p2 .add (.var 2) (.pb .len false [(.var 3)])) (env7s t ar k f0 (some (iD y.2)) (some y.1.1.d) (some (.lst (natsD y.1.2)))) [] = some (iD (k + f0.length), []) := by
        simp [env7s]
      have hcl : evE (tabN p m) (.call 411 [(.var 5),(.var 6),(.p2 .add (.var 2) (.pb .len false [(.var 3)]))]) (env7s t ar k f0 (some (iD y.2)) (some y.1.1.d) (some (.lst (natsD y.1.2)))) [] = some (.lst ((spT y.1.1 y.1.2 (k + f0.length)).map spD), []) := by
        rw [e_call, l_cons, v_of (d := y.1.1.d) rfl]
        simp only [l_cons, v_of (T := tabN p m) (env := env7s t ar k f0 (some (iD y.2)) (some y.1.1.d) (some (.lst (natsD y.1.2)))) (i := 6) (d := .lst (natsD y.1.2)) rfl, hl3, l_nil, hcall]
      have hz3 : szOk ((f0.map spD).length + ((spT y.1.1 y.1.2 (k + f0.length)).map spD).length) = true := decide_eq_true (by
        rw [List.length_map, List.length_map, sp_len]
        show (spSeq (done.map (·.1)) (k + 1)).length + 1 + _ ≤ _
        omega)
      rw [s_asg, e_p2, v_of (d := .lst (f0.map spD)) rfl]
      simp only [hcl, o_addl, hz3, if_true, t_nm]
      have hres : f0 ++ spT y.1.1 y.1.2 (k + f0.length) = (k, t, ar) :: spSeq ((done ++ [y]).map (·.1)) (k + 1) := by
        rw [List.map_append, spSeq_app]
        show (k, t, ar) :: (spSeq (done.map (·.1)) (k + 1) ++ _) = _
        congr 2
        simp [spSeq, f0]
        congr 1
        omega
      rw [← List.map_append, hres]
      rfl)
  have hlast : (k, t, ar) :: spSeq (((partsI t ar k).zipIdx).map (·.1)) (k + 1) = spT t ar k := by
    rw [sp_eq]
    congr 2
    simp
  rw [hlast] at e
  refine run_0 (d := .lst ((spT t ar k).map spD)) (S1 := []) rfl (by simp [pu_tr]) rfl (s_nx (env1 := env7s t ar k [(k, t, ar)] none none none) (S1 := []) ?_ (s_nx e (s_rt ?_))) (frz_pure (by rw [pu_lst]; exact pureL_map pu_sp _) _) S
  · simp [startD, D411, env7s, szOk, spD]
  · show ex _ (.ret (.var 3)) _ _ = _
    rw [s_ret, v_of (d := .lst ((spT t ar k).map spD)) rfl]
mutual
theorem c411 (hp : Has p [410, 411]) : ∀ (t : Tr) (n : Nat) (ar : List Nat) (k : Nat), t.dp + 1 ≤ n → t.sz ≤ 40000 → ar.length + t.dp ≤ 40000 → ∀ S, (tabN p n).fn 411 [t.d, .lst (natsD ar), iD k] S = some (.lst ((spT t ar k).map spD), S)
  | .use x, n, ar, k, hn, hz, ha, S => by
    obtain ⟨m, rfl⟩ : ∃ m, n = m + 1 := ⟨n - 1, by omega⟩
    rw [Tr.dp] at hn ha
    exact c411_of hp (by omega) (.use x) ar k hz (by omega) (fun q hq => by simp [partsI] at hq) S
  | .join l ps, n, ar, k, hn, hz, ha, S => by
    obtain ⟨m, rfl⟩ : ∃ m, n = m + 1 := ⟨n - 1, by omega⟩
    rw [Tr.dp] at hn ha
    refine c411_of hp (by omega) (.join l ps) ar k hz (by omega) (fun q hq k' S => ?_) S
    rw [Tr.sz] at hz
    obtain ⟨u, hu, rfl⟩ := List.mem_map.mp hq
    exact c411L hp ps m (by omega) (by omega) u hu ar k' (by omega) S
  | .bind x a b, n, ar, k, hn, hz, ha, S => by
    obtain ⟨m, rfl⟩ : ∃ m, n = m + 1 := ⟨n - 1, by omega⟩
    rw [Tr.dp] at hn ha
    refine c411_of hp (by omega) (.bind x a b) ar k hz (by omega) (fun q hq k' S => ?_) S
    rw [Tr.sz] at hz
    rcases List.mem_append.mp hq with hq | hq
    · obtain ⟨u, hu, rfl⟩ := List.mem_map.mp hq
      exact c411L hp a m (by omega) (by omega) u hu ar k' (by omega) S
    · simp at hq
      rw [hq]
      exact c411 hp b m (ar ++ [k]) k' (by omega) (by omega) (by simp; omega) S
theorem c411L (hp : Has p [410, 411]) : ∀ (ts : List Tr) (n : Nat), dpL ts + 1 ≤ n → szL ts ≤ 40000 → ∀ u ∈ ts, ∀ (ar : List Nat) (k : Nat), ar.length + dpL ts ≤ 40000 → ∀ S, (tabN p n).fn 411 [u.d, .lst (natsD ar), iD k] S = some (.lst ((spT u ar k).map spD), S)
  | [], _, _, _, u, hu, _, _, _, _ => by cases hu
  | t :: ts, n, hn, hz, u, hu, ar, k, ha, S => by
    rw [dpL] at hn ha
    rw [szL] at hz
    rcases List.mem_cons.mp hu with e | hu
    · rw [e]; exact c411 hp t n ar k (by omega) (by omega) (by omega) S
    · exact c411L hp ts n (by omega) (by omega) u hu ar k (by omega) S
end
end Sp

set_option Elab.async false
set_option linter.all false
set_option maxRecDepth 100000
namespace Sp
open LN LP PySem
variable {p : Prog}
/-! ### spots by the binders' own numbers -/
mutual
def xT : Tr → List Nat → Nat → Nat → List (Nat × Tr × List Nat)
  | .use x, br, k, _ => [(k, .use x, br)]
  | .join l ps, br, k, nb => (k, .join l ps, br) :: xTs ps br (k + 1) nb
  | .bind x a b, br, k, nb => (k, .bind x a b, br) :: (xTs a br (k + 1) (nb + 1) ++ xT b (br ++ [nb]) (k + 1 + szL a) (nb + 1 + (bTs a).length))
def xTs : List Tr → List Nat → Nat → Nat → List (Nat × Tr × List Nat)
  | [], _, _, _ => []
  | t :: ts, br, k, nb => xT t br k nb ++ xTs ts br (k + t.sz) (nb + (bT t).length)
end
mutual
/-- the binders' nodes -/
def bnT : Tr → Nat → List Nat
  | .use _, _ => []
  | .join _ ps, k => bnTs ps (k + 1)
  | .bind _ a b, k => k :: (bnTs a (k + 1) ++ bnT b (k + 1 + szL a))
def bnTs : List Tr → Nat → List Nat
  | [], _ => []
  | t :: ts, k => bnT t k ++ bnTs ts (k + t.sz)
end
mutual
theorem bn_len : ∀ (t : Tr) (k : Nat), (bnT t k).length = (bT t).length
  | .use x, k => by rw [bnT, bT]; rfl
  | .join l ps, k => by rw [bnT, bT, bn_lenL]
  | .bind x a b, k => by rw [bnT, bT, List.length_cons, List.length_cons, List.length_append, List.length_append, bn_lenL, bn_len b]
theorem bn_lenL : ∀ (ts : List Tr) (k : Nat), (bnTs ts k).length = (bTs ts).length
  | [], k => by rw [bnTs, bTs]; rfl
  | t :: ts, k => by rw [bnTs, bTs, List.length_append, List.length_append, bn_len t, bn_lenL ts]
end
theorem app_split {α : Type} {xs ys us vs : List α} (h : xs ++ ys = us ++ vs) (hl : xs.length = us.length) : xs = us ∧ ys = vs := List.append_inj h hl
mutual
theorem sp_x (f : Nat → Nat) : ∀ (t : Tr) (br : List Nat) (k nb : Nat), bnT t k = (List.range' nb (bT t).length).map f → spT t (br.map f) k = (xT t br k nb).map fun q => (q.1, q.2.1, q.2.2.map f)
  | .use x, br, k, nb, h => by rw [spT, xT]; rfl
  | .join l ps, br, k, nb, h => by
    rw [bnT, bT] at h
    rw [spT, xT, List.map_cons, sp_xL f ps br (k + 1) nb h]
  | .bind x a b, br, k, nb, h => by
    rw [bnT, bT, List.length_cons, List.range'_succ, List.map_cons] at h
    obtain ⟨h1, h2⟩ := List.cons.inj h
    rw [List.length_append, ← List.range'_append_1, List.map_append] at h2
    obtain ⟨h3, h4⟩ := app_split h2 (by rw [bn_lenL]; simp)
    rw [spT, xT, List.map_cons, List.map_append, sp_xL f a br (k + 1) (nb + 1) h3]
    have hb := sp_x f b (br ++ [nb]) (k + 1 + szL a) (nb + 1 + (bTs a).length) h4
    rw [List.map_append, List.map_cons, List.map_nil, ← h1] at hb
    rw [hb]
theorem sp_xL (f : Nat → Nat) : ∀ (ts : List Tr) (br : List Nat) (k nb : Nat), bnTs ts k = (List.range' nb (bTs ts).length).map f → spTs ts (br.map f) k = (xTs ts br k nb).map fun q => (q.1, q.2.1, q.2.2.map f)
  | [], br, k, nb, h => by rw [spTs, xTs]; rfl
  | t :: ts, br, k, nb, h => by
    rw [bnTs, bTs, List.length_append, ← List.range'_append_1, List.map_append] at h
    obtain ⟨h3, h4⟩ := app_split h (by rw [bn_len]; simp)
    rw [spTs, xTs, List.map_append, sp_x f t br k nb h3, sp_xL f ts br _ _ h4]
end
def isB (q : Nat × Tr × List Nat) : Bool := decide (root q.2.1 = bi)
def isU (q : Nat × Tr × List Nat) : Bool := decide (root q.2.1 = us)
mutual
theorem x_b : ∀ (t : Tr) (br : List Nat) (k nb : Nat), ((xT t br k nb).filter isB).map (·.1) = bnT t k ∧ ((xT t br k nb).filter isB).map (fun q => label q.2.1) = bT t ∧ ((xT t br k nb).filter isB).map (·.2.2) = aT t br nb ∧ ((xT t br k nb).filter isU).map (fun q => (label q.2.1, q.2.2)) = uT t br nb
  | .use x, br, k, nb => by rw [xT, bnT, bT, aT, uT]; exact ⟨rfl, rfl, rfl, rfl⟩
  | .join l ps, br, k, nb => by
    obtain ⟨h1, h2, h3, h4⟩ := x_bL ps br (k + 1) nb
    rw [xT, bnT, bT, aT, uT, List.filter_cons_of_neg (by simp [isB, root]), List.filter_cons_of_neg (by simp [isU, root])]
    exact ⟨h1, h2, h3, h4⟩
  | .bind x a b, br, k, nb => by
    obtain ⟨h1, h2, h3, h4⟩ := x_bL a br (k + 1) (nb + 1)
    obtain ⟨g1, g2, g3, g4⟩ := x_b b (br ++ [nb]) (k + 1 + szL a) (nb + 1 + (bTs a).length)
    rw [xT, bnT, bT, aT, uT, List.filter_cons_of_pos (by simp [isB, root]), List.filter_cons_of_neg (by simp [isU, root]), List.filter_append, List.filter_append]
    simp only [List.map_cons, List.map_append, h1, h2, h3, h4, g1, g2, g3, g4]
    refine ⟨?_, ?_, ?_, ?_⟩ <;> first | rfl | trivial
theorem x_bL : ∀ (ts : List Tr) (br : List Nat) (k nb : Nat), ((xTs ts br k nb).filter isB).map (·.1) = bnTs ts k ∧ ((xTs ts br k nb).filter isB).map (fun q => label q.2.1) = bTs ts ∧ ((xTs ts br k nb).filter isB).map (·.2.2) = aTs ts br nb ∧ ((xTs ts br k nb).filter isU).map (fun q => (label q.2.1, q.2.2)) = uTs ts br nb
  | [], br, k, nb => by rw [xTs, bnTs, bTs, aTs, uTs]; exact ⟨rfl, rfl, rfl, rfl⟩
  | t :: ts, br, k, nb => by
    obtain ⟨h1, h2, h3, h4⟩ := x_b t br k nb
    obtain ⟨g1, g2, g3, g4⟩ := x_bL ts br (k + t.sz) (nb + (bT t).length)
    rw [xTs, bnTs, bTs, aTs, uTs, List.filter_append, List.filter_append]
    simp only [List.map_append, h1, h2, h3, h4, g1, g2, g3, g4]
    refine ⟨?_, ?_, ?_, ?_⟩ <;> first | rfl | trivial
end
mutual
theorem bn_ord : ∀ (t : Tr) (k : Nat), (bnT t k).Nodup ∧ ∀ x ∈ bnT t k, k ≤ x ∧ x < k + t.sz
  | .use x, k => by rw [bnT]; exact ⟨List.nodup_nil, fun x h => by cases h⟩
  | .join l ps, k => by
    obtain ⟨h1, h2⟩ := bn_ordL ps (k + 1)
    rw [bnT, Tr.sz]
    exact ⟨h1, fun x hx => by have := h2 x hx; omega⟩
  | .bind x a b, k => by
    obtain ⟨h1, h2⟩ := bn_ordL a (k + 1)
    obtain ⟨h3, h4⟩ := bn_ord b (k + 1 + szL a)
    rw [bnT, Tr.sz]
    refine ⟨?_, fun x hx => ?_⟩
    · rw [List.nodup_cons, List.nodup_append]
      refine ⟨fun hx => ?_, h1, h3, fun u hu v hv e => ?_⟩
      · rcases List.mem_append.mp hx with hx | hx
        · have := h2 _ hx; omega
        · have := h4 _ hx; omega
      · have := h2 u hu; have := h4 v hv; omega
    · rcases List.mem_cons.mp hx with rfl | hx
      · omega
      · rcases List.mem_append.mp hx with hx | hx
        · have := h2 _ hx; omega
        · have := h4 _ hx; omega
theorem bn_ordL : ∀ (ts : List Tr) (k : Nat), (bnTs ts k).Nodup ∧ ∀ x ∈ bnTs ts k, k ≤ x ∧ x < k + szL ts
  | [], k => by rw [bnTs]; exact ⟨List.nodup_nil, fun x h => by cases h⟩
  | t :: ts, k => by
    obtain ⟨h1, h2⟩ := bn_ord t k
    obtain ⟨h3, h4⟩ := bn_ordL ts (k + t.sz)
    rw [bnTs, szL]
    refine ⟨?_, fun x hx => ?_⟩
    · rw [List.nodup_append]
      exact ⟨h1, h3, fun u hu v hv e => by have := h2 u hu; have := h4 v hv; omega⟩
    · rcases List.mem_append.mp hx with hx | hx
      · have := h2 _ hx; omega
      · have := h4 _ hx; omega
end
/-- the node of a binder -/
def bnF (t : Tr) (b : Nat) : Nat := (bnT t 0).getD b 0
theorem bn_range (t : Tr) : bnT t 0 = (List.range' 0 (bT t).length).map (bnF t) := by
  apply List.ext_getElem?
  intro i
  rw [List.getElem?_map]
  by_cases h : i < (bT t).length
  · have h' : i < (bnT t 0).length := by rw [bn_len]; exact h
    rw [List.getElem?_range' h, List.getElem?_eq_getElem h']
    simp [bnF, List.getD, List.getElem?_eq_getElem h']
  · rw [List.getElem?_eq_none (by rw [bn_len]; omega), List.getElem?_eq_none (by simp; omega)]; rfl
theorem sp_root (t : Tr) : spT t [] 0 = (xT t [] 0 0).map fun q => (q.1, q.2.1, q.2.2.map (bnF t)) := sp_x (bnF t) t [] 0 0 (bn_range t)
theorem fi_nat : ∀ (xs : List Nat) (b x : Nat), xs.Nodup → xs[b]? = some x → (xs.map fun y : Nat => PyData.int (y : Int)).findIdx? (fun z => PyData.eqv z (.int (x : Int))) = some b
  | [], b, x, _, h => by simp at h
  | y :: ys, b, x, hn, h => by
    rw [List.nodup_cons] at hn
    rw [List.map_cons, List.findIdx?_cons]
    cases b with
    | zero =>
      simp at h; subst h
      simp [PyData.eqv]
    | succ b =>
      have h' : ys[b]? = some x := by simpa using h
      have hne : y ≠ x := fun e => hn.1 (e ▸ List.mem_of_getElem? h')
      have : PyData.eqv (.int (y : Int)) (.int (x : Int)) = false := by
        simp only [PyData.eqv]
        exact beq_eq_false_iff_ne.mpr (by omega)
      rw [this, fi_nat ys b x hn.2 h']
      rfl
theorem idx_nats {xs : List Nat} {b x : Nat} (hn : xs.Nodup) (h : xs[b]? = some x) (S : Store) : pm .index (.lst (natsD xs)) [iD x] S = some (iD b, S) := by
  have e1 := shp_nats xs
  have e2 : shp (.int (x : Int)) = true := by simp [shp, SeqAt.shaped, PyData.canLay0, PyData.depth]
  have e3 : pyS S (.lst (natsD xs)) = some (.list (xs.map fun x : Nat => PyData.int (x : Int))) := by
    simp only [pyS, pyD, (nats_lay xs).1]
  have e4 : pyS S (iD x) = some (.int (x : Int)) := rfl
  simp only [LN.pm, e3, e4, e1, e2, Bool.and_self, if_true, fi_nat xs b x hn h]
end Sp

set_option Elab.async false
set_option linter.all false
set_option maxRecDepth 100000
namespace Sp
open LN LP PySem
variable {p : Prog}
mutual
theorem x_lt : ∀ (t : Tr) (br : List Nat) (k nb : Nat), (∀ b ∈ br, b < nb) → ∀ q ∈ xT t br k nb, ∀ b ∈ q.2.2, b < nb + (bT t).length
  | .use x, br, k, nb, h, q, hq, b, hb => by
    rw [xT] at hq; simp at hq; subst hq; have := h b hb; omega
  | .join l ps, br, k, nb, h, q, hq, b, hb => by
    rw [xT] at hq
    rw [bT]
    rcases List.mem_cons.mp hq with rfl | hq
    · have := h b hb; omega
    · exact x_ltL ps br _ nb h q hq b hb
  | .bind x a c, br, k, nb, h, q, hq, b, hb => by
    rw [xT] at hq
    rw [bT, List.length_cons, List.length_append]
    rcases List.mem_cons.mp hq with rfl | hq
    · have := h b hb; omega
    · rcases List.mem_append.mp hq with hq | hq
      · have := x_ltL a br _ (nb + 1) (fun b hb => by have := h b hb; omega) q hq b hb; omega
      · have := x_lt c (br ++ [nb]) _ (nb + 1 + (bTs a).length) (fun b hb => by
          rcases List.mem_append.mp hb with hb | hb
          · have := h b hb; omega
          · simp at hb; omega) q hq b hb
        omega
theorem x_ltL : ∀ (ts : List Tr) (br : List Nat) (k nb : Nat), (∀ b ∈ br, b < nb) → ∀ q ∈ xTs ts br k nb, ∀ b ∈ q.2.2, b < nb + (bTs ts).length
  | [], br, k, nb, h, q, hq, b, hb => by rw [xTs] at hq; cases hq
  | t :: ts, br, k, nb, h, q, hq, b, hb => by
    rw [xTs] at hq
    rw [bTs, List.length_append]
    rcases List.mem_append.mp hq with hq | hq
    · have := x_lt t br k nb h q hq b hb; omega
    · have := x_ltL ts br _ (nb + (bT t).length) (fun b hb => by have := h b hb; omega) q hq b hb; omega
end
mutual
theorem x_ok : ∀ (t : Tr) (br : List Nat) (k nb : Nat), t.ok = true → ∀ q ∈ xT t br k nb, nmOk (label q.2.1) = true
  | .use x, br, k, nb, h, q, hq => by rw [xT] at hq; simp at hq; subst hq; exact h
  | .join l ps, br, k, nb, h, q, hq => by
    rw [Tr.ok, Bool.and_eq_true] at h
    rw [xT] at hq
    rcases List.mem_cons.mp hq with rfl | hq
    · exact h.1
    · exact x_okL ps br _ nb h.2 q hq
  | .bind x a b, br, k, nb, h, q, hq => by
    rw [Tr.ok, Bool.and_eq_true, Bool.and_eq_true] at h
    rw [xT] at hq
    rcases List.mem_cons.mp hq with rfl | hq
    · exact h.1
    · rcases List.mem_append.mp hq with hq | hq
      · exact x_okL a br _ _ h.2.1 q hq
      · exact x_ok b _ _ _ h.2.2 q hq
theorem x_okL : ∀ (ts : List Tr) (br : List Nat) (k nb : Nat), okL ts = true → ∀ q ∈ xTs ts br k nb, nmOk (label q.2.1) = true
  | [], br, k, nb, h, q, hq => by rw [xTs] at hq; cases hq
  | t :: ts, br, k, nb, h, q, hq => by
    rw [okL, Bool.and_eq_true] at h
    rw [xTs] at hq
    rcases List.mem_append.mp hq with hq | hq
    · exact x_ok t br k nb h.1 q hq
    · exact x_okL ts br _ _ h.2 q hq
end
/-- the tree's spots, as the law has them -/
def spX (t : Tr) : List (Nat × Tr × List Nat) := xT t [] 0 0
def xD (t : Tr) (q : Nat × Tr × List Nat) : D := .lst [iD q.1, q.2.1.d, .lst (natsD (q.2.2.map (bnF t)))]
theorem sp_xD (t : Tr) : (spT t [] 0).map spD = (spX t).map (xD t) := by rw [sp_root, List.map_map]; rfl
theorem spX_len (t : Tr) : (spX t).length = t.sz := by
  have h1 := sp_len t [] 0
  have h2 := congrArg List.length (sp_root t)
  simp at h2
  show (xT t [] 0 0).length = _
  omega
theorem spX_ar {t : Tr} (hL : Lim t) {q : Nat × Tr × List Nat} (hq : q ∈ spX t) : (∀ b ∈ q.2.2, b < (bT t).length) := fun b hb => by
  have := x_lt t [] 0 0 (by simp) q hq b hb; omega
mutual
theorem x_ar : ∀ (t : Tr) (br : List Nat) (k nb c : Nat), br.length + t.dp ≤ c → ∀ q ∈ xT t br k nb, q.2.2.length ≤ c
  | .use x, br, k, nb, c, h, q, hq => by rw [xT] at hq; simp at hq; subst hq; rw [Tr.dp] at h; show br.length ≤ c; omega
  | .join l ps, br, k, nb, c, h, q, hq => by
    rw [xT] at hq; rw [Tr.dp] at h
    rcases List.mem_cons.mp hq with rfl | hq
    · show br.length ≤ c; omega
    · exact x_arL ps br _ _ c (by omega) q hq
  | .bind x a b, br, k, nb, c, h, q, hq => by
    rw [xT] at hq; rw [Tr.dp] at h
    rcases List.mem_cons.mp hq with rfl | hq
    · show br.length ≤ c; omega
    · rcases List.mem_append.mp hq with hq | hq
      · exact x_arL a br _ _ c (by omega) q hq
      · exact x_ar b _ _ _ c (by simp; omega) q hq
theorem x_arL : ∀ (ts : List Tr) (br : List Nat) (k nb c : Nat), br.length + dpL ts ≤ c → ∀ q ∈ xTs ts br k nb, q.2.2.length ≤ c
  | [], br, k, nb, c, h, q, hq => by rw [xTs] at hq; cases hq
  | t :: ts, br, k, nb, c, h, q, hq => by
    rw [xTs] at hq; rw [dpL] at h
    rcases List.mem_append.mp hq with hq | hq
    · exact x_ar t br _ _ c (by omega) q hq
    · exact x_arL ts br _ _ c (by omega) q hq
end
theorem spX_ln {t : Tr} (hL : Lim t) {q : Nat × Tr × List Nat} (hq : q ∈ spX t) : q.2.2.length ≤ 100 := x_ar t [] 0 0 100 (by have := hL.dp; simp; omega) q hq
abbrev kN : List Nat := [110,97,109,101,115]
abbrev kU : List Nat := [117,115,101,115]
abbrev kA : List Nat := [97,114,111,117,110,100]
abbrev kL : List Nat := [97,108,108]
abbrev kO : List Nat := [110,111,100,101,115]
def usD (u : Nm × List Nat × Ref) : D := .lst [.str u.1, .lst (natsD u.2.1), refD u.2.2]
/-- the law's page behind S -/
def pgC (t : Tr) (o : Nat) : Cell := .dct [.inr kN, .inr kU, .inr kA, .inr kL, .inr kO] [.lst ((bT t).map .str), .obj (o + 1), .obj (o + 2), .lst ((spX t).map fun q => .lst (natsD q.2.2)), .lst (natsD (bnT t 0))]
def pgS (t : Tr) (S : Store) (us as : List D) : Store := S ++ [pgC t S.length, .lst us, .lst as]
def env12 (t : Tr) (o : Nat) (e4 e5 e6 e7 e8 : Option D) : DEnv := [some t.d, some (.lst ((spX t).map (xD t))), some (.lst (natsD (bnT t 0))), some (.obj o), e4, e5, e6, e7, e8, none, none]
theorem pg_at (t : Tr) (S : Store) (us as : List D) : (pgS t S us as)[S.length]? = some (pgC t S.length) ∧ (pgS t S us as)[S.length + 1]? = some (.lst us) ∧ (pgS t S us as)[S.length + 2]? = some (.lst as) := by
  refine ⟨?_, ?_, ?_⟩ <;> (unfold pgS; rw [List.getElem?_append_right (by omega)]; simp)
theorem pg_set1 (t : Tr) (S : Store) (us as us' : List D) : (pgS t S us as).set (S.length + 1) (.lst us') = pgS t S us' as := by
  unfold pgS; rw [List.set_append_right _ _ (by omega)]; simp
theorem pg_set2 (t : Tr) (S : Store) (us as as' : List D) : (pgS t S us as).set (S.length + 2) (.lst as') = pgS t S us as' := by
  unfold pgS; rw [List.set_append_right _ _ (by omega)]; simp
theorem pg_get {T : Tab} {t : Tr} {S : Store} {us as : List D} {env : DEnv} {i : Nat} {s : List Nat} {d : D} (hi : env[i]? = some (some (.obj S.length))) (hd : getK [.inr kN, .inr kU, .inr kA, .inr kL, .inr kO] [.lst ((bT t).map .str), .obj (S.length + 1), .obj (S.length + 2), .lst ((spX t).map fun q => .lst (natsD q.2.2)), .lst (natsD (bnT t 0))] (.inr s) = some d) : evE T (.dget (.var i) (.con (.str s))) env (pgS t S us as) = some (d, pgS t S us as) := by
  rw [e_dget, v_of hi]
  simp only [e_con, keyD, (pg_at t S us as).1, pgC, hd]
/-- within: the binders' numbers -/
theorem within_lc {T : Tab} {t : Tr} (hL : Lim t) {q : Nat × Tr × List Nat} (hq : q ∈ spX t) {env : DEnv} {S : Store} (h2 : env[2]? = some (some (.lst (natsD (bnT t 0))))) (h6 : env[6]? = some (some (.lst (natsD (q.2.2.map (bnF t)))))) (hl : env.length = 11) : evE T (.lc false [9] (.nm 9) 0 [.var 6] none (.pm .index (.var 2) [.var 9])) env S = some (.lst (natsD q.2.2), S) := by
  rw [E_lcm (enc := fun b => iD (bnF t b)) (g := iD) (ys := q.2.2) (ds := [.lst (natsD (q.2.2.map (bnF t)))]) (S1 := S)]
  · rw [nl_f]
  · rw [l_cons, v_of h6]; simp only [l_nil]
  · exact .inl (by simp [srcD, List.map_map, Function.comp_def])
  · intro b hb
    have hbl := spX_ar hL hq b hb
    have hb2 : (bnT t 0)[b]? = some (bnF t b) := by
      have : b < (bnT t 0).length := by rw [bn_len]; exact hbl
      rw [List.getElem?_eq_getElem this]; simp [bnF, List.getD, List.getElem?_eq_getElem this]
    have g2 : ((wipeD env [9]).set 9 (some (iD (bnF t b))))[2]? = some (some (.lst (natsD (bnT t 0)))) := by
      rw [List.getElem?_set_ne (by omega), wipeD, wipeD, List.getElem?_set_ne (by omega)]; exact h2
    have g9 : ((wipeD env [9]).set 9 (some (iD (bnF t b))))[9]? = some (some (iD (bnF t b))) := by
      rw [List.getElem?_set_self (by simp [wipeD, hl])]
    simp only [lcStep, t_nm, c_none, e_pm, v_of g2, r_lst, if_true, l_cons, v_of g9, l_nil, idx_nats (bn_ord t 0).1 hb2]
  · have := spX_ln hL hq; omega
/-- what a use means, as the page tells it -/
theorem meant_eq (t : Tr) (q : Nat × Tr × List Nat) : meantOf (bT t) (label q.2.1) q.2.2 = match (q.2.2.filter fun b => decide ((bT t)[b]? = some (label q.2.1))).getLast? with | some b => .inl b | none => .inr (label q.2.1) := rfl
def uOf (t : Tr) (q : Nat × Tr × List Nat) : Nm × List Nat × Ref := (label q.2.1, q.2.2, meantOf (bT t) (label q.2.1) q.2.2)
/-- one turn of the page's loop -/
theorem page_turn {T : Tab} {t : Tr} (hL : Lim t) {q : Nat × Tr × List Nat} (hq : q ∈ spX t) {S : Store} {us as : List D} (hu : us.length ≤ 1000) (ha : as.length ≤ 1000) (e7 e8 : Option D) :
    ∃ e8', exL T [(.asg (.nm 7) (.lc false [9] (.nm 9) 0 [(.var 6)] none (.pm .index (.var 2) [(.var 9)]))), (.ite (.p2 .eq (.p2 .idx (.var 5) (.con (.int 0))) (.con (.str bi))) [(.drop (.pm .append (.dget (.var 3) (.con (.str kA))) [(.var 7)]))] []), (.ite (.p2 .eq (.p2 .idx (.var 5) (.con (.int 0))) (.con (.str Sp.us))) [(.asg (.nm 8) (.lc false [10] (.nm 10) 0 [(.var 7)] (some (.p2 .eq (.p2 .idx (.dget (.var 3) (.con (.str kN))) (.var 10)) (.p2 .idx (.var 5) (.con (.int 1))))) (.var 10))), (.drop (.pm .append (.dget (.var 3) (.con (.str kU))) [(.disp .lst [false,false,false] [(.p2 .idx (.var 5) (.con (.int 1))),(.var 7),(.ite (.p2 .ne (.var 8) (.disp .lst [] [])) (.p2 .idx (.var 8) (.neg (.con (.int 1)))) (.p2 .idx (.var 5) (.con (.int 1))))])]))] [])]
      (env12 t S.length (some (iD q.1)) (some q.2.1.d) (some (.lst (natsD (q.2.2.map (bnF t))))) e7 e8) (pgS t S us as) = some (.nx (env12 t S.length (some (iD q.1)) (some q.2.1.d) (some (.lst (natsD (q.2.2.map (bnF t))))) (some (.lst (natsD q.2.2))) e8') (pgS t S (us ++ if isU q then [usD (uOf t q)] else []) (as ++ if isB q then [.lst (natsD q.2.2)] else []))) := by
  obtain ⟨g0, g1, g2⟩ := pg_at t S us as
  let ev1 : DEnv := env12 t S.length (some (iD q.1)) (some q.2.1.d) (some (.lst (natsD (q.2.2.map (bnF t))))) (some (.lst (natsD q.2.2))) e8
  have s0 : ex T (.asg (.nm 7) (.lc false [9] (.nm 9) 0 [(.var 6)] none (.pm .index (.var 2) [(.var 9)]))) (env12 t S.length (some (iD q.1)) (some q.2.1.d) (some (.lst (natsD (q.2.2.map (bnF t))))) e7 e8) (pgS t S us as) = some (.nx ev1 (pgS t S us as)) := by
    rw [s_asg, within_lc hL hq rfl rfl rfl]; simp [env12, ev1]
  have s1 : ex T (.ite (.p2 .eq (.p2 .idx (.var 5) (.con (.int 0))) (.con (.str bi))) [(.drop (.pm .append (.dget (.var 3) (.con (.str kA))) [(.var 7)]))] []) ev1 (pgS t S us as) = some (.nx ev1 (pgS t S us (as ++ if isB q then [.lst (natsD q.2.2)] else []))) := by
    by_cases hb : root q.2.1 = bi
    · rw [if_t (ev_bi (t := q.2.1) 5 rfl) (decide_eq_true hb)]
      refine s_nx ?_ s_nil
      rw [s_drop, e_pm, pg_get (i := 3) rfl (d := .obj (S.length + 2)) rfl]
      simp only [r_obj g2, if_true, l_cons, v_of (T := T) (env := ev1) (i := 7) (d := .lst (natsD q.2.2)) rfl, l_nil, m_app g2]
      rw [if_pos (by omega), pg_set2]
      simp [isB, hb]
    · rw [if_f (ev_bi (t := q.2.1) 5 rfl) (decide_eq_false hb), s_nil]
      simp [isB, hb]
  obtain ⟨as', has⟩ : ∃ as', as' = as ++ (if isB q then [D.lst (natsD q.2.2)] else []) := ⟨_, rfl⟩
  rw [← has] at s1 ⊢
  obtain ⟨g0, g1, g2⟩ := pg_at t S us as'
  by_cases hu' : root q.2.1 = Sp.us
  · let some_ := q.2.2.filter fun b => decide ((bT t)[b]? = some (label q.2.1))
    let ev2 : DEnv := env12 t S.length (some (iD q.1)) (some q.2.1.d) (some (.lst (natsD (q.2.2.map (bnF t))))) (some (.lst (natsD q.2.2))) (some (.lst (natsD some_)))
    have hlok := x_ok t [] 0 0 hL.ok q hq
    have hbd := hL.bd
    have sA : ex T (.asg (.nm 8) (.lc false [10] (.nm 10) 0 [(.var 7)] (some (.p2 .eq (.p2 .idx (.dget (.var 3) (.con (.str kN))) (.var 10)) (.p2 .idx (.var 5) (.con (.int 1))))) (.var 10))) ev1 (pgS t S us as') = some (.nx ev2 (pgS t S us as')) := by
      rw [s_asg, E_lcf (enc := iD) (g := iD) (c := fun b => decide ((bT t)[b]? = some (label q.2.1))) (ys := q.2.2) (ds := [.lst (natsD q.2.2)]) (S1 := pgS t S us as')]
      · rw [nl_f]; simp [env12, ev1, ev2, some_]
      · rw [l_cons, v_of (d := .lst (natsD q.2.2)) rfl]; simp only [l_nil]
      · exact .inl (by simp [srcD])
      · intro b hb
        have hbl := spX_ar hL hq b hb
        let ev3 : DEnv := [some t.d, some (.lst ((spX t).map (xD t))), some (.lst (natsD (bnT t 0))), some (.obj S.length), some (iD q.1), some q.2.1.d, some (.lst (natsD (q.2.2.map (bnF t)))), some (.lst (natsD q.2.2)), e8, none, some (iD b)]
        have hw : setT (pgS t S us as') (.nm 10) (iD b) (wipeD ev1 [10]) = some ev3 := by rw [t_nm]; rfl
        have hnb : ((bT t).map D.str)[b]? = some (.str (bT t)[b]) := by rw [List.getElem?_map, List.getElem?_eq_getElem hbl]; rfl
        have heq := eq_str (sOk_nm (nm_bT hL.ok _ (List.getElem_mem hbl))) (sOk_nm hlok) (pgS t S us as')
        have hcd : evE T (.p2 .eq (.p2 .idx (.dget (.var 3) (.con (.str kN))) (.var 10)) (.p2 .idx (.var 5) (.con (.int 1)))) ev3 (pgS t S us as') = some (.bl (decide ((bT t)[b] = label q.2.1)), pgS t S us as') := by
          rw [e_p2, e_p2, pg_get (i := 3) rfl (d := .lst ((bT t).map .str)) rfl]
          simp only [v_of (T := T) (env := ev3) (i := 10) (d := iD b) rfl, o_idxl, ixN, hnb, e_p2, v_of (T := T) (env := ev3) (i := 5) (d := q.2.1.d) rfl, e_con, ix1, o_eq, heq, Option.map_some]
        simp only [lcStep, hw, c_some, hcd, v_of (T := T) (env := ev3) (i := 10) (d := iD b) rfl, List.getElem?_eq_getElem hbl, Option.some.injEq]
        cases decide ((bT t)[b] = label q.2.1) <;> rfl
      · have := spX_ln hL hq; omega
    refine ⟨some (.lst (natsD some_)), s_nx s0 (s_nx s1 (s_nx ?_ s_nil))⟩
    rw [if_t (ev_us (t := q.2.1) 5 rfl) (decide_eq_true hu')]
    refine s_nx sA (s_nx ?_ s_nil)
    have hne : p2 .ne (.lst (natsD some_)) (.lst []) (pgS t S us as') = some (.bl (!some_.isEmpty)) := by rw [o_ne, eq_nats_nil]; rfl
    have hix : evE T (.p2 .idx (.var 5) (.con (.int 1))) ev2 (pgS t S us as') = some (.str (label q.2.1), pgS t S us as') := by
      rw [e_p2, v_of (d := q.2.1.d) rfl]; simp only [e_con, ix1]
    have hr : evE T (.ite (.p2 .ne (.var 8) (.disp .lst [] [])) (.p2 .idx (.var 8) (.neg (.con (.int 1)))) (.p2 .idx (.var 5) (.con (.int 1)))) ev2 (pgS t S us as') = some (refD (meantOf (bT t) (label q.2.1) q.2.2), pgS t S us as') := by
      rw [e_ite, e_p2, v_of (d := .lst (natsD some_)) rfl]
      simp only [e_disp, p_nil, List.length_nil, z0, if_true, hne]
      rw [meant_eq]
      cases hl : some_.getLast? with
      | none =>
        have h0 : some_ = [] := by simpa using hl
        have h1 : some_.isEmpty = true := by rw [h0]; rfl
        rw [h1]
        simp only [Bool.not_true, hix]
        rfl
      | some b =>
        have h1 : some_.isEmpty = false := by cases h : some_ with | nil => rw [h] at hl; cases hl | cons _ _ => rfl
        rw [h1]
        simp only [Bool.not_false, e_p2, v_of (T := T) (env := ev2) (i := 8) (d := .lst (natsD some_)) rfl, e_neg, e_con, o_idxl, ix_last, hl, Option.map_some]
        rfl
    have hdis : evE T (.disp .lst [false,false,false] [(.p2 .idx (.var 5) (.con (.int 1))),(.var 7),(.ite (.p2 .ne (.var 8) (.disp .lst [] [])) (.p2 .idx (.var 8) (.neg (.con (.int 1)))) (.p2 .idx (.var 5) (.con (.int 1))))]) ev2 (pgS t S us as') = some (usD (uOf t q), pgS t S us as') := by
      simp only [e_disp, p_cons, p_nil, hix, v_of (T := T) (env := ev2) (i := 7) (d := .lst (natsD q.2.2)) rfl, hr, List.headD_cons, List.tail_cons, List.headD_nil, Bool.false_eq_true, if_false, List.length_cons, List.length_nil, z3, if_true]
      rfl
    rw [s_drop, e_pm, pg_get (i := 3) rfl (d := .obj (S.length + 1)) rfl]
    simp only [r_obj g1, if_true, l_cons, hdis, l_nil, m_app g1]
    rw [if_pos (by omega), pg_set1]
    simp [isU, hu', ev2]
  · refine ⟨e8, s_nx s0 (s_nx s1 (s_nx ?_ s_nil))⟩
    rw [if_f (ev_us (t := q.2.1) 5 rfl) (decide_eq_false hu'), s_nil]
    simp [isU, hu', ev1]
end Sp

set_option Elab.async false
set_option linter.all false
set_option maxRecDepth 100000
namespace Sp
open LN LP PySem
variable {p : Prog}
/-- the page's uses, the page's binders around -/
def pgU (t : Tr) : List D := (uT t [] 0).map fun u => usD (u.1, u.2, meantOf (bT t) u.1 u.2)
def pgA (t : Tr) : List D := (aT t [] 0).map fun a => .lst (natsD a)
theorem fm_bool {α β : Type} (c : α → Bool) (g : α → β) : ∀ l : List α, l.flatMap (fun a => if c a then [g a] else []) = (l.filter c).map g
  | [] => rfl
  | a :: l => by
    rw [List.flatMap_cons, fm_bool c g l]
    by_cases h : c a = true
    · simp [h]
    · simp [h]
theorem c412 (hp : Has p [410, 411, 412]) {t : Tr} (hL : Lim t) {n : Nat} (hn : t.dp + 2 ≤ n) (S : Store) : (tabN p n).fn 412 [t.d] S = some (.obj S.length, pgS t S (pgU t) (pgA t)) := by
  obtain ⟨m, rfl⟩ : ∃ m, n = m + 1 := ⟨n - 1, by omega⟩
  have hsz := hL.sz; have hdp := hL.dp; have hbd := hL.bd
  have h411 := fun S => c411 (p := p) (hp.mono (by decide)) t m [] 0 (by omega) (by omega) (by simp; omega) S
  have hxl := spX_len t
  let T := tabN p m
  let srcX : D := .lst ((spX t).map (xD t))
  let ev0 : DEnv := [some t.d, none, none, none, none, none, none, none, none, none, none]
  let ev1 : DEnv := [some t.d, some srcX, none, none, none, none, none, none, none, none, none]
  let ev2 : DEnv := [some t.d, some srcX, some (.lst (natsD (bnT t 0))), none, none, none, none, none, none, none, none]
  have s0 : ex T (B412.getD 0 .nev) ev0 S = some (.nx ev1 S) := by
    show ex T (.asg (.nm 1) (.call 411 [(.var 0),(.disp .lst [] []),(.con (.int 0))])) ev0 S = _
    have h := h411 S
    rw [sp_xD] at h
    have h' : T.fn 411 [t.d, .lst [], .int 0] S = some (srcX, S) := h
    simp [ev0, ev1, z0, h']
  have turn : ∀ (env : DEnv) (S' : Store) (q : Nat × Tr × List Nat) (h3 : 6 < env.length), setT S' (.tup [.nm 4, .nm 5, .nm 6]) (xD t q) env = some (((env.set 4 (some (iD q.1))).set 5 (some q.2.1.d)).set 6 (some (.lst (natsD (q.2.2.map (bnF t)))))) := fun env S' q h3 => by
    simp [xD]
  have eN : ((spX t).filter isB).map (fun q => D.str (label q.2.1)) = (bT t).map .str := by
    have := (x_b t [] 0 0).2.1
    rw [← this, List.map_map]; rfl
  have eK : ((spX t).filter isB).map (fun q => iD q.1) = natsD (bnT t 0) := by
    have := (x_b t [] 0 0).1
    rw [← this]
    show _ = List.map iD _
    rw [List.map_map]; rfl
  have wk : ∀ S', Walk 0 [srcX] S' ((spX t).map (xD t)) := fun S' => .inl (by simp [srcD, srcX])
  have s1 : ex T (B412.getD 1 .nev) ev1 S = some (.nx ev2 S) := by
    show ex T (.asg (.nm 2) (.lc false [4,5,6] (.tup [(.nm 4),(.nm 5),(.nm 6)]) 0 [(.var 1)] (some (.p2 .eq (.p2 .idx (.var 5) (.con (.int 0))) (.con (.str bi)))) (.var 4))) ev1 S = _
    rw [s_asg, E_lcf (enc := xD t) (g := fun q => iD q.1) (c := isB) (ys := spX t) (ds := [srcX]) (S1 := S)]
    · rw [nl_f, eK]; simp [ev1, ev2]
    · rw [l_cons, v_of (d := srcX) rfl]; simp only [l_nil]
    · exact wk S
    · intro q hq
      have hc := ev_bi (T := T) (env := [some t.d, some srcX, none, none, some (iD q.1), some q.2.1.d, some (.lst (natsD (q.2.2.map (bnF t)))), none, none, none, none]) (S := S) (t := q.2.1) 5 rfl
      simp only [lcStep, turn (wipeD ev1 [4, 5, 6]) S q (by simp [ev1, wipeD]), c_some]
      show (match (match evE T (.p2 .eq (.p2 .idx (.var 5) (.con (.int 0))) (.con (.str bi))) [some t.d, some srcX, none, none, some (iD q.1), some q.2.1.d, some (.lst (natsD (q.2.2.map (bnF t)))), none, none, none, none] S with | some (.bl b, S1) => some (b, S1) | _ => none) with
        | some (true, S3) => match evE T (.var 4) [some t.d, some srcX, none, none, some (iD q.1), some q.2.1.d, some (.lst (natsD (q.2.2.map (bnF t)))), none, none, none, none] S3 with
          | some (y, S4) => some (some y, S4)
          | none => none
        | some (false, S3) => some (none, S3)
        | none => none) = _
      have hv4 : evE T (.var 4) [some t.d, some srcX, none, none, some (iD q.1), some q.2.1.d, some (.lst (natsD (q.2.2.map (bnF t)))), none, none, none, none] S = some (iD q.1, S) := v_of rfl S
      rw [hc]
      unfold isB
      cases decide (root q.2.1 = bi)
      · rfl
      · simp only [hv4, if_true]
    · omega
  -- the page's cells
  let S1 : Store := S ++ [.dct [] []]
  let pg0 : Store := S ++ [.dct [.inr kN, .inr kU, .inr kA] [.lst ((bT t).map .str), .obj (S.length + 1), .obj (S.length + 2)], .lst [], .lst []]
  let ev3 : DEnv := [some t.d, some srcX, some (.lst (natsD (bnT t 0))), some (.obj S.length), none, none, none, none, none, none, none]
  have s2 : ex T (B412.getD 2 .nev) ev2 S = some (.nx ev3 pg0) := by
    show ex T (.asg (.nm 3) (.dd [.inr kN, .inr kU, .inr kA] [(.lc false [4,5,6] (.tup [(.nm 4),(.nm 5),(.nm 6)]) 0 [(.var 1)] (some (.p2 .eq (.p2 .idx (.var 5) (.con (.int 0))) (.con (.str bi)))) (.p2 .idx (.var 5) (.con (.int 1)))),(.disp .cell [] []),(.disp .cell [] [])])) ev2 S = _
    have hn : evE T (.lc false [4,5,6] (.tup [(.nm 4),(.nm 5),(.nm 6)]) 0 [(.var 1)] (some (.p2 .eq (.p2 .idx (.var 5) (.con (.int 0))) (.con (.str bi)))) (.p2 .idx (.var 5) (.con (.int 1)))) ev2 S1 = some (.lst ((bT t).map .str), S1) := by
      rw [E_lcf (enc := xD t) (g := fun q => .str (label q.2.1)) (c := isB) (ys := spX t) (ds := [srcX]) (S1 := S1)]
      · rw [nl_f, eN]
      · rw [l_cons, v_of (d := srcX) rfl]; simp only [l_nil]
      · exact wk S1
      · intro q hq
        have hc := ev_bi (T := T) (env := [some t.d, some srcX, some (.lst (natsD (bnT t 0))), none, some (iD q.1), some q.2.1.d, some (.lst (natsD (q.2.2.map (bnF t)))), none, none, none, none]) (S := S1) (t := q.2.1) 5 rfl
        have hv : evE T (.p2 .idx (.var 5) (.con (.int 1))) [some t.d, some srcX, some (.lst (natsD (bnT t 0))), none, some (iD q.1), some q.2.1.d, some (.lst (natsD (q.2.2.map (bnF t)))), none, none, none, none] S1 = some (.str (label q.2.1), S1) := by
          rw [e_p2, v_of (d := q.2.1.d) rfl]; simp only [e_con, ix1]
        simp only [lcStep, turn (wipeD ev2 [4, 5, 6]) S1 q (by simp [ev2, wipeD]), c_some]
        show (match (match evE T (.p2 .eq (.p2 .idx (.var 5) (.con (.int 0))) (.con (.str bi))) [some t.d, some srcX, some (.lst (natsD (bnT t 0))), none, some (iD q.1), some q.2.1.d, some (.lst (natsD (q.2.2.map (bnF t)))), none, none, none, none] S1 with | some (.bl b, S1) => some (b, S1) | _ => none) with
          | some (true, S3) => match evE T (.p2 .idx (.var 5) (.con (.int 1))) [some t.d, some srcX, some (.lst (natsD (bnT t 0))), none, some (iD q.1), some q.2.1.d, some (.lst (natsD (q.2.2.map (bnF t)))), none, none, none, none] S3 with
            | some (y, S4) => some (some y, S4)
            | none => none
          | some (false, S3) => some (none, S3)
          | none => none) = _
        rw [hc]
        unfold isB
        cases decide (root q.2.1 = bi)
        · rfl
        · simp only [hv, if_true]
      · omega
    have hdd : evE T (.dd [.inr kN, .inr kU, .inr kA] [(.lc false [4,5,6] (.tup [(.nm 4),(.nm 5),(.nm 6)]) 0 [(.var 1)] (some (.p2 .eq (.p2 .idx (.var 5) (.con (.int 0))) (.con (.str bi)))) (.p2 .idx (.var 5) (.con (.int 1)))),(.disp .cell [] []),(.disp .cell [] [])]) ev2 S = some (.obj S.length, pg0) := by
      rw [evE]
      have hl : evL T [(.lc false [4,5,6] (.tup [(.nm 4),(.nm 5),(.nm 6)]) 0 [(.var 1)] (some (.p2 .eq (.p2 .idx (.var 5) (.con (.int 0))) (.con (.str bi)))) (.p2 .idx (.var 5) (.con (.int 1)))),(.disp .cell [] []),(.disp .cell [] [])] ev2 S1 = some ([.lst ((bT t).map .str), .obj (S.length + 1), .obj (S.length + 2)], S ++ [.dct [] [], .lst [], .lst []]) := by
        simp only [l_cons, hn, l_nil, e_disp, p_nil, List.length_nil, z0, if_true, nl_t]
        simp [S1]
      rw [show S ++ [Cell.dct [] []] = S1 from rfl, hl]
      have hem : emptyD (S ++ [Cell.dct [] [], .lst [], .lst []])[S.length]? = true := by rw [List.getElem?_append_right (Nat.le_refl _)]; simp [emptyD]
      simp only [hem]
      simp [mergeD, putK2, hasK, pg0, List.set_append_right]
    rw [s_asg, hdd]
    simp [ev2, ev3]
  have o0 : pg0[S.length]? = some (.dct [.inr kN, .inr kU, .inr kA] [.lst ((bT t).map .str), .obj (S.length + 1), .obj (S.length + 2)]) := by
    show (S ++ _)[S.length]? = _
    rw [List.getElem?_append_right (Nat.le_refl _)]; simp
  have s3 : ex T (B412.getD 3 .nev) ev3 pg0 = some (.nx (env12 t S.length none none none none none) (pgS t S [] [])) := by
    show ex T (.asI2 3 (.inr kL) (.inr kO) (.lc false [4,5,6] (.tup [(.nm 4),(.nm 5),(.nm 6)]) 0 [(.var 1)] none (.lc false [9] (.nm 9) 0 [(.var 6)] none (.pm .index (.var 2) [(.var 9)]))) (.var 2)) ev3 pg0 = _
    have hall : evE T (.lc false [4,5,6] (.tup [(.nm 4),(.nm 5),(.nm 6)]) 0 [(.var 1)] none (.lc false [9] (.nm 9) 0 [(.var 6)] none (.pm .index (.var 2) [(.var 9)]))) ev3 pg0 = some (.lst ((spX t).map fun q => .lst (natsD q.2.2)), pg0) := by
      rw [E_lcm (enc := xD t) (g := fun q => .lst (natsD q.2.2)) (ys := spX t) (ds := [srcX]) (S1 := pg0)]
      · rw [nl_f]
      · rw [l_cons, v_of (d := srcX) rfl]; simp only [l_nil]
      · exact wk pg0
      · intro q hq
        have hw := within_lc (T := T) hL hq (env := [some t.d, some srcX, some (.lst (natsD (bnT t 0))), some (.obj S.length), some (iD q.1), some q.2.1.d, some (.lst (natsD (q.2.2.map (bnF t)))), none, none, none, none]) (S := pg0) rfl rfl rfl
        simp only [lcStep, turn (wipeD ev3 [4, 5, 6]) pg0 q (by simp [ev3, wipeD]), c_none]
        show (match evE T (.lc false [9] (.nm 9) 0 [(.var 6)] none (.pm .index (.var 2) [(.var 9)])) [some t.d, some srcX, some (.lst (natsD (bnT t 0))), some (.obj S.length), some (iD q.1), some q.2.1.d, some (.lst (natsD (q.2.2.map (bnF t)))), none, none, none, none] pg0 with
          | some (y, S4) => some (some y, S4)
          | none => none) = _
        rw [hw]
      · omega
    rw [ex, hall]
    simp only [v_of (T := T) (env := ev3) (i := 2) (d := .lst (natsD (bnT t 0))) rfl]
    show (match some (some (D.obj S.length)) with
        | some (some d) => match LN.setItem d (dkD (.inr kL)) (.lst ((spX t).map fun q : Nat × Tr × List Nat => D.lst (natsD q.2.2))) pg0 with
          | some S3 => match LN.setItem d (dkD (.inr kO)) (.lst (natsD (bnT t 0))) S3 with
            | some S4 => some (O.nx ev3 S4)
            | none => none
          | none => none
        | _ => none) = _
    let pg1 : Store := S ++ [.dct [.inr kN, .inr kU, .inr kA, .inr kL] [.lst ((bT t).map .str), .obj (S.length + 1), .obj (S.length + 2), .lst ((spX t).map fun q => .lst (natsD q.2.2))], .lst [], .lst []]
    have h1 : LN.setItem (.obj S.length) (dkD (.inr kL)) (.lst ((spX t).map fun q => .lst (natsD q.2.2))) pg0 = some pg1 := by
      simp only [LN.setItem, o0]
      simp [keyD, dkD, putK2, hasK, pg0, pg1, List.set_append_right]
    have o1 : pg1[S.length]? = some (.dct [.inr kN, .inr kU, .inr kA, .inr kL] [.lst ((bT t).map .str), .obj (S.length + 1), .obj (S.length + 2), .lst ((spX t).map fun q => .lst (natsD q.2.2))]) := by
      show (S ++ _)[S.length]? = _
      rw [List.getElem?_append_right (Nat.le_refl _)]; simp
    have h2 : LN.setItem (.obj S.length) (dkD (.inr kO)) (.lst (natsD (bnT t 0))) pg1 = some (pgS t S [] []) := by
      simp only [LN.setItem, o1]
      simp [keyD, dkD, putK2, hasK, pg1, pgS, pgC, List.set_append_right]
    simp only [h1, h2]
    rfl
  obtain ⟨env1, S', e, e4, e5, e6, e7, e8, rfl, rfl⟩ := E_for (T := T) (env := env12 t S.length none none none none none) (tg := .tup [.nm 4, .nm 5, .nm 6]) (k := 0) (it := [.var 1]) (b := [(.asg (.nm 7) (.lc false [9] (.nm 9) 0 [(.var 6)] none (.pm .index (.var 2) [(.var 9)]))), (.ite (.p2 .eq (.p2 .idx (.var 5) (.con (.int 0))) (.con (.str bi))) [(.drop (.pm .append (.dget (.var 3) (.con (.str kA))) [(.var 7)]))] []), (.ite (.p2 .eq (.p2 .idx (.var 5) (.con (.int 0))) (.con (.str Sp.us))) [(.asg (.nm 8) (.lc false [10] (.nm 10) 0 [(.var 7)] (some (.p2 .eq (.p2 .idx (.dget (.var 3) (.con (.str kN))) (.var 10)) (.p2 .idx (.var 5) (.con (.int 1))))) (.var 10))), (.drop (.pm .append (.dget (.var 3) (.con (.str kU))) [(.disp .lst [false,false,false] [(.p2 .idx (.var 5) (.con (.int 1))),(.var 7),(.ite (.p2 .ne (.var 8) (.disp .lst [] [])) (.p2 .idx (.var 8) (.neg (.con (.int 1)))) (.p2 .idx (.var 5) (.con (.int 1))))])]))] [])]) (enc := xD t) (ys := spX t) (ds := [srcX]) (S := pgS t S [] []) (S1 := pgS t S [] [])
    (fun done env S' => ∃ e4 e5 e6 e7 e8, env = env12 t S.length e4 e5 e6 e7 e8 ∧ S' = pgS t S (done.flatMap fun q => if isU q then [usD (uOf t q)] else []) (done.flatMap fun q => if isB q then [.lst (natsD q.2.2)] else []))
    (by rw [l_cons, v_of (d := srcX) rfl]; simp only [l_nil]) (by simp [srcD, srcX]) ⟨none, none, none, none, none, rfl, rfl⟩ (by
    rintro done q rest hd env S' ⟨e4, e5, e6, e7, e8, rfl, rfl⟩
    have hq : q ∈ spX t := by rw [← hd]; simp
    have hdl : done.length ≤ 400 := by
      have := congrArg List.length hd
      simp at this; omega
    have hl1 := fm_len (fun q => if isU q then [usD (uOf t q)] else []) 1 done (fun a _ => by split <;> simp)
    have hl2 := fm_len (fun q : Nat × Tr × List Nat => if isB q then [D.lst (natsD q.2.2)] else []) 1 done (fun a _ => by split <;> simp)
    obtain ⟨e8', ht⟩ := page_turn (T := T) hL hq (S := S) (us := done.flatMap fun q => if isU q then [usD (uOf t q)] else []) (as := done.flatMap fun q : Nat × Tr × List Nat => if isB q then [D.lst (natsD q.2.2)] else []) (by omega) (by omega) e7 e8
    refine ⟨_, _, ?_, some (iD q.1), some q.2.1.d, some (.lst (natsD (q.2.2.map (bnF t)))), some (.lst (natsD q.2.2)), e8', rfl, by rw [List.flatMap_append, List.flatMap_append, List.flatMap_cons, List.flatMap_cons, List.flatMap_nil, List.flatMap_nil, List.append_nil, List.append_nil]⟩
    simp only [forStep, turn _ _ q (show 6 < (env12 t S.length e4 e5 e6 e7 e8).length by simp [env12])]
    exact ht)
  have eU : (spX t).flatMap (fun q => if isU q then [usD (uOf t q)] else []) = pgU t := by
    rw [fm_bool, pgU, ← (x_b t [] 0 0).2.2.2, List.map_map]; rfl
  have eA : (spX t).flatMap (fun q => if isB q then [D.lst (natsD q.2.2)] else []) = pgA t := by
    rw [fm_bool, pgA, ← (x_b t [] 0 0).2.2.1, List.map_map]; rfl
  rw [eU, eA] at e
  rw [fn_at (d := D412) (hp 412 (by decide))]
  refine run_2 rfl rfl (s_nx s0 (s_nx s1 (s_nx s2 (s_nx s3 (s_nx e (s_rt ?_))))))
  show ex T (.ret (.var 3)) _ _ = _
  rw [s_ret, v_of (d := .obj S.length) rfl]
end Sp

set_option Elab.async false
set_option linter.all false
set_option maxRecDepth 100000
namespace Sp
open LN LP PySem
variable {p : Prog}
theorem in_plain_o {n : Nat} {a : D} {xs : List D} {S : Store} {j : Nat} (hj : S[j]? = some (.lst xs)) (ha : plain n a = true) (hx : ∀ x ∈ xs, plain n x = true) (hn : n ≤ 59) : ∃ k, inS S a (.obj j) = some k ∧ (k = true ↔ a ∈ xs) := by
  have hl : plain (n + 1) (.lst xs) = true := List.all_eq_true.mpr hx
  refine ⟨(xs.map (pyP n)).any fun z => PyData.eqv z (pyP n a), ?_, ?_⟩
  · have h0 : pyL xs = some (xs.map (pyP n)) := pyL_map fun x hxx => (plain_py n x (hx x hxx)).1
    have h1 : pyS S (.obj j) = some (.list (xs.map (pyP n))) := by simp only [pyS, hj, h0]
    have h2 : shp (.list (xs.map (pyP n))) = true := shp_plain (d := .lst xs) hl (by omega)
    simp only [inS, pyS_plain ha, h1, shp_plain ha (by omega), h2, Bool.and_self, if_true]
  · rw [List.any_eq_true]
    constructor
    · rintro ⟨z, hz, e⟩
      obtain ⟨x, hxx, rfl⟩ := List.mem_map.mp hz
      rw [plain_eqv n x a (hx x hxx) ha] at e
      exact e ▸ hxx
    · intro h
      exact ⟨_, List.mem_map.mpr ⟨a, h, rfl⟩, (plain_eqv n a a ha ha).mpr rfl⟩
/-! ### each once, by the law -/
theorem c403 (hp : Has p [403]) {n : Nat} (hn : 1 ≤ n) {α : Type} [DecidableEq α] {enc : α → D} (inj : ∀ a b, enc a = enc b → a = b) {xs : List α} (hpl : ∀ x ∈ xs, plain 0 (enc x) = true) (hpu : ∀ x, pureD (enc x) = true) (hl : xs.length ≤ 1000) (S : Store) : (tabN p n).fn 403 [.lst (xs.map enc)] S = some (.lst ((once xs).map enc), S) := by
  obtain ⟨m, rfl⟩ : ∃ m, n = m + 1 := ⟨n - 1, by omega⟩
  rw [fn_at (d := D403) (hp 403 (by decide))]
  let ev : Option D → DEnv := fun e2 => [some (.lst (xs.map enc)), some (.obj 0), e2]
  obtain ⟨env1, S1, e, e2, rfl, rfl⟩ := E_for (T := tabN p m) (env := ev none) (tg := .nm 2) (k := 0) (it := [.var 0]) (b := [(.ite (.p2 .notin (.var 2) (.var 1)) [(.drop (.pm .append (.var 1) [(.var 2)]))] [])]) (enc := enc) (ys := xs) (ds := [.lst (xs.map enc)]) (S := [.lst []]) (S1 := [.lst []])
    (fun done env S => ∃ e2, env = ev e2 ∧ S = [.lst ((onceFrom [] done).map enc)]) (by rw [l_cons, v_of (d := .lst (xs.map enc)) rfl]; simp only [l_nil]) (by simp [srcD]) ⟨none, rfl, rfl⟩ (by
    rintro done x rest hd env S ⟨e2, rfl, rfl⟩
    have hx : x ∈ xs := by rw [← hd]; simp
    have hdl : done.length ≤ 1000 := by
      have := congrArg List.length hd
      simp at this; omega
    have hol := onceFrom_len done ([] : List α)
    have hj : ([Cell.lst ((onceFrom [] done).map enc)] : Store)[0]? = some (.lst ((onceFrom [] done).map enc)) := rfl
    obtain ⟨k, hk1, hk2⟩ := in_plain_o (n := 0) (a := enc x) hj (hpl x hx) (fun y hy => by
      obtain ⟨z, hz, rfl⟩ := List.mem_map.mp hy
      have := mem_onceFrom.mp hz
      exact hpl z (by rw [← hd]; simp at this; simp [this])) (by omega)
    have hset : setT [Cell.lst ((onceFrom [] done).map enc)] (.nm 2) (enc x) (ev e2) = some (ev (some (enc x))) := by rw [t_nm]; rfl
    have hc : evE (tabN p m) (.p2 .notin (.var 2) (.var 1)) (ev (some (enc x))) [.lst ((onceFrom [] done).map enc)] = some (.bl (!k), [.lst ((onceFrom [] done).map enc)]) := by
      rw [e_p2, v_of (d := enc x) rfl]
      simp only [v_of (T := tabN p m) (env := ev (some (enc x))) (i := 1) (d := .obj 0) rfl, o_notin, hk1, Option.map_some]
    have hkm : k = true ↔ x ∈ onceFrom [] done := by
      rw [hk2, List.mem_map]
      exact ⟨fun ⟨z, hz, e⟩ => inj _ _ e ▸ hz, fun h => ⟨x, h, rfl⟩⟩
    refine ⟨ev (some (enc x)), [.lst ((onceFrom [] (done ++ [x])).map enc)], ?_, _, rfl, rfl⟩
    simp only [forStep, hset]
    refine s_nx ?_ s_nil
    have hs : onceFrom [] (done ++ [x]) = if x ∈ onceFrom [] done then onceFrom [] done else onceFrom [] done ++ [x] := by
      rw [onceFrom, List.foldl_append]; rfl
    by_cases h : x ∈ onceFrom [] done
    · rw [if_f hc (by rw [hkm.mpr h]; rfl), s_nil, hs, if_pos h]
    · have hk0 : k = false := by cases k with | false => rfl | true => exact (h (hkm.mp rfl)).elim
      rw [if_t hc (by rw [hk0]; rfl), hs, if_neg h]
      refine s_nx ?_ s_nil
      rw [s_drop, e_pm, v_of (d := .obj 0) rfl]
      simp only [r_obj hj, if_true, l_cons, v_of (T := tabN p m) (env := ev (some (enc x))) (i := 2) (d := enc x) rfl, l_nil, m_app hj]
      rw [if_pos (by rw [List.length_map]; simp at hol; omega)]
      simp)
  refine run_0 (d := .obj 0) (S1 := [.lst ((once xs).map enc)]) rfl (by simp [pureL_map hpu]) rfl (s_nx (env1 := ev none) (S1 := [.lst []]) ?_ (s_nx e (s_rt ?_))) (frz_cell (pureL_map hpu _) rfl) S
  · show ex _ (.asg (.nm 1) (.disp .cell [] [])) [some (.lst (xs.map enc)), none, none] [] = _
    simp [ev, z0]
  · show ex _ (.ret (.var 1)) _ _ = _
    rw [s_ret, v_of (d := .obj 0) rfl]; rfl
theorem c413 (hp : Has p [403, 413]) {n : Nat} (hn : 2 ≤ n) {xs : List Nm} (hx : ∀ x ∈ xs, nmOk x = true) (hl : xs.length ≤ 1000) (S : Store) : (tabN p n).fn 413 [.lst (xs.map .str)] S = some (.lst ((sortLN (once xs)).map .str), S) := by
  obtain ⟨m, rfl⟩ : ∃ m, n = m + 1 := ⟨n - 1, by omega⟩
  rw [fn_at (d := D413) (hp 413 (by decide))]
  have h403 := fun S => c403 (p := p) (n := m) (hp.mono (by decide)) (by omega) (enc := D.str) (fun a b e => by cases e; rfl) (xs := xs) (fun x hxx => sOk_nm (hx x hxx)) (fun _ => rfl) hl S
  have hol : (once xs).length ≤ 100000 := by have := once_len xs; omega
  have hs : ((once xs).all fun s => decide (s.length ≤ 100000)) = true := List.all_eq_true.mpr fun s h => decide_eq_true (by have := nmOk_len (hx s (mem_once.mp h)); omega)
  have hb : ∀ S, pb .sortLN [.lst ((once xs).map .str)] S = some (.l ((sortLN (once xs)).map .str)) := fun S => by
    simp only [pb, lstD, List.length_map, szOk, decide_eq_true hol, if_true, strsD_strs, hs]
  refine run_0 (d := .lst ((sortLN (once xs)).map .str)) (S1 := []) rfl (by simp) rfl (s_rt ?_) (frz_pure (by simp) _) S
  show ex (tabN p m) (.ret (.pb .sortLN false [.call 403 [.var 0]])) (startD 1 _) [] = _
  simp [startD, h403, hb]
/-! ### once and the two kinds -/
theorem addg_in {α : Type} [DecidableEq α] {ks : List α} {r : α} (h : r ∈ ks) : addg ks r = ks := if_pos h
theorem addg_out {α : Type} [DecidableEq α] {ks : List α} {r : α} (h : r ∉ ks) : addg ks r = ks ++ [r] := if_neg h
theorem ints_once : ∀ (xs acc : List Ref), intsOf (onceFrom acc xs) = onceFrom (intsOf acc) (intsOf xs)
  | [], acc => rfl
  | .inl b :: xs, acc => by
    show intsOf (onceFrom (addg acc (.inl b)) xs) = onceFrom (addg (intsOf acc) b) (intsOf xs)
    rw [ints_once xs]
    congr 1
    have happ : ∀ ys : List Ref, intsOf (ys ++ [.inl b]) = intsOf ys ++ [b] := fun ys => by
      induction ys with
      | nil => rfl
      | cons y ys ih => cases y <;> simp [intsOf, ih]
    by_cases h : Sum.inl b ∈ acc
    · rw [addg_in h, addg_in (mem_ints.mpr h)]
    · rw [addg_out h, addg_out (fun q => h (mem_ints.mp q)), happ]
  | .inr x :: xs, acc => by
    show intsOf (onceFrom (addg acc (.inr x)) xs) = onceFrom (intsOf acc) (intsOf xs)
    rw [ints_once xs]
    congr 1
    have happ : ∀ ys : List Ref, intsOf (ys ++ [.inr x]) = intsOf ys := fun ys => by
      induction ys with
      | nil => rfl
      | cons y ys ih => cases y <;> simp [intsOf, ih]
    unfold addg
    split
    · rfl
    · exact happ acc
theorem strs_once : ∀ (xs acc : List Ref), strsOf (onceFrom acc xs) = onceFrom (strsOf acc) (strsOf xs)
  | [], acc => rfl
  | .inr b :: xs, acc => by
    show strsOf (onceFrom (addg acc (.inr b)) xs) = onceFrom (addg (strsOf acc) b) (strsOf xs)
    rw [strs_once xs]
    congr 1
    have happ : ∀ ys : List Ref, strsOf (ys ++ [.inr b]) = strsOf ys ++ [b] := fun ys => by
      induction ys with
      | nil => rfl
      | cons y ys ih => cases y <;> simp [strsOf, ih]
    by_cases h : Sum.inr b ∈ acc
    · rw [addg_in h, addg_in (mem_strs.mpr h)]
    · rw [addg_out h, addg_out (fun q => h (mem_strs.mp q)), happ]
  | .inl x :: xs, acc => by
    show strsOf (onceFrom (addg acc (.inl x)) xs) = onceFrom (strsOf acc) (strsOf xs)
    rw [strs_once xs]
    congr 1
    have happ : ∀ ys : List Ref, strsOf (ys ++ [.inl x]) = strsOf ys := fun ys => by
      induction ys with
      | nil => rfl
      | cons y ys ih => cases y <;> simp [strsOf, ih]
    unfold addg
    split
    · rfl
    · exact happ acc
theorem once_id {α : Type} [DecidableEq α] : ∀ (xs acc : List α), (acc ++ xs).Nodup → onceFrom acc xs = acc ++ xs
  | [], acc, _ => by simp [onceFrom]
  | x :: xs, acc, h => by
    show onceFrom (if x ∈ acc then acc else acc ++ [x]) xs = _
    have hx : x ∉ acc := fun q => by
      rw [List.nodup_append] at h
      exact h.2.2 x q x (by simp) rfl
    rw [if_neg hx, once_id xs (acc ++ [x]) (by simpa using h)]; simp
/-- what is live, told of the occurrences alone -/
theorem live_eq (t : Tr) (b : Nat) : live t b = (sortN (once (intsOf (occ (usT t) b)))).map (Sum.inl : Nat → Ref) ++ (sortLN (once (strsOf (occ (usT t) b)))).map (Sum.inr : Nm → Ref) := by
  have h1 : intsOf (once (occ (usT t) b)) = once (intsOf (occ (usT t) b)) := ints_once _ []
  have h2 : strsOf (once (occ (usT t) b)) = once (strsOf (occ (usT t) b)) := strs_once _ []
  have h3 : once (once (strsOf (occ (usT t) b))) = once (strsOf (occ (usT t) b)) := once_id _ [] (by simpa using once_nodup _)
  show (sortN (intsOf (once (occ (usT t) b)))).map (Sum.inl : Nat → Ref) ++ (sortLN (once (strsOf (once (occ (usT t) b))))).map (Sum.inr : Nm → Ref) = _
  rw [h1, h2, h3]
/-! ### around: chains -/
mutual
theorem chain : ∀ (t : Tr) (ar : List Nat) (k : Nat), (∀ m ∈ ar, m < k) → ∀ u ∈ uT t ar k, ∃ rest, u.2 = ar ++ rest ∧ (∀ b ∈ rest, k ≤ b) ∧ ∀ b ∈ rest, ∃ a, (aT t ar k)[b - k]? = some a ∧ ∀ m, m ∈ a ↔ m ∈ u.2 ∧ m < b
  | .use x, ar, k, h, u, hu => by
    rw [uT] at hu; simp at hu; subst hu
    exact ⟨[], by simp, by simp, by simp⟩
  | .join l ps, ar, k, h, u, hu => by rw [uT] at hu; rw [aT]; exact chainL ps ar k h u hu
  | .bind x a c, ar, k, h, u, hu => by
    have al : ∀ (ts : List Tr) (ar : List Nat) (k : Nat), (aTs ts ar k).length = (bTs ts).length := fun ts ar k => by
      have h1 := (x_bL ts ar 0 k).2.1; have h2 := (x_bL ts ar 0 k).2.2.1
      rw [← h1, ← h2]; simp
    rw [uT] at hu
    rw [aT]
    rcases List.mem_append.mp hu with hu | hu
    · obtain ⟨rest, e, h1, h2⟩ := chainL a ar (k + 1) (fun m hm => by have := h m hm; omega) u hu
      refine ⟨rest, e, fun b hb => by have := h1 b hb; omega, fun b hb => ?_⟩
      obtain ⟨q, g1, g2⟩ := h2 b hb
      have hk := h1 b hb
      refine ⟨q, ?_, g2⟩
      rw [show b - k = (b - (k + 1)) + 1 by omega, List.getElem?_cons_succ, List.getElem?_append_left (List.getElem?_eq_some_iff.mp g1).1]
      exact g1
    · obtain ⟨rest, e, h1, h2⟩ := chain c (ar ++ [k]) (k + 1 + (bTs a).length) (fun m hm => by
        rcases List.mem_append.mp hm with hm | hm
        · have := h m hm; omega
        · simp at hm; omega) u hu
      refine ⟨k :: rest, by rw [e]; simp, fun b hb => ?_, fun b hb => ?_⟩
      · rcases List.mem_cons.mp hb with rfl | hb
        · omega
        · have := h1 b hb; omega
      · rcases List.mem_cons.mp hb with rfl | hb
        · refine ⟨ar, by simp, fun m => ⟨fun hm => ⟨by rw [e]; simp [hm], h m hm⟩, fun ⟨hm, hlt⟩ => ?_⟩⟩
          rw [e] at hm
          rcases List.mem_append.mp hm with hm | hm
          · rcases List.mem_append.mp hm with hm | hm
            · exact hm
            · simp at hm; omega
          · have := h1 m hm; omega
        · obtain ⟨q, g1, g2⟩ := h2 b hb
          have hk := h1 b hb
          refine ⟨q, ?_, g2⟩
          rw [show b - k = (b - (k + 1)) + 1 by omega, List.getElem?_cons_succ, List.getElem?_append_right (by rw [al]; omega), al]
          rw [show b - (k + 1) - (bTs a).length = b - (k + 1 + (bTs a).length) by omega]
          exact g1
theorem chainL : ∀ (ts : List Tr) (ar : List Nat) (k : Nat), (∀ m ∈ ar, m < k) → ∀ u ∈ uTs ts ar k, ∃ rest, u.2 = ar ++ rest ∧ (∀ b ∈ rest, k ≤ b) ∧ ∀ b ∈ rest, ∃ a, (aTs ts ar k)[b - k]? = some a ∧ ∀ m, m ∈ a ↔ m ∈ u.2 ∧ m < b
  | [], ar, k, h, u, hu => by rw [uTs] at hu; cases hu
  | t :: ts, ar, k, h, u, hu => by
    have al : ∀ (t : Tr) (ar : List Nat) (k : Nat), (aT t ar k).length = (bT t).length := fun t ar k => by
      have h1 := (x_b t ar 0 k).2.1; have h2 := (x_b t ar 0 k).2.2.1
      rw [← h1, ← h2]; simp
    rw [uTs] at hu
    rw [aTs]
    rcases List.mem_append.mp hu with hu | hu
    · obtain ⟨rest, e, h1, h2⟩ := chain t ar k h u hu
      refine ⟨rest, e, h1, fun b hb => ?_⟩
      obtain ⟨q, g1, g2⟩ := h2 b hb
      exact ⟨q, by rw [List.getElem?_append_left (List.getElem?_eq_some_iff.mp g1).1]; exact g1, g2⟩
    · obtain ⟨rest, e, h1, h2⟩ := chainL ts ar (k + (bT t).length) (fun m hm => by have := h m hm; omega) u hu
      refine ⟨rest, e, fun b hb => by have := h1 b hb; omega, fun b hb => ?_⟩
      obtain ⟨q, g1, g2⟩ := h2 b hb
      have hk := h1 b hb
      refine ⟨q, ?_, g2⟩
      rw [List.getElem?_append_right (by rw [al]; omega), al, show b - k - (bT t).length = b - (k + (bT t).length) by omega]
      exact g1
end
/-- around a binder that is around a use: what is around the use and ahead of it -/
theorem around_of {t : Tr} {u : Nm × List Nat} (hu : u ∈ uT t [] 0) {b : Nat} (hb : b ∈ u.2) : ∃ a, (aT t [] 0)[b]? = some a ∧ ∀ m, m ∈ a ↔ m ∈ u.2 ∧ m < b := by
  obtain ⟨rest, e, _, h2⟩ := chain t [] 0 (by simp) u hu
  rw [List.nil_append] at e
  have := h2 b (e ▸ hb)
  simpa using this
end Sp

set_option Elab.async false
set_option linter.all false
set_option maxRecDepth 100000
namespace Sp
open LN LP PySem
variable {p : Prog}
/-- the page stands there -/
structure PgAt (t : Tr) (S : Store) (o : Nat) : Prop where
  c : S[o]? = some (pgC t o)
  u : S[o + 1]? = some (.lst (pgU t))
  a : S[o + 2]? = some (.lst (pgA t))
theorem pg_get' {T : Tab} {t : Tr} {S : Store} {o : Nat} (h : PgAt t S o) {env : DEnv} {i : Nat} {s : List Nat} {d : D} (hi : env[i]? = some (some (.obj o))) (hd : getK [.inr kN, .inr kU, .inr kA, .inr kL, .inr kO] [.lst ((bT t).map .str), .obj (o + 1), .obj (o + 2), .lst ((spX t).map fun q => .lst (natsD q.2.2)), .lst (natsD (bnT t 0))] (.inr s) = some d) : evE T (.dget (.var i) (.con (.str s))) env S = some (d, S) := by
  rw [e_dget, v_of hi]
  simp only [e_con, keyD, h.c, pgC, hd]
theorem natD_inj {a b : Nat} (h : iD a = iD b) : a = b := by simp only [D.int.injEq] at h; omega
theorem in_nats (b : Nat) (xs : List Nat) (S : Store) : inS S (iD b) (.lst (natsD xs)) = some (decide (b ∈ xs)) := by
  obtain ⟨k, h1, h2⟩ := in_plain (n := 0) (a := iD b) (xs := natsD xs) rfl (fun x hx => by obtain ⟨y, _, rfl⟩ := List.mem_map.mp hx; rfl) (by omega) S
  rw [h1]
  congr 1
  rw [Bool.eq_iff_iff, h2, decide_eq_true_eq, List.mem_map]
  exact ⟨fun ⟨y, hy, e⟩ => natD_inj e ▸ hy, fun h => ⟨b, h, rfl⟩⟩
theorem c414 (hp : Has p [414]) {n : Nat} (hn : 1 ≤ n) {t : Tr} {S : Store} {o : Nat} (h : PgAt t S o) {b : Nat} {a : List Nat} (ha : (aT t [] 0)[b]? = some a) (m : Nat) : (tabN p n).fn 414 [.obj o, iD m, iD b] S = some (.bl (decide (m ∈ a)), S) := by
  obtain ⟨n, rfl⟩ : ∃ k, n = k + 1 := ⟨n - 1, by omega⟩
  rw [fn_at (d := D414) (hp 414 (by decide))]
  refine run_2 rfl rfl (s_rt ?_)
  show ex _ (.ret (.p2 .inn (.var 1) (.p2 .idx (.dget (.var 0) (.con (.str kA))) (.var 2)))) [some (.obj o), some (iD m), some (iD b)] S = _
  have hx : (pgA t)[b]? = some (.lst (natsD a)) := by rw [pgA, List.getElem?_map, ha]; rfl
  have hi : evE (tabN p n) (.p2 .idx (.dget (.var 0) (.con (.str kA))) (.var 2)) [some (.obj o), some (iD m), some (iD b)] S = some (.lst (natsD a), S) := by
    rw [e_p2, pg_get' h (i := 0) rfl (d := .obj (o + 2)) rfl]
    simp only [v_of (T := tabN p n) (env := [some (.obj o), some (iD m), some (iD b)]) (i := 2) (d := iD b) rfl, o_idxo h.a, ixN, hx]
  rw [s_ret, e_p2, v_of (d := iD m) rfl]
  simp only [hi, o_in, in_nats, Option.map_some]
/-- the page's uses, typed -/
def us3 (t : Tr) : List (Nm × List Nat × Ref) := (uT t [] 0).map fun u => (u.1, u.2, meantOf (bT t) u.1 u.2)
theorem pgU_us3 (t : Tr) : pgU t = (us3 t).map usD := by rw [pgU, us3, List.map_map]; rfl
theorem usT_us3 (t : Tr) : usT t = (us3 t).map fun u => u.2 := by rw [usT, us3, List.map_map]; rfl
def cInt (b : Nat) (u : Nm × List Nat × Ref) : Bool := match u.2.2 with
  | .inl m => decide (m < b)
  | .inr _ => false
theorem ints_occ (b : Nat) : ∀ us : List (Nm × List Nat × Ref), ((us.filter fun u => decide (b ∈ u.2.1)).filter (cInt b)).map (fun u => refD u.2.2) = natsD (intsOf (occ (us.map fun u => u.2) b))
  | [] => rfl
  | (x, ar, .inr y) :: us => by
    have ih := ints_occ b us
    by_cases h : b ∈ ar
    · have e : occ (((x, ar, (.inr y : Ref)) :: us).map fun u => u.2) b = .inr y :: occ (us.map fun u => u.2) b := by simp [occ, inn, h]
      rw [e, List.filter_cons_of_pos (by simpa using h), List.filter_cons_of_neg (by simp [cInt])]
      exact ih
    · have e : occ (((x, ar, (.inr y : Ref)) :: us).map fun u => u.2) b = occ (us.map fun u => u.2) b := by simp [occ, inn, h]
      rw [e, List.filter_cons_of_neg (by simpa using h)]
      exact ih
  | (x, ar, .inl m) :: us => by
    have ih := ints_occ b us
    by_cases h : b ∈ ar
    · by_cases h2 : m < b
      · have e : occ (((x, ar, (.inl m : Ref)) :: us).map fun u => u.2) b = .inl m :: occ (us.map fun u => u.2) b := by simp [occ, inn, h, h2]
        rw [e, List.filter_cons_of_pos (by simpa using h), List.filter_cons_of_pos (by simp [cInt, h2]), List.map_cons, ih]
        rfl
      · have e : occ (((x, ar, (.inl m : Ref)) :: us).map fun u => u.2) b = occ (us.map fun u => u.2) b := by simp [occ, inn, h, h2]
        rw [e, List.filter_cons_of_pos (by simpa using h), List.filter_cons_of_neg (by simp [cInt, h2])]
        exact ih
    · have e : occ (((x, ar, (.inl m : Ref)) :: us).map fun u => u.2) b = occ (us.map fun u => u.2) b := by simp [occ, inn, h]
      rw [e, List.filter_cons_of_neg (by simpa using h)]
      exact ih
theorem strs_occ (b : Nat) : ∀ us : List (Nm × List Nat × Ref), ((us.filter fun u => decide (b ∈ u.2.1)).filter (fun u => isS u.2.2)).map (fun u => refD u.2.2) = (strsOf (occ (us.map fun u => u.2) b)).map .str
  | [] => rfl
  | (x, ar, .inr y) :: us => by
    have ih := strs_occ b us
    by_cases h : b ∈ ar
    · have e : occ (((x, ar, (.inr y : Ref)) :: us).map fun u => u.2) b = .inr y :: occ (us.map fun u => u.2) b := by simp [occ, inn, h]
      rw [e, List.filter_cons_of_pos (by simpa using h), List.filter_cons_of_pos (by simp [isS]), List.map_cons, ih]
      rfl
    · have e : occ (((x, ar, (.inr y : Ref)) :: us).map fun u => u.2) b = occ (us.map fun u => u.2) b := by simp [occ, inn, h]
      rw [e, List.filter_cons_of_neg (by simpa using h)]
      exact ih
  | (x, ar, .inl m) :: us => by
    have ih := strs_occ b us
    by_cases h : b ∈ ar
    · by_cases h2 : m < b
      · have e : occ (((x, ar, (.inl m : Ref)) :: us).map fun u => u.2) b = .inl m :: occ (us.map fun u => u.2) b := by simp [occ, inn, h, h2]
        rw [e, List.filter_cons_of_pos (by simpa using h), List.filter_cons_of_neg (by simp [isS])]
        exact ih
      · have e : occ (((x, ar, (.inl m : Ref)) :: us).map fun u => u.2) b = occ (us.map fun u => u.2) b := by simp [occ, inn, h, h2]
        rw [e, List.filter_cons_of_pos (by simpa using h), List.filter_cons_of_neg (by simp [isS])]
        exact ih
    · have e : occ (((x, ar, (.inl m : Ref)) :: us).map fun u => u.2) b = occ (us.map fun u => u.2) b := by simp [occ, inn, h]
      rw [e, List.filter_cons_of_neg (by simpa using h)]
      exact ih
theorem us3_len {t : Tr} (hL : Lim t) : (us3 t).length ≤ 400 := by have := us_len hL; rw [usT_us3, List.length_map] at this; exact this
theorem idx_us (u : Nm × List Nat × Ref) (S : Store) : p2 .idx (usD u) (.int 1) S = some (.lst (natsD u.2.1)) ∧ p2 .idx (usD u) (.int 2) S = some (refD u.2.2) := by
  constructor <;> simp [usD, ixD]
theorem isi_ref {T : Tab} (r : Ref) (S : Store) : (match tagD S (refD r) with
      | some g => match isiL T g [.bt .str] with
        | some b => some (D.bl b, S)
        | none => none
      | none => none) = some (.bl (isS r), S) := by
  cases r <;> simp [refD, isiL, isi1, isiB, isS]
theorem c415 (hp : Has p [403, 413, 414, 415]) {n : Nat} (hn : 3 ≤ n) {t : Tr} (hL : Lim t) {S : Store} {o : Nat} (h : PgAt t S o) {b : Nat} (hb : b < (bT t).length) : (tabN p n).fn 415 [.obj o, iD b] S = some (.lst ((live t b).map refD), S) := by
  obtain ⟨m, rfl⟩ : ∃ m, n = m + 1 := ⟨n - 1, by omega⟩
  have hul := us3_len hL
  let near := (us3 t).filter fun u => decide (b ∈ u.2.1)
  have hnl : near.length ≤ 400 := Nat.le_trans (List.length_filter_le _ _) hul
  have nearD : D := .lst (near.map usD)
  let ev : Option D → Option D → DEnv := fun e2 e3 => [some (.obj o), some (iD b), e2, e3, none]
  have hw : ∀ e2 e3 (x : D), setT S (.nm 4) x (wipeD (ev e2 e3) [4]) = some [some (.obj o), some (iD b), e2, e3, some x] := fun e2 e3 x => by rw [t_nm]; rfl
  have s0 : ex (tabN p m) (B415.getD 0 .nev) (ev none none) S = some (.nx (ev (some (.lst (near.map usD))) none) S) := by
    show ex _ (.asg (.nm 2) (.lc false [4] (.nm 4) 0 [(.dget (.var 0) (.con (.str kU)))] (some (.p2 .inn (.var 1) (.p2 .idx (.var 4) (.con (.int 1))))) (.var 4))) (ev none none) S = _
    rw [s_asg, E_lcf (enc := usD) (g := usD) (c := fun u => decide (b ∈ u.2.1)) (ys := us3 t) (ds := [.obj (o + 1)]) (S1 := S)]
    · rw [nl_f]; simp [ev, near]
    · rw [l_cons, pg_get' h (i := 0) rfl (d := .obj (o + 1)) rfl]; simp only [l_nil]
    · exact walk_cell (by rw [h.u, pgU_us3])
    · intro u hu
      have hc : evE (tabN p m) (.p2 .inn (.var 1) (.p2 .idx (.var 4) (.con (.int 1)))) [some (.obj o), some (iD b), none, none, some (usD u)] S = some (.bl (decide (b ∈ u.2.1)), S) := by
        rw [e_p2, v_of (d := iD b) rfl]
        simp only [e_p2, v_of (T := tabN p m) (env := [some (.obj o), some (iD b), none, none, some (usD u)]) (i := 4) (d := usD u) rfl, e_con, (idx_us u S).1, o_in, in_nats, Option.map_some]
      have hv : evE (tabN p m) (.var 4) [some (.obj o), some (iD b), none, none, some (usD u)] S = some (usD u, S) := v_of rfl S
      simp only [lcStep, hw, c_some, hc]
      cases decide (b ∈ u.2.1)
      · rfl
      · simp only [hv, if_true]
    · omega
  have wkN : Walk 0 [.lst (near.map usD)] S (near.map usD) := .inl (by simp [srcD])
  have s1 : ex (tabN p m) (B415.getD 1 .nev) (ev (some (.lst (near.map usD))) none) S = some (.nx (ev (some (.lst (near.map usD))) (some (.lst (natsD (intsOf (occ (usT t) b)))))) S) := by
    show ex _ (.asg (.nm 3) (.lc false [4] (.nm 4) 0 [(.var 2)] (some (.and (.not (.isi [.bt .str] (.p2 .idx (.var 4) (.con (.int 2))))) (.call 414 [(.var 0),(.p2 .idx (.var 4) (.con (.int 2))),(.var 1)]))) (.p2 .idx (.var 4) (.con (.int 2))))) (ev (some (.lst (near.map usD))) none) S = _
    rw [s_asg, E_lcf (enc := usD) (g := fun u => refD u.2.2) (c := cInt b) (ys := near) (ds := [.lst (near.map usD)]) (S1 := S)]
    · rw [nl_f, ints_occ, ← usT_us3]; simp [ev]
    · rw [l_cons, v_of (d := .lst (near.map usD)) rfl]; simp only [l_nil]
    · exact wkN
    · intro u hu
      obtain ⟨hu1, hu2⟩ := List.mem_filter.mp hu
      have hbu : b ∈ u.2.1 := of_decide_eq_true hu2
      obtain ⟨v, hv1, hv2⟩ := List.mem_map.mp hu1
      let e5 : DEnv := [some (.obj o), some (iD b), some (.lst (near.map usD)), none, some (usD u)]
      have hix : evE (tabN p m) (.p2 .idx (.var 4) (.con (.int 2))) e5 S = some (refD u.2.2, S) := by
        rw [e_p2, v_of (d := usD u) rfl]; simp only [e_con, (idx_us u S).2]
      have hisi : evE (tabN p m) (.isi [.bt .str] (.p2 .idx (.var 4) (.con (.int 2)))) e5 S = some (.bl (isS u.2.2), S) := by
        rw [e_isi, hix]; exact isi_ref u.2.2 S
      have hc : evE (tabN p m) (.and (.not (.isi [.bt .str] (.p2 .idx (.var 4) (.con (.int 2))))) (.call 414 [(.var 0),(.p2 .idx (.var 4) (.con (.int 2))),(.var 1)])) e5 S = some (.bl (cInt b u), S) := by
        cases hr : u.2.2 with
        | inr x =>
          rw [e_and, e_not, hisi, hr]
          simp only [cInt, hr]
          rfl
        | inl q =>
          have hva : v.2 = u.2.1 := by rw [← hv2]
          have hvr : meantOf (bT t) v.1 v.2 = .inl q := by rw [← hr, ← hv2]
          obtain ⟨a, ha, hm⟩ := around_of hv1 (b := b) (by rw [hva]; exact hbu)
          have h414 := c414 (p := p) (n := m) (hp.mono (by decide)) (by omega) h ha q
          have hqa : q ∈ v.2 := (meant_lt hvr).1
          have hd : decide (q ∈ a) = decide (q < b) := by
            rw [decide_eq_decide, hm]; exact ⟨fun x => x.2, fun x => ⟨hqa, x⟩⟩
          rw [hr] at hisi hix
          rw [e_and, e_not, hisi]
          simp only [isS, Bool.not_false, e_call, l_cons, v_of (T := tabN p m) (env := e5) (i := 0) (d := .obj o) rfl, hix, v_of (T := tabN p m) (env := e5) (i := 1) (d := iD b) rfl, l_nil]
          rw [show refD (.inl q : Ref) = iD q from rfl, h414, hd]
          simp only [cInt, hr]
      simp only [lcStep, hw, c_some]
      rw [show evE (tabN p m) (.and (.not (.isi [.bt .str] (.p2 .idx (.var 4) (.con (.int 2))))) (.call 414 [(.var 0),(.p2 .idx (.var 4) (.con (.int 2))),(.var 1)])) [some (.obj o), some (iD b), some (.lst (near.map usD)), none, some (usD u)] S = some (.bl (cInt b u), S) from hc]
      cases cInt b u
      · rfl
      · have hix' : evE (tabN p m) (.p2 .idx (.var 4) (.con (.int 2))) [some (.obj o), some (iD b), some (.lst (near.map usD)), none, some (usD u)] S = some (refD u.2.2, S) := hix
        simp only [hix', if_true]
    · omega
  have hocc := occ_len (usT t) b
  have hul2 := us_len hL
  have hints : ∀ x ∈ intsOf (occ (usT t) b), x < (bT t).length := fun x hx => by
    obtain ⟨u, hu, _, e⟩ := mem_occ.mp (mem_ints.mp hx)
    exact (us_ref hu e).2
  have hstrs : ∀ x ∈ strsOf (occ (usT t) b), nmOk x = true := fun x hx => by
    obtain ⟨u, hu, _, e⟩ := mem_occ.mp (mem_strs.mp hx)
    exact us_nm hL hu e
  have hlen := len_is (occ (usT t) b)
  have h403 := fun S => c403 (p := p) (n := m) (hp.mono (by decide)) (by omega) (enc := iD) (fun a b e => natD_inj e) (xs := intsOf (occ (usT t) b)) (fun _ _ => rfl) (fun _ => rfl) (by omega) S
  have h413 := fun S => c413 (p := p) (n := m) (hp.mono (by decide)) (by omega) hstrs (by omega) S
  have hbd := hL.bd
  have h64 : (once (intsOf (occ (usT t) b))).length < 64 := by
    have := nodup_lt (bT t).length _ (once_nodup (intsOf (occ (usT t) b))) (fun x hx => hints x (mem_once.mp hx))
    omega
  rw [fn_at (d := D415) (hp 415 (by decide))]
  refine run_2 rfl rfl (s_nx s0 (s_nx s1 (s_rt ?_)))
  let ev2 : DEnv := ev (some (.lst (near.map usD))) (some (.lst (natsD (intsOf (occ (usT t) b)))))
  show ex _ (.ret (.p2 .add (.pb .sorted false [(.call 403 [(.var 3)])]) (.call 413 [(.lc false [4] (.nm 4) 0 [(.var 2)] (some (.isi [.bt .str] (.p2 .idx (.var 4) (.con (.int 2))))) (.p2 .idx (.var 4) (.con (.int 2))))]))) ev2 S = _
  have hA : evE (tabN p m) (.pb .sorted false [(.call 403 [(.var 3)])]) ev2 S = some (.lst (natsD (sortN (once (intsOf (occ (usT t) b))))), S) := by
    rw [e_pb, l_cons, e_call, l_cons, v_of (d := .lst (natsD (intsOf (occ (usT t) b)))) rfl]
    simp only [l_nil, h403, b_sorted h64, nl_f]
  have hB : evE (tabN p m) (.lc false [4] (.nm 4) 0 [(.var 2)] (some (.isi [.bt .str] (.p2 .idx (.var 4) (.con (.int 2))))) (.p2 .idx (.var 4) (.con (.int 2)))) ev2 S = some (.lst ((strsOf (occ (usT t) b)).map .str), S) := by
    rw [E_lcf (enc := usD) (g := fun u => refD u.2.2) (c := fun u => isS u.2.2) (ys := near) (ds := [.lst (near.map usD)]) (S1 := S)]
    · rw [nl_f, strs_occ, ← usT_us3]
    · rw [l_cons, v_of (d := .lst (near.map usD)) rfl]; simp only [l_nil]
    · exact wkN
    · intro u hu
      let e5 : DEnv := [some (.obj o), some (iD b), some (.lst (near.map usD)), some (.lst (natsD (intsOf (occ (usT t) b)))), some (usD u)]
      have hix : evE (tabN p m) (.p2 .idx (.var 4) (.con (.int 2))) e5 S = some (refD u.2.2, S) := by
        rw [e_p2, v_of (d := usD u) rfl]; simp only [e_con, (idx_us u S).2]
      have hisi : evE (tabN p m) (.isi [.bt .str] (.p2 .idx (.var 4) (.con (.int 2)))) e5 S = some (.bl (isS u.2.2), S) := by
        rw [e_isi, hix]; exact isi_ref u.2.2 S
      have hw' : setT S (.nm 4) (usD u) (wipeD ev2 [4]) = some e5 := hw _ _ _
      simp only [lcStep, hw', c_some, hisi]
      cases isS u.2.2
      · rfl
      · simp only [hix, if_true]
    · omega
  have ho1 := once_len (strsOf (occ (usT t) b))
  have hz : szOk ((natsD (sortN (once (intsOf (occ (usT t) b))))).length + ((sortLN (once (strsOf (occ (usT t) b)))).map D.str).length) = true := decide_eq_true (by
    simp only [List.length_map, sortN_len, sortLN_len]; omega)
  rw [s_ret, e_p2, hA]
  simp only [e_call, l_cons, hB, l_nil, h413, o_addl, hz, if_true]
  rw [live_eq, List.map_append, List.map_map, List.map_map]
  rfl
theorem c416 (hp : Has p [403, 413, 414, 415, 416]) {n : Nat} (hn : 4 ≤ n) {t : Tr} (hL : Lim t) {S : Store} {o : Nat} (h : PgAt t S o) : (tabN p n).fn 416 [.obj o] S = some (.lst (livesD t), S) := by
  obtain ⟨m, rfl⟩ : ∃ m, n = m + 1 := ⟨n - 1, by omega⟩
  have hbd := hL.bd
  rw [fn_at (d := D416) (hp 416 (by decide))]
  refine run_2 rfl rfl (s_rt ?_)
  show ex _ (.ret (.lc false [1] (.nm 1) 1 [(.pb .len false [(.dget (.var 0) (.con (.str kN)))])] none (.call 415 [(.var 0),(.var 1)]))) [some (.obj o), none] S = _
  rw [s_ret, E_lcm (enc := iD) (g := fun b => .lst ((live t b).map refD)) (ys := List.range (bT t).length) (ds := [iD (bT t).length]) (S1 := S)]
  · rw [nl_f]; rfl
  · rw [l_cons, e_pb, l_cons, pg_get' h (i := 0) rfl (d := .lst ((bT t).map .str)) rfl]
    simp
  · exact .inl (by rw [src_rng (by omega), List.range_eq_range'])
  · intro b hb
    have h415 := c415 (p := p) (n := m) (hp.mono (by decide)) (by omega) hL h (List.mem_range.mp hb)
    have hw : setT S (.nm 1) (iD b) (wipeD [some (.obj o), none] [1]) = some [some (.obj o), some (iD b)] := by rw [t_nm]; rfl
    simp only [lcStep, hw, c_none, e_call, l_cons, v_of (T := tabN p m) (env := [some (.obj o), some (iD b)]) (i := 0) (d := .obj o) rfl, v_of (T := tabN p m) (env := [some (.obj o), some (iD b)]) (i := 1) (d := iD b) rfl, l_nil, h415]
  · simp; omega
end Sp

set_option Elab.async false
set_option linter.all false
set_option maxRecDepth 100000
namespace Sp
open LN LP PySem
variable {p : Prog}
/-! ### the pool of a cell -/
theorem o_pow (S : Store) : p2 .pow (.int 10) (.int 18) S = some (.int 1000000000000000000) := by simp [p2]
def bigV (c : Int) : Int := if -1 - c > c then -1 - c else c
theorem pt1 (T : Tab) (x : D) (k c : Int) (S : Store) : ex T (B400.getD 2 .nev) [some x, some (.int k), some (.int c), none, none] S = some (.nx [some x, some (.int k), some (.int c), some (.int (bigV c)), none] S) := by
  simp [B400, List.getD, bigV]
theorem pt2 (T : Tab) (x : D) (k c b : Int) (S : Store) (h0 : 0 ≤ k) (h1 : k < 100000) : ex T (B400.getD 3 .nev) [some x, some (.int k), some (.int c), some (.int b), none] S = some (.nx [some x, some (.int k), some (.int c), some (.int b), some (.int (((b % 2147483629 + 7919 * k * k + 31 * k + 17) * 48271) % 2147483647))] S) := by
  have c1 : cmulB 7919 k = true := cmul_r _ _ (by omega) (by omega)
  have c2 : cmulB (7919 * k) k = true := cmul_r _ _ (by omega) (by omega)
  have c3 : cmulB 31 k = true := cmul_r _ _ (by omega) (by omega)
  have c4 : ∀ i, cmulB i 48271 = true := fun i => cmul_r _ _ (by decide) (by decide)
  simp [B400, List.getD, c1, c2, c3, c4]
theorem pt3 (T : Tab) (x : D) (k c b m : Int) (S : Store) : ∃ b', ex T (B400.getD 4 .nev) [some x, some (.int k), some (.int c), some (.int b), some (.int m)] S = some (.rt (.obj S.length) (S ++ [.lst [.int b', .int m]])) := by
  have c5 : cmulB b 1 = true := cmul_r _ _ (by decide) (by decide)
  have c6 : cmulB b 0 = true := cmul_r _ _ (by decide) (by decide)
  by_cases hb : (1000000000000000000 : Int) ≤ b
  · refine ⟨b * 1, ?_⟩
    simp [B400, List.getD, o_pow, szOk, hb, c5]
  · refine ⟨b * 0, ?_⟩
    simp [B400, List.getD, o_pow, szOk, hb, c6]
theorem c400 (hp : Has p [400]) {n : Nat} (hn : 1 ≤ n) (ns : List Int) {k : Nat} (hk : k < 100000) (S : Store) : ∃ S1, (tabN p n).fn 400 [.scr (ns.map .int), iD k] S = some (.obj S.length, S1) ∧ Src S1 S.length := by
  obtain ⟨m, rfl⟩ : ∃ m, n = m + 1 := ⟨n - 1, by omega⟩
  obtain ⟨c, s1⟩ : ∃ c : Int, ex (tabN p m) (B400.getD 1 .nev) [some (.scr (ns.map .int)), some (iD k), some (.int 0), none, none] S = some (.nx [some (.scr (ns.map .int)), some (iD k), some (.int c), none, none] S) := by
    by_cases h : k < ns.length
    · refine ⟨ns[k], ?_⟩
      simp [B400, List.getD, ixD, h]
    · refine ⟨0, ?_⟩
      simp [B400, List.getD, h]
  have s0 : ex (tabN p m) (B400.getD 0 .nev) [some (.scr (ns.map .int)), some (iD k), none, none, none] S = some (.nx [some (.scr (ns.map .int)), some (iD k), some (.int 0), none, none] S) := by
    simp [B400, List.getD]
  obtain ⟨b, hb⟩ := pt3 (tabN p m) (.scr (ns.map .int)) k c (bigV c) (((bigV c % 2147483629 + 7919 * (k : Int) * k + 31 * k + 17) * 48271) % 2147483647) S
  refine ⟨S ++ [.lst [.int b, .int (((bigV c % 2147483629 + 7919 * (k : Int) * k + 31 * k + 17) * 48271) % 2147483647)]], ?_, ⟨b, (((bigV c % 2147483629 + 7919 * (k : Int) * k + 31 * k + 17) * 48271) % 2147483647), ?_⟩⟩
  · rw [fn_at (d := D400) (hp 400 (by decide))]
    exact run_2 rfl rfl (s_nx s0 (s_nx s1 (s_nx (pt1 _ _ _ _ _) (s_nx (pt2 _ _ _ _ _ _ (by omega) (by omega)) (s_rt hb)))))
  · rw [List.getElem?_append_right (Nat.le_refl _)]; simp
/-! ### named, any naming -/
theorem c417 (hp : Has p [417]) {n : Nat} (hn : 1 ≤ n) (pg : D) (xs : List Nm) (r : Ref) (hr : ∀ b, r = .inl b → b < xs.length) (S : Store) : (tabN p n).fn 417 [pg, nmsD xs, refD r] S = some (.str (nameOf xs r), S) := by
  obtain ⟨m, rfl⟩ : ∃ m, n = m + 1 := ⟨n - 1, by omega⟩
  rw [fn_at (d := D417) (hp 417 (by decide))]
  refine run_2 rfl rfl (s_rt ?_)
  show ex _ (.ret (.ite (.isi [.bt .str] (.var 2)) (.var 2) (.p2 .idx (.var 1) (.var 2)))) _ _ = _
  cases r with
  | inr x => simp [startD, D417, refD, isiL, isi1, isiB, nameOf]
  | inl b =>
    have hb := hr b rfl
    have : (xs.map D.str)[b]? = some (.str (nameOf xs (.inl b))) := by
      rw [List.getElem?_map, List.getElem?_eq_getElem hb]
      simp [nameOf, List.getD, List.getElem?_eq_getElem hb]
    simp [startD, D417, refD, isiL, isi1, isiB, ixN, this]
theorem lcL_words {stp : D → Store → Option (Option D × Store)} {j : Nat} (hs : ∀ x S, Src S j → ∃ w S1, nmOk w = true ∧ stp x S = some (some (.str w), S1) ∧ Kp j S S1) : ∀ (xs : List D) (S : Store), Src S j → ∃ (ws : List Nm) (S1 : Store), lcL stp xs S = some (ws.map .str, S1) ∧ Kp j S S1 ∧ ws.length = xs.length ∧ ∀ w ∈ ws, nmOk w = true
  | [], S, h => ⟨[], S, rfl, Kp.refl h, rfl, fun t ht => by cases ht⟩
  | x :: xs, S, h => by
    obtain ⟨w, S1, hw, e, hk⟩ := hs x S h
    obtain ⟨ws, S2, e2, hk2, hl, hL⟩ := lcL_words hs xs S1 hk.src
    refine ⟨w :: ws, S2, ?_, hk.trans hk2, by simp [hl], fun t ht => ?_⟩
    · rw [lcL, e]; simp only [e2]; rfl
    · rcases List.mem_cons.mp ht with rfl | ht
      · exact hw
      · exact hL t ht
theorem c418 (hp : Has p [401, 402, 418]) {n : Nat} (hn : 3 ≤ n) {t : Tr} (hL : Lim t) {S : Store} {j o : Nat} (hS : Src S j) (h : PgAt t S o) {ws : List Nm} (hw : Wds ws) : ∃ xs S1, (tabN p n).fn 418 [.obj j, .obj o, wD ws] S = some (nmsD xs, S1) ∧ Kp j S S1 ∧ Nmg t xs := by
  obtain ⟨m, rfl⟩ : ∃ m, n = m + 1 := ⟨n - 1, by omega⟩
  let ev : DEnv := [some (.obj j), some (.obj o), some (wD ws), none]
  obtain ⟨xs, S1, e, hk, hl, hok⟩ := lcL_words (stp := lcStep (tabN p m) [3] (.nm 3) none (.call 402 [.var 0, .var 2]) ev) (j := j) (fun y S hS => by
    obtain ⟨w, S1, _, wok, ew, hk, _⟩ := one_w (p := p) (n := m) (hp.mono (by decide)) (by omega) hS hw
    refine ⟨w, S1, wok, ?_, hk⟩
    have hset : setT S (.nm 3) y (wipeD ev [3]) = some [some (.obj j), some (.obj o), some (wD ws), some y] := by rw [t_nm]; rfl
    simp only [lcStep, hset, c_none, e_call, l_cons, v_of (T := tabN p m) (env := [some (.obj j), some (.obj o), some (wD ws), some y]) (i := 0) (d := .obj j) rfl, v_of (T := tabN p m) (env := [some (.obj j), some (.obj o), some (wD ws), some y]) (i := 2) (d := wD ws) rfl, l_nil, ew]) ((bT t).map .str) S hS
  have hbd := hL.bd
  have hz : szOk (xs.map D.str).length = true := decide_eq_true (by simp at hl ⊢; omega)
  refine ⟨xs, S1, ?_, hk, ⟨by simpa using hl, hok⟩⟩
  rw [fn_at (d := D418) (hp 418 (by decide))]
  refine run_2 rfl rfl (s_rt ?_)
  show ex _ (.ret (.pb .tuple false [(.lc false [3] (.nm 3) 0 [(.dget (.var 1) (.con (.str kN)))] none (.call 402 [(.var 0),(.var 2)]))])) ev S = _
  rw [s_ret, e_pb, l_cons, e_lc, l_cons, pg_get' h (i := 1) rfl (d := .lst ((bT t).map .str)) rfl]
  have hsr : srcD 0 [.lst ((bT t).map .str)] S = some (.items ((bT t).map .str)) := by simp [srcD]
  simp only [l_nil, hsr, lcS, e, hz, if_true, nl_f, b_tupl]
/-! ### pairs -/
theorem c419 (hp : Has p [419]) {n : Nat} (hn : 1 ≤ n) {t : Tr} (hL : Lim t) (S : Store) : (tabN p n).fn 419 [.lst (livesD t)] S = some (.lst ((clT t).map clD), S) := by
  obtain ⟨m, rfl⟩ : ∃ m, n = m + 1 := ⟨n - 1, by omega⟩
  rw [fn_at (d := D419) (hp 419 (by decide))]
  let ev : List (Ref × Nat) → Option D → Option D → DEnv := fun q e2 e3 => [some (.lst (livesD t)), some (.lst (q.map clD)), e2, e3, none]
  obtain ⟨env1, S1, e, e2, e3, rfl, rfl⟩ := E_for (T := tabN p m) (env := ev [] none none) (tg := .tup [.nm 2, .nm 3]) (k := 2) (it := [.var 0]) (b := [(.asg (.nm 1) (.p2 .add (.var 1) (.lc false [4] (.nm 4) 0 [(.var 3)] none (.disp .tup [false,false] [(.var 4),(.var 2)]))))]) (enc := fun b : Nat => .tup [iD b, .lst ((live t b).map refD)]) (ys := List.range (bT t).length) (ds := [.lst (livesD t)]) (S := []) (S1 := [])
    (fun done env S => ∃ e2 e3, env = ev (done.flatMap fun b => (live t b).map fun r => (r, b)) e2 e3 ∧ S = []) (by rw [l_cons, v_of (d := .lst (livesD t)) rfl]; simp only [l_nil]) (by
      show some (Src.items (enumD ((0 : Nat) : Int) _)) = _
      unfold livesD
      have := enumD_map (fun x : D => x) ((List.range (bT t).length).map fun b => D.lst ((live t b).map refD)) 0
      rw [List.map_id'] at this
      rw [this, zipIdx_range, List.map_map]
      rfl) ⟨none, none, rfl, rfl⟩ (by
      rintro done b rest hd env S ⟨e2, e3, rfl, rfl⟩
      have hbd := hL.bd
      have hdl : done.length ≤ 60 := by
        have := congrArg List.length hd
        simp at this; omega
      have hl := live_len hL b
      have hpl := fm_len (fun b => (live t b).map fun r => (r, b)) 400 done (fun a _ => by rw [List.length_map]; exact live_len hL a)
      let q := done.flatMap fun b => (live t b).map fun r => (r, b)
      have hset : setT [] (.tup [.nm 2, .nm 3]) (.tup [iD b, .lst ((live t b).map refD)]) (ev q e2 e3) = some (ev q (some (iD b)) (some (.lst ((live t b).map refD)))) := by simp [ev]
      have hlc : evE (tabN p m) (.lc false [4] (.nm 4) 0 [.var 3] none (.disp .tup [false, false] [.var 4, .var 2])) (ev q (some (iD b)) (some (.lst ((live t b).map refD)))) [] = some (.lst (((live t b).map fun r => (r, b)).map clD), []) := by
        rw [E_lcm (enc := refD) (g := fun r => clD (r, b)) (ys := live t b) (ds := [.lst ((live t b).map refD)]) (S1 := [])]
        · rw [nl_f, List.map_map]; rfl
        · rw [l_cons, v_of (d := .lst ((live t b).map refD)) rfl]; simp only [l_nil]
        · exact .inl (by simp [srcD])
        · intro r _
          simp [lcStep, ev, wipeD, szOk, clD]
        · omega
      have hz : szOk ((q.map clD).length + (((live t b).map fun r => (r, b)).map clD).length) = true := decide_eq_true (by simp only [List.length_map, q] at hpl ⊢; omega)
      refine ⟨ev ((done ++ [b]).flatMap fun b => (live t b).map fun r => (r, b)) (some (iD b)) (some (.lst ((live t b).map refD))), [], ?_, _, _, rfl, rfl⟩
      simp only [forStep]
      rw [show (done.flatMap fun b => (live t b).map fun r => (r, b)) = q from rfl, hset]
      refine s_nx ?_ s_nil
      rw [s_asg, e_p2, v_of (d := .lst (q.map clD)) rfl]
      simp only [hlc, o_addl, hz, if_true, t_nm]
      simp [ev, q])
  refine run_0 (d := .lst ((clT t).map clD)) (S1 := []) rfl (by simp) rfl (s_nx (env1 := ev [] none none) (S1 := []) ?_ (s_nx e (s_rt ?_))) (frz_pure (by rw [pu_lst]; exact pureL_map pu_cl _) _) S
  · show ex _ (.asg (.nm 1) (.disp .lst [] [])) [some (.lst (livesD t)), none, none, none, none] [] = _
    simp [ev, z0]
  · show ex _ (.ret (.var 1)) _ _ = _
    rw [s_ret, v_of (d := .lst ((clT t).map clD)) rfl]
/-! ### what is live at a binder clashes pairwise -/
theorem us_of {t : Tr} {u : List Nat × Ref} (hu : u ∈ usT t) : ∃ v ∈ uT t [] 0, v.2 = u.1 ∧ meantOf (bT t) v.1 v.2 = u.2 := by
  obtain ⟨v, hv, rfl⟩ := List.mem_map.mp hu
  exact ⟨v, hv, rfl, rfl⟩
theorem crowd_live {t : Tr} {b q : Nat} {one : Ref} (h1 : one ∈ live t b) (h2 : .inl q ∈ live t b) (h : ∀ m, one = .inl m → m < q) : one ∈ live t q := by
  obtain ⟨u1, hu1, hb1, e1⟩ := mem_live.mp h1
  obtain ⟨u2, hu2, hb2, e2⟩ := mem_live.mp h2
  obtain ⟨v1, hv1, a1, r1⟩ := us_of hu1
  obtain ⟨v2, hv2, a2, r2⟩ := us_of hu2
  obtain ⟨x1, hx1, m1⟩ := around_of hv1 (b := b) (by rw [a1]; exact inn_sub hb1)
  obtain ⟨x2, hx2, m2⟩ := around_of hv2 (b := b) (by rw [a2]; exact inn_sub hb2)
  have hx : x1 = x2 := by rw [hx1] at hx2; exact Option.some.inj hx2
  have hq2 : q ∈ u2.1 := (us_ref hu2 e2).1
  have hqb : q < b := by
    rw [e2] at hb2
    have := (List.mem_filter.mp hb2).2
    exact of_decide_eq_true this
  have hqx : q ∈ x1 := by rw [hx]; exact (m2 q).mpr ⟨by rw [a2]; exact hq2, hqb⟩
  have hq1 : q ∈ u1.1 := by rw [← a1]; exact ((m1 q).mp hqx).1
  refine mem_live.mpr ⟨u1, hu1, ?_, e1⟩
  cases hr : u1.2 with
  | inr x => exact hq1
  | inl m' =>
    have := h m' (by rw [← e1, hr])
    exact List.mem_filter.mpr ⟨hq1, decide_eq_true this⟩
theorem live_lt {t : Tr} {b m : Nat} (h : .inl m ∈ live t b) : m < b ∧ m < (bT t).length := by
  obtain ⟨u, hu, hb, e⟩ := mem_live.mp h
  rw [e] at hb
  exact ⟨of_decide_eq_true (List.mem_filter.mp hb).2, (us_ref hu e).2⟩
theorem cl_mem {t : Tr} {r : Ref} {b : Nat} (hb : b < (bT t).length) (h : r ∈ live t b) : (r, b) ∈ clT t := List.mem_flatMap.mpr ⟨b, List.mem_range.mpr hb, List.mem_map.mpr ⟨r, h, rfl⟩⟩
end Sp

set_option Elab.async false
set_option linter.all false
set_option maxRecDepth 100000
namespace Sp
open LN LP PySem
variable {p : Prog}
theorem plain_cl {t : Tr} (hL : Lim t) : ∀ q ∈ clT t, plain 1 (clD q) = true := fun q hq => by
  obtain ⟨_, h⟩ := cl_lt hq
  have := plain_ref (r := q.1) (fun x e => live_nm hL (e ▸ h)) 0
  simp [clD, plain, this]
theorem plain_cls {t : Tr} (hL : Lim t) : plain 2 (.lst ((clT t).map clD)) = true := List.all_eq_true.mpr fun x hx => by
  obtain ⟨q, hq, rfl⟩ := List.mem_map.mp hx
  exact plain_cl hL q hq
theorem plain_live {t : Tr} (hL : Lim t) (b : Nat) : plain 1 (.lst ((live t b).map refD)) = true := List.all_eq_true.mpr fun x hx => by
  obtain ⟨r, hr, rfl⟩ := List.mem_map.mp hx
  exact plain_ref (fun x e => live_nm hL (e ▸ hr)) 0
theorem plain_lives {t : Tr} (hL : Lim t) : plain 2 (.lst (livesD t)) = true := List.all_eq_true.mpr fun x hx => by
  obtain ⟨b, hb, rfl⟩ := List.mem_map.mp hx
  exact plain_live hL b
theorem clD_inj : ∀ a b : Ref × Nat, clD a = clD b → a = b := fun a b h => by
  simp only [clD, D.tup.injEq, List.cons.injEq, and_true] at h
  exact Prod.ext (refD_inj _ _ h.1) (natD_inj h.2)
/-- a pair among the clashes -/
theorem in_cl {t : Tr} (hL : Lim t) {r : Ref} (hr : ∀ x, r = .inr x → nmOk x = true) (b : Nat) (S : Store) : ∃ k, inS S (.tup [refD r, iD b]) (.lst ((clT t).map clD)) = some k ∧ (k = true ↔ (r, b) ∈ clT t) := by
  obtain ⟨k, h1, h2⟩ := in_plain (n := 1) (a := .tup [refD r, iD b]) (xs := (clT t).map clD) (by simp [plain, plain_ref hr 0]) (fun x hx => by
    obtain ⟨q, hq, rfl⟩ := List.mem_map.mp hx
    exact plain_cl hL q hq) (by omega) S
  refine ⟨k, h1, ?_⟩
  rw [h2, List.mem_map]
  exact ⟨fun ⟨q, hq, e⟩ => by have := clD_inj q (r, b) e; exact this ▸ hq, fun h => ⟨_, h, rfl⟩⟩
theorem eq_refl {n : Nat} {a : D} (h : plain n a = true) (hn : n ≤ 60) (S : Store) : eqS S a a = some true := by
  obtain ⟨k, h1, h2⟩ := eq_plain h h hn S
  rw [h1, h2.mpr rfl]
theorem eq_bl (a b : Bool) (S : Store) : eqS S (.bl a) (.bl b) = some (a == b) := by
  have h : ∀ i, shp (.bool i) = true := fun i => by simp [shp, SeqAt.shaped, PyData.canLay0, PyData.depth]
  simp only [eqS, pyS, pyD, h, Bool.and_self, if_true, PyData.eqv]
/-! ### crowded -/
theorem c420 (hp : Has p [420]) {n : Nat} (hn : 1 ≤ n) {t : Tr} (hL : Lim t) {b : Nat} (S : Store) : (tabN p n).fn 420 [.lst ((clT t).map clD), .lst ((live t b).map refD), iD b] S = some (.bl true, S) := by
  obtain ⟨m, rfl⟩ : ∃ m, n = m + 1 := ⟨n - 1, by omega⟩
  let T := tabN p m
  let ev : Option D → Option D → DEnv := fun e3 e4 => [some (.lst ((clT t).map clD)), some (.lst ((live t b).map refD)), some (iD b), e3, e4]
  let c1 : IE := .and (.not (.isi [.bt .str] (.var 4))) (.and (.p2 .ne (.var 3) (.var 4)) (.and (.isi [.bt .str] (.var 3)) (.p2 .notin (.disp .tup [false,false] [(.var 3),(.var 4)]) (.var 0))))
  let c2 : IE := .and (.not (.isi [.bt .str] (.var 3))) (.and (.not (.isi [.bt .str] (.var 4))) (.and (.p2 .lt (.var 3) (.var 4)) (.p2 .notin (.disp .tup [false,false] [(.var 3),(.var 4)]) (.var 0))))
  have key : ∀ r ∈ live t b, ∀ q ∈ live t b, evE T c1 (ev (some (refD r)) (some (refD q))) [] = some (.bl false, []) ∧ evE T c2 (ev (some (refD r)) (some (refD q))) [] = some (.bl false, []) := by
    intro r hr q hq
    have v3 : ∀ S, evE T (.var 3) (ev (some (refD r)) (some (refD q))) S = some (refD r, S) := fun S => v_of rfl S
    have v4 : ∀ S, evE T (.var 4) (ev (some (refD r)) (some (refD q))) S = some (refD q, S) := fun S => v_of rfl S
    have v0 : ∀ S, evE T (.var 0) (ev (some (refD r)) (some (refD q))) S = some (.lst ((clT t).map clD), S) := fun S => v_of rfl S
    have i3 : evE T (.isi [.bt .str] (.var 3)) (ev (some (refD r)) (some (refD q))) [] = some (.bl (isS r), []) := by rw [e_isi, v3]; exact isi_ref r []
    have i4 : evE T (.isi [.bt .str] (.var 4)) (ev (some (refD r)) (some (refD q))) [] = some (.bl (isS q), []) := by rw [e_isi, v4]; exact isi_ref q []
    cases q with
    | inr y =>
      constructor
      · show evE T (.and _ _) _ _ = _
        rw [e_and, e_not, i4]; rfl
      · show evE T (.and _ (.and _ _)) _ _ = _
        rw [e_and, e_not, i3]
        cases r with
        | inr x => rfl
        | inl m =>
          simp only [isS, Bool.not_false]
          rw [e_and, e_not, i4]; rfl
    | inl c =>
      have hcl := live_lt hq
      obtain ⟨k, hk1, hk2⟩ := in_cl hL (r := r) (fun x e => live_nm hL (e ▸ hr)) c []
      have hni : evE T (.p2 .notin (.disp .tup [false,false] [(.var 3),(.var 4)]) (.var 0)) (ev (some (refD r)) (some (refD (.inl c)))) [] = some (.bl (!k), []) := by
        simp only [e_p2, e_disp, p_cons, p_nil, v3, v4, v0, List.headD_cons, List.tail_cons, Bool.false_eq_true, if_false, List.length_cons, List.length_nil, z2, if_true, o_notin]
        rw [show (refD (.inl c : Ref)) = iD c from rfl, hk1]; rfl
      constructor
      · show evE T (.and _ (.and _ (.and _ _))) _ _ = _
        obtain ⟨k0, hn1, hn2⟩ := eq_plain (n := 0) (a := refD r) (b := refD (.inl c)) (plain_ref (fun x e => live_nm hL (e ▸ hr)) 0) rfl (by omega) []
        have hne : evE T (.p2 .ne (.var 3) (.var 4)) (ev (some (refD r)) (some (refD (.inl c)))) [] = some (.bl (!k0), []) := by
          simp only [e_p2, v3, v4, o_ne, hn1, Option.map_some]
        rw [e_and, e_not, i4]
        simp only [isS, Bool.not_false]
        rw [e_and, hne]
        cases k0 with
        | true => rfl
        | false =>
          simp only [Bool.not_false]
          rw [e_and, i3]
          cases r with
          | inl m => rfl
          | inr x =>
            have hkt : k = true := hk2.mpr (cl_mem hcl.2 (crowd_live hr hq (fun m e => by cases e)))
            simp only [isS, hni, hkt]
            rfl
      · show evE T (.and _ (.and _ (.and _ _))) _ _ = _
        rw [e_and, e_not, i3]
        cases r with
        | inr x => rfl
        | inl m =>
          simp only [isS, Bool.not_false]
          rw [e_and, e_not, i4]
          simp only [isS, Bool.not_false]
          have hlt : evE T (.p2 .lt (.var 3) (.var 4)) (ev (some (refD (.inl m))) (some (refD (.inl c)))) [] = some (.bl (decide ((m : Int) < c)), []) := by
            simp only [e_p2, v3, v4]
            rfl
          rw [e_and, hlt]
          by_cases hmc : (m : Int) < c
          · have hkt : k = true := hk2.mpr (cl_mem hcl.2 (crowd_live hr hq (fun m' e => by cases e; omega)))
            rw [decide_eq_true hmc]
            simp only [hni, hkt]
            rfl
          · rw [decide_eq_false hmc]
  rw [fn_at (d := D420) (hp 420 (by decide))]
  have hll := live_len hL b
  obtain ⟨env1, S1, e, e3, e4, rfl, rfl⟩ := E_for (T := T) (env := ev none none) (tg := .nm 3) (k := 0) (it := [.var 1]) (b := [.for (.nm 4) 0 [.var 1] [.ite c1 [.ret (.con (.bl false))] [], .ite c2 [.ret (.con (.bl false))] []]]) (enc := refD) (ys := live t b) (ds := [.lst ((live t b).map refD)]) (S := []) (S1 := [])
    (fun done env S => ∃ e3 e4, env = ev e3 e4 ∧ S = []) (by rw [l_cons, v_of (d := .lst ((live t b).map refD)) rfl]; simp only [l_nil]) (by simp [srcD]) ⟨none, none, rfl, rfl⟩ (by
    rintro done r rest hd env S ⟨e3, e4, rfl, rfl⟩
    have hr : r ∈ live t b := by rw [← hd]; simp
    obtain ⟨env2, S2, e', e4', rfl, rfl⟩ := E_for (T := T) (env := ev (some (refD r)) e4) (tg := .nm 4) (k := 0) (it := [.var 1]) (b := [.ite c1 [.ret (.con (.bl false))] [], .ite c2 [.ret (.con (.bl false))] []]) (enc := refD) (ys := live t b) (ds := [.lst ((live t b).map refD)]) (S := []) (S1 := [])
      (fun done env S => ∃ e4, env = ev (some (refD r)) e4 ∧ S = []) (by rw [l_cons, v_of (d := .lst ((live t b).map refD)) rfl]; simp only [l_nil]) (by simp [srcD]) ⟨e4, rfl, rfl⟩ (by
      rintro done2 q rest2 hd2 env S ⟨e4, rfl, rfl⟩
      have hq : q ∈ live t b := by rw [← hd2]; simp
      obtain ⟨k1, k2⟩ := key r hr q hq
      have hset : setT [] (.nm 4) (refD q) (ev (some (refD r)) e4) = some (ev (some (refD r)) (some (refD q))) := by rw [t_nm]; rfl
      refine ⟨ev (some (refD r)) (some (refD q)), [], ?_, _, rfl, rfl⟩
      simp only [forStep, hset]
      exact s_nx (by rw [if_f k1 rfl, s_nil]) (s_nx (by rw [if_f k2 rfl, s_nil]) s_nil))
    have hset : setT [] (.nm 3) (refD r) (ev e3 e4) = some (ev (some (refD r)) e4) := by rw [t_nm]; rfl
    refine ⟨ev (some (refD r)) e4', [], ?_, _, _, rfl, rfl⟩
    simp only [forStep, hset]
    exact s_nx e' s_nil)
  refine run_0 (d := .bl true) (S1 := []) rfl (by simp [pureL_map pu_cl]) rfl (s_nx e (s_rt ?_)) (frz_pure rfl _) S
  show ex T (.ret (.con (.bl true))) _ _ = _
  rw [s_ret, e_con]
/-! ### a naming hurts just if it catches -/
theorem hurt_cat {t : Tr} (hL : Lim t) (xs : List Nm) : hurtT t xs = [] ↔ catT t xs = [] := by
  constructor
  · intro h
    rw [List.eq_nil_iff_forall_not_mem]
    intro q hq
    obtain ⟨y, hy, hq⟩ := List.mem_flatMap.mp hq
    obtain ⟨b, hb, rfl⟩ := List.mem_map.mp hq
    obtain ⟨hb1, hb2⟩ := List.mem_filter.mp hb
    have := List.mem_zipIdx_iff_getElem?.mp (show (y.1, y.2) ∈ (usT t).zipIdx from hy)
    have hyu : y.1 ∈ usT t := List.mem_of_getElem? (by simpa using this)
    have hm : (y.1.2, b) ∈ hurtT t xs := List.mem_filter.mpr ⟨cl_mem (us_lt hL _ hyu b (inn_sub hb1)) (mem_live.mpr ⟨_, hyu, hb1, rfl⟩), decide_eq_true (of_decide_eq_true hb2).symm⟩
    rw [h] at hm; cases hm
  · intro h
    rw [List.eq_nil_iff_forall_not_mem]
    intro q hq
    obtain ⟨hq1, hq2⟩ := List.mem_filter.mp hq
    obtain ⟨u, hu, hb, e⟩ := mem_live.mp (cl_lt hq1).2
    obtain ⟨i, hi, he⟩ := List.mem_iff_getElem.mp hu
    have hz : (u, i) ∈ (usT t).zipIdx := by
      refine List.mem_zipIdx_iff_getElem?.mpr ?_
      rw [List.getElem?_eq_getElem hi, he]
    have hm : (i, q.2, u.2) ∈ catT t xs := List.mem_flatMap.mpr ⟨(u, i), hz, List.mem_map.mpr ⟨q.2, List.mem_filter.mpr ⟨hb, decide_eq_true (by rw [e]; exact (of_decide_eq_true hq2).symm)⟩, rfl⟩⟩
    rw [h] at hm; cases hm
theorem clash_sym {t : Tr} {a b : Nat} (ha : a < (bT t).length) (hb : b < (bT t).length) : .inl (min a b) ∈ live t (max a b) ↔ ((.inl a, b) ∈ clT t ∨ (.inl b, a) ∈ clT t) := by
  constructor
  · intro h
    rcases Nat.le_total a b with q | q
    · rw [Nat.min_eq_left q, Nat.max_eq_right q] at h; exact .inl (cl_mem hb h)
    · rw [Nat.min_eq_right q, Nat.max_eq_left q] at h; exact .inr (cl_mem ha h)
  · rintro (h | h)
    · have h1 := (cl_lt h).2
      have h2 : a < b := (live_lt h1).1
      rw [Nat.min_eq_left (by omega), Nat.max_eq_right (by omega)]; exact h1
    · have h1 := (cl_lt h).2
      have h2 : b < a := (live_lt h1).1
      rw [Nat.min_eq_right (by omega), Nat.max_eq_left (by omega)]; exact h1
end Sp

set_option Elab.async false
set_option linter.all false
set_option maxRecDepth 100000
namespace Sp
open LN LP PySem
variable {p : Prog}
def lawNs : List Nat := [3,4,5,6,7,8,9,10,11,12,13,28,29,30,34,35,45,47,50,53,54,55,57,58,59,60,61,62,63,300,301,302,303,304,400,401,402,403,404,405,406,407,408,409,410,411,412,413,414,415,416,417,418,419,420]
theorem e_cut {T : Tab} {env : DEnv} {a h : IE} {xs : List D} {i : Int} {S S1 S2 : Store} (ha : evE T a env S = some (.lst xs, S1)) (hh : evE T h env S1 = some (.int i, S2)) : evE T (.slice a none (some h) false) env S = some (.lst (cutD xs none (some i)), S2) := by
  rw [evE]; simp only [ha, evO, hh, lstD, newL]; rfl
/-- what stays through the turns -/
structure Qs (t : Tr) (j o : Nat) (S : Store) : Prop where
  s : Src S j
  p : PgAt t S o
theorem PgAt.lt {t : Tr} {S : Store} {o : Nat} (h : PgAt t S o) : o + 2 < S.length := (List.getElem?_eq_some_iff.mp h.a).1
theorem Qs.grow {t : Tr} {j o : Nat} {S X : Store} (h : Qs t j o S) {i : Nat} {c : Cell} (hi : S.length ≤ i) : Qs t j o ((S ++ X).set i c) := by
  have h1 := h.s.lt
  have h2 := h.p.lt
  have g : ∀ q, q < S.length → ((S ++ X).set i c)[q]? = S[q]? := fun q hq => by
    rw [List.getElem?_set_ne (by omega), List.getElem?_append_left hq]
  obtain ⟨b, s, e⟩ := h.s
  exact ⟨⟨b, s, by rw [g _ h1]; exact e⟩, ⟨by rw [g _ (by omega)]; exact h.p.c, by rw [g _ (by omega)]; exact h.p.u, by rw [g _ (by omega)]; exact h.p.a⟩⟩
theorem Qs.keep {t : Tr} {j o : Nat} {S S1 : Store} (h : Qs t j o S) (k : Kp j S S1) (hj : j < o) : Qs t j o S1 := by
  have h2 := h.p.lt
  exact ⟨k.src, ⟨by rw [k.old _ (by omega) (by omega)]; exact h.p.c, by rw [k.old _ (by omega) (by omega)]; exact h.p.u, by rw [k.old _ (by omega) (by omega)]; exact h.p.a⟩⟩
section
variable {n : Nat} {t : Tr} {env : DEnv} {S : Store}
theorem m61 (hp : Has p lawNs) (hk : Kls p) (hn : 6 ≤ n) (hL : Lim t) (h9 : env[9]? = some (some (termD t))) (h5 : env[5]? = some (some (.lst ((clT t).map clD)))) : evE (tabN p n) (.p2 .ne (.call 61 [.var 9]) (.var 5)) env S = some (.bl false, S) := by
  simp only [e_p2, e_call, l_cons, v_of h9, v_of h5, l_nil, c61 (p := p) (hp.mono (by decide)) hk hn hL, o_ne, eq_refl (plain_cls hL) (by omega)]
  rfl
theorem m59 (hp : Has p lawNs) (hk : Kls p) (hn : 6 ≤ n) (hL : Lim t) {i : Nat} (hi : i < (bT t).length) (h9 : env[9]? = some (some (termD t))) (h4 : env[4]? = some (some (.lst (livesD t)))) (h6 : env[6]? = some (some (iD i))) : evE (tabN p n) (.p2 .ne (.call 59 [.var 9, .var 6]) (.p2 .idx (.var 4) (.var 6))) env S = some (.bl false, S) := by
  simp only [e_p2, e_call, l_cons, v_of h9, v_of h4, v_of h6, l_nil, c59 (p := p) (hp.mono (by decide)) hk (show 5 ≤ n by omega) hL hi, o_idxl, ixN, lines_at hi, o_ne, eq_refl (plain_live hL i) (show 1 ≤ 60 by omega)]
  rfl
theorem m420 (hp : Has p lawNs) (hn : 6 ≤ n) (hL : Lim t) {i : Nat} (hi : i < (bT t).length) (h5 : env[5]? = some (some (.lst ((clT t).map clD)))) (h4 : env[4]? = some (some (.lst (livesD t)))) (h6 : env[6]? = some (some (iD i))) : evE (tabN p n) (.not (.call 420 [(.var 5),(.p2 .idx (.var 4) (.var 6)),(.var 6)])) env S = some (.bl false, S) := by
  simp only [e_not, e_p2, e_call, l_cons, v_of h5, v_of h4, v_of h6, l_nil, o_idxl, ixN, lines_at hi, c420 (p := p) (hp.mono (by decide)) (show 1 ≤ n by omega) hL]
  rfl
theorem m62 (hp : Has p lawNs) (hk : Kls p) (hn : 6 ≤ n) (hL : Lim t) {a b : Nat} (ha : a < (bT t).length) (hb : b < (bT t).length) (h9 : env[9]? = some (some (termD t))) (h5 : env[5]? = some (some (.lst ((clT t).map clD)))) (h6 : env[6]? = some (some (iD a))) (h10 : env[10]? = some (some (iD b))) : evE (tabN p n) (.p2 .ne (.call 62 [(.var 9),(.var 6),(.var 10)]) (.or (.p2 .inn (.disp .tup [false,false] [(.var 6),(.var 10)]) (.var 5)) (.p2 .inn (.disp .tup [false,false] [(.var 10),(.var 6)]) (.var 5)))) env S = some (.bl false, S) := by
  obtain ⟨k, e, hkk⟩ := c62 (p := p) (n := n) (hp.mono (by decide)) hk (by omega) hL ha hb S
  obtain ⟨k1, e1, hk1⟩ := in_cl hL (r := .inl a) (fun x e => by cases e) b S
  obtain ⟨k2, e2, hk2⟩ := in_cl hL (r := .inl b) (fun x e => by cases e) a S
  have hor : evE (tabN p n) (.or (.p2 .inn (.disp .tup [false,false] [(.var 6),(.var 10)]) (.var 5)) (.p2 .inn (.disp .tup [false,false] [(.var 10),(.var 6)]) (.var 5))) env S = some (.bl (k1 || k2), S) := by
    have i1 : evE (tabN p n) (.p2 .inn (.disp .tup [false,false] [(.var 6),(.var 10)]) (.var 5)) env S = some (.bl k1, S) := by
      simp only [e_p2, e_disp, p_cons, p_nil, v_of h6, v_of h10, v_of h5, List.headD_cons, List.tail_cons, Bool.false_eq_true, if_false, List.length_cons, List.length_nil, z2, if_true, o_in]
      rw [show (.tup [iD a, iD b] : D) = .tup [refD (.inl a), iD b] from rfl, e1]; rfl
    have i2 : evE (tabN p n) (.p2 .inn (.disp .tup [false,false] [(.var 10),(.var 6)]) (.var 5)) env S = some (.bl k2, S) := by
      simp only [e_p2, e_disp, p_cons, p_nil, v_of h6, v_of h10, v_of h5, List.headD_cons, List.tail_cons, Bool.false_eq_true, if_false, List.length_cons, List.length_nil, z2, if_true, o_in]
      rw [show (.tup [iD b, iD a] : D) = .tup [refD (.inl b), iD a] from rfl, e2]; rfl
    rw [e_or, i1]
    cases k1
    · simp only [i2]; rfl
    · rfl
  have hkeq : k = (k1 || k2) := by
    rw [Bool.eq_iff_iff, hkk, clash_sym ha hb, Bool.or_eq_true, hk1, hk2]
  have hca : evE (tabN p n) (.call 62 [(.var 9),(.var 6),(.var 10)]) env S = some (.bl k, S) := by
    simp only [e_call, l_cons, v_of h9, v_of h6, v_of h10, l_nil, e]
  rw [e_p2, hca]
  simp only [hor, o_ne, eq_bl, hkeq, beq_self_eq_true]
  rfl
theorem m300 (hp : Has p lawNs) (hk : Kls p) (hn : 6 ≤ n) (hL : Lim t) (h9 : env[9]? = some (some (termD t))) : ∃ c : Cell, ex (tabN p n) (.drop (.pm .append (.call 300 [.var 9]) [.con .non])) env S = some (.nx env ((S ++ [Cell.lst ((clT t).map clD)]).set S.length c)) := by
  have hc : (S ++ [Cell.lst ((clT t).map clD)])[S.length]? = some (.lst ((clT t).map clD)) := by simp
  have hl := cl_len hL
  refine ⟨.lst ((clT t).map clD ++ [.non]), ?_⟩
  simp only [s_drop, e_pm, e_call, l_cons, v_of h9, l_nil, c300 (p := p) (hp.mono (by decide)) hk hn hL, r_obj hc, if_true, l_cons, e_con, l_nil, m_app hc]
  rw [if_pos (by simp; omega)]
theorem m302 (hp : Has p lawNs) (hk : Kls p) (hn : 6 ≤ n) (hL : Lim t) {i : Nat} (hi : i < (bT t).length) (h9 : env[9]? = some (some (termD t))) (h6 : env[6]? = some (some (iD i))) : ∃ j X c, S.length ≤ j ∧ ex (tabN p n) (.drop (.pm .append (.call 302 [.var 9, .var 6]) [.con .non])) env S = some (.nx env ((S ++ X).set j c)) := by
  obtain ⟨j, X, zs, e, h1, h2, h3⟩ := c302 (p := p) (n := n) (hp.mono (by decide)) hk (by omega) hL hi S
  refine ⟨j, X, .lst (zs ++ [.non]), h1, ?_⟩
  simp only [s_drop, e_pm, e_call, l_cons, v_of h9, v_of h6, l_nil, e, r_obj h2, if_true, l_cons, e_con, l_nil, m_app h2]
  rw [if_pos h3]
end
end Sp

set_option Elab.async false
set_option linter.all false
set_option maxRecDepth 100000
namespace Sp
open LN LP PySem
variable {p : Prog}
def evA (ns : List Int) (k j : Nat) (t : Tr) (o : Nat) (e6 e7 e10 e11 e12 : Option D) : DEnv := [some (.scr (ns.map .int)), some (iD k), some (.obj j), some t.d, some (.lst (livesD t)), some (.lst ((clT t).map clD)), e6, e7, some (.obj o), some (termD t), e10, e11, e12, none, none]
section
variable {n : Nat} {t : Tr} {ns : List Int} {k j o : Nat} {S : Store}
def b10 : List IS := [(.ite (.p2 .ne (.call 62 [(.var 9),(.var 6),(.var 10)]) (.or (.p2 .inn (.disp .tup [false,false] [(.var 6),(.var 10)]) (.var 5)) (.p2 .inn (.disp .tup [false,false] [(.var 10),(.var 6)]) (.var 5)))) [(.ret (.con (.bl false)))] [])]
def b6 : List IS := [(.drop (.pm .append (.call 302 [(.var 9),(.var 6)]) [(.con .non)])), (.ite (.p2 .ne (.call 59 [(.var 9),(.var 6)]) (.p2 .idx (.var 4) (.var 6))) [(.ret (.con (.bl false)))] []), (.ite (.not (.call 420 [(.var 5),(.p2 .idx (.var 4) (.var 6)),(.var 6)])) [(.ret (.con (.bl false)))] []), (.for (.nm 10) 1 [(.pb .len false [(.var 4)])] b10)]
theorem lives_ln (t : Tr) : (livesD t).length = (bT t).length := by simp [livesD]
theorem loop10 (hp : Has p lawNs) (hk : Kls p) (hn : 6 ≤ n) (hL : Lim t) {i : Nat} (hi : i < (bT t).length) (e7 e10 e11 e12 : Option D) : ∃ e10', ex (tabN p n) (.for (.nm 10) 1 [(.pb .len false [(.var 4)])] b10) (evA ns k j t o (some (iD i)) e7 e10 e11 e12) S = some (.nx (evA ns k j t o (some (iD i)) e7 e10' e11 e12) S) := by
  have hbd := hL.bd
  obtain ⟨env1, S1, e, e10', rfl, rfl⟩ := E_for (T := tabN p n) (env := evA ns k j t o (some (iD i)) e7 e10 e11 e12) (tg := .nm 10) (k := 1) (it := [(.pb .len false [(.var 4)])]) (b := b10) (enc := iD) (ys := List.range (bT t).length) (ds := [iD (bT t).length]) (S := S) (S1 := S)
    (fun done env S' => ∃ e10, env = evA ns k j t o (some (iD i)) e7 e10 e11 e12 ∧ S' = S) (by rw [l_cons, e_pb, l_cons, v_of (d := .lst (livesD t)) rfl]; simp only [l_nil, b_lenl, lives_ln]) (by rw [src_rng (by omega), List.range_eq_range']) ⟨e10, rfl, rfl⟩ (by
    rintro done b rest hd env S' ⟨e10, rfl, rfl⟩
    have hb : b < (bT t).length := List.mem_range.mp (by rw [← hd]; simp)
    have hset : setT S' (.nm 10) (iD b) (evA ns k j t o (some (iD i)) e7 e10 e11 e12) = some (evA ns k j t o (some (iD i)) e7 (some (iD b)) e11 e12) := by rw [t_nm]; rfl
    refine ⟨evA ns k j t o (some (iD i)) e7 (some (iD b)) e11 e12, S', ?_, _, rfl, rfl⟩
    simp only [forStep, hset]
    exact s_nx (by rw [if_f (m62 hp hk hn hL hi hb rfl rfl rfl rfl) rfl, s_nil]) s_nil)
  exact ⟨e10', e⟩
theorem loop6 (hp : Has p lawNs) (hk : Kls p) (hn : 6 ≤ n) (hL : Lim t) (hQ : Qs t j o S) (e6 e7 e10 e11 e12 : Option D) : ∃ e6' e10' S1, ex (tabN p n) (.for (.nm 6) 1 [(.pb .len false [(.var 4)])] b6) (evA ns k j t o e6 e7 e10 e11 e12) S = some (.nx (evA ns k j t o e6' e7 e10' e11 e12) S1) ∧ Qs t j o S1 := by
  have hbd := hL.bd
  obtain ⟨env1, S1, e, e6', e10', rfl, hQ'⟩ := E_for (T := tabN p n) (env := evA ns k j t o e6 e7 e10 e11 e12) (tg := .nm 6) (k := 1) (it := [(.pb .len false [(.var 4)])]) (b := b6) (enc := iD) (ys := List.range (bT t).length) (ds := [iD (bT t).length]) (S := S) (S1 := S)
    (fun done env S' => ∃ e6 e10, env = evA ns k j t o e6 e7 e10 e11 e12 ∧ Qs t j o S') (by rw [l_cons, e_pb, l_cons, v_of (d := .lst (livesD t)) rfl]; simp only [l_nil, b_lenl, lives_ln]) (by rw [src_rng (by omega), List.range_eq_range']) ⟨e6, e10, rfl, hQ⟩ (by
    rintro done i rest hd env S' ⟨e6, e10, rfl, hQ⟩
    have hi : i < (bT t).length := List.mem_range.mp (by rw [← hd]; simp)
    have hset : setT S' (.nm 6) (iD i) (evA ns k j t o e6 e7 e10 e11 e12) = some (evA ns k j t o (some (iD i)) e7 e10 e11 e12) := by rw [t_nm]; rfl
    obtain ⟨q, X, c, hq, e302⟩ := m302 (p := p) (env := evA ns k j t o (some (iD i)) e7 e10 e11 e12) (S := S') hp hk hn hL hi rfl rfl
    obtain ⟨e10', e10e⟩ := loop10 (p := p) (ns := ns) (k := k) (j := j) (o := o) (S := (S' ++ X).set q c) hp hk hn hL hi e7 e10 e11 e12
    refine ⟨evA ns k j t o (some (iD i)) e7 e10' e11 e12, (S' ++ X).set q c, ?_, _, _, rfl, hQ.grow hq⟩
    simp only [forStep, hset]
    exact s_nx e302 (s_nx (by rw [if_f (m59 hp hk hn hL hi rfl rfl rfl) rfl, s_nil]) (s_nx (by rw [if_f (m420 hp hn hL hi rfl rfl rfl) rfl, s_nil]) (s_nx e10e s_nil))))
  exact ⟨e6', e10', S1, e, hQ'⟩
/-! ### the namings -/
theorem due_lc (hp : Has p lawNs) (hn : 6 ≤ n) (hL : Lim t) {xs : List Nm} (h : Nmg t xs) (e6 e7 e10 e12 : Option D) : evE (tabN p n) (.lc false [14] (.nm 14) 0 [(.var 5)] (some (.p2 .eq (.call 417 [(.var 8),(.var 11),(.p2 .idx (.var 14) (.con (.int 0)))]) (.p2 .idx (.var 11) (.p2 .idx (.var 14) (.con (.int 1)))))) (.var 14)) (evA ns k j t o e6 e7 e10 (some (nmsD xs)) e12) S = some (.lst ((hurtT t xs).map clD), S) := by
  have hcl := cl_len hL
  rw [E_lcf (enc := clD) (g := clD) (c := fun q => decide (nameOf xs q.1 = xs.getD q.2 [])) (ys := clT t) (ds := [.lst ((clT t).map clD)]) (S1 := S)]
  · rw [nl_f]; rfl
  · rw [l_cons, v_of (d := .lst ((clT t).map clD)) rfl]; simp only [l_nil]
  · exact .inl (by simp [srcD])
  · intro q hq
    obtain ⟨hq1, hq2⟩ := cl_lt hq
    let e2 : DEnv := [some (.scr (ns.map .int)), some (iD k), some (.obj j), some t.d, some (.lst (livesD t)), some (.lst ((clT t).map clD)), e6, e7, some (.obj o), some (termD t), e10, some (nmsD xs), e12, none, some (clD q)]
    have hw : setT S (.nm 14) (clD q) (wipeD (evA ns k j t o e6 e7 e10 (some (nmsD xs)) e12) [14]) = some e2 := by rw [t_nm]; rfl
    have v14 : ∀ S, evE (tabN p n) (.var 14) e2 S = some (clD q, S) := fun S => v_of rfl S
    have v11 : ∀ S, evE (tabN p n) (.var 11) e2 S = some (nmsD xs, S) := fun S => v_of rfl S
    have v8 : ∀ S, evE (tabN p n) (.var 8) e2 S = some (.obj o, S) := fun S => v_of rfl S
    have i0 : p2 .idx (clD q) (.int 0) S = some (refD q.1) := by simp [clD, ixD]
    have i1 : p2 .idx (clD q) (.int 1) S = some (iD q.2) := by simp [clD, ixD]
    have hn1 : nmOk (nameOf xs q.1) = true := by
      cases e : q.1 with
      | inl b => rw [e] at hq2; exact (nmg_at h (live_lt hq2).2).2
      | inr x => rw [e] at hq2; exact live_nm hL hq2
    have h417 := c417 (p := p) (n := n) (hp.mono (by decide)) (by omega) (.obj o) xs q.1 (fun b e => by rw [e] at hq2; rw [h.len]; exact (live_lt hq2).2) S
    have hc : evE (tabN p n) (.p2 .eq (.call 417 [(.var 8),(.var 11),(.p2 .idx (.var 14) (.con (.int 0)))]) (.p2 .idx (.var 11) (.p2 .idx (.var 14) (.con (.int 1))))) e2 S = some (.bl (decide (nameOf xs q.1 = xs.getD q.2 [])), S) := by
      simp only [e_p2, e_call, l_cons, v8, v11, v14, e_con, i0, i1, l_nil, h417, o_idxt, ixN, (nmg_at h hq1).1, o_eq, eq_str (sOk_nm hn1) (sOk_nm (nmg_at h hq1).2), Option.map_some]
    simp only [lcStep, hw, c_some, hc]
    cases decide (nameOf xs q.1 = xs.getD q.2 [])
    · rfl
    · simp only [v14, if_true]
  · omega
theorem plain_hurt (hL : Lim t) (xs : List Nm) : plain 2 (.lst ((hurtT t xs).map clD)) = true := List.all_eq_true.mpr fun x hx => by
  obtain ⟨q, hq, rfl⟩ := List.mem_map.mp hx
  exact plain_cl hL q (List.mem_filter.mp hq).1
theorem m63 (hp : Has p lawNs) (hk : Kls p) (hn : 6 ≤ n) (hL : Lim t) {xs : List Nm} (h : Nmg t xs) {env : DEnv} (h9 : env[9]? = some (some (termD t))) (h11 : env[11]? = some (some (nmsD xs))) (h12 : env[12]? = some (some (.lst ((hurtT t xs).map clD)))) : evE (tabN p n) (.p2 .ne (.call 63 [(.var 9),(.var 11)]) (.var 12)) env S = some (.bl false, S) := by
  simp only [e_p2, e_call, l_cons, v_of h9, v_of h11, v_of h12, l_nil, c63 (p := p) (hp.mono (by decide)) hk hn hL h, o_ne, eq_refl (plain_hurt hL xs) (show 2 ≤ 60 by omega)]
  rfl
theorem m55 (hp : Has p lawNs) (hk : Kls p) (hn : 6 ≤ n) (hL : Lim t) {xs : List Nm} (h : Nmg t xs) {env : DEnv} (h9 : env[9]? = some (some (termD t))) (h11 : env[11]? = some (some (nmsD xs))) (h12 : env[12]? = some (some (.lst ((hurtT t xs).map clD)))) : evE (tabN p n) (.p2 .ne (.p2 .eq (.var 12) (.disp .lst [] [])) (.call 55 [(.var 9),(.var 11)])) env S = some (.bl false, S) := by
  obtain ⟨k1, e1, hk1⟩ := c55 (p := p) (n := n) (hp.mono (by decide)) hk (by omega) hL h S
  obtain ⟨k2, e2, hk2⟩ := eq_plain (n := 2) (a := .lst ((hurtT t xs).map clD)) (b := .lst []) (plain_hurt hL xs) rfl (by omega) S
  have hq : k2 = k1 := by
    rw [Bool.eq_iff_iff, hk1, hk2, ← hurt_cat hL xs]
    simp
  have hE : evE (tabN p n) (.p2 .eq (.var 12) (.disp .lst [] [])) env S = some (.bl k2, S) := by
    simp only [e_p2, v_of h12, e_disp, p_nil, List.length_nil, z0, if_true, o_eq, e2, Option.map_some]
  rw [e_p2, hE]
  simp only [e_call, l_cons, v_of h9, v_of h11, l_nil, e1, o_ne, eq_bl, hq, beq_self_eq_true]
  rfl
def b7 : List IS := [(.asg (.nm 11) (.call 418 [(.var 2),(.var 8),(.slice (.disp .lst [false,false,false,false] [(.con (.str [120])),(.con (.str [121])),(.con (.str [122])),(.con (.str [97]))]) none (some (.p2 .add (.con (.int 2)) (.call 401 [(.var 2),(.con (.int 3))]))) false)])), (.asg (.nm 12) (.lc false [14] (.nm 14) 0 [(.var 5)] (some (.p2 .eq (.call 417 [(.var 8),(.var 11),(.p2 .idx (.var 14) (.con (.int 0)))]) (.p2 .idx (.var 11) (.p2 .idx (.var 14) (.con (.int 1)))))) (.var 14))), (.ite (.p2 .ne (.call 63 [(.var 9),(.var 11)]) (.var 12)) [(.ret (.con (.bl false)))] []), (.ite (.p2 .ne (.p2 .eq (.var 12) (.disp .lst [] [])) (.call 55 [(.var 9),(.var 11)])) [(.ret (.con (.bl false)))] []), (.ite (.p2 .ne (.call 61 [(.var 9)]) (.var 5)) [(.ret (.con (.bl false)))] [])]
theorem m418 (hp : Has p lawNs) (hn : 6 ≤ n) (hL : Lim t) (hQ : Qs t j o S) (hj : j < o) {env : DEnv} (h2 : env[2]? = some (some (.obj j))) (h8 : env[8]? = some (some (.obj o))) : ∃ xs S1, evE (tabN p n) (.call 418 [(.var 2),(.var 8),(.slice (.disp .lst [false,false,false,false] [(.con (.str [120])),(.con (.str [121])),(.con (.str [122])),(.con (.str [97]))]) none (some (.p2 .add (.con (.int 2)) (.call 401 [(.var 2),(.con (.int 3))]))) false)]) env S = some (nmsD xs, S1) ∧ Qs t j o S1 ∧ Nmg t xs := by
  obtain ⟨c, S1, hc, e1, hk1, _⟩ := c401 (p := p) (n := n) (hp.mono (by decide)) (by omega) hQ.s (top := 3) (by omega) (by omega)
  have hQ1 := hQ.keep hk1 hj
  obtain ⟨ws, hw, hcut⟩ : ∃ ws : List Nm, Wds ws ∧ cutD [D.str [120], D.str [121], D.str [122], D.str [97]] none (some ((2 : Int) + (c : Int))) = ws.map .str := by
    have : c = 0 ∨ c = 1 ∨ c = 2 := by omega
    rcases this with rfl | rfl | rfl
    · exact ⟨[[120], [121]], ⟨by decide, by decide, by decide⟩, rfl⟩
    · exact ⟨[[120], [121], [122]], ⟨by decide, by decide, by decide⟩, rfl⟩
    · exact ⟨[[120], [121], [122], [97]], ⟨by decide, by decide, by decide⟩, rfl⟩
  obtain ⟨xs, S2, e2, hk2, hN⟩ := c418 (p := p) (n := n) (hp.mono (by decide)) (by omega) hL hQ1.s hQ1.p hw
  refine ⟨xs, S2, ?_, hQ1.keep hk2 hj, hN⟩
  have hs : evE (tabN p n) (.slice (.disp .lst [false,false,false,false] [(.con (.str [120])),(.con (.str [121])),(.con (.str [122])),(.con (.str [97]))]) none (some (.p2 .add (.con (.int 2)) (.call 401 [(.var 2),(.con (.int 3))]))) false) env S = some (wD ws, S1) := by
    rw [e_cut (xs := [D.str [120], D.str [121], D.str [122], D.str [97]]) (i := (2 : Int) + (c : Int)) (S1 := S) (S2 := S1)]
    · rw [hcut]
    · simp only [e_disp, p_cons, p_nil, e_con, List.headD_cons, List.tail_cons, Bool.false_eq_true, if_false, List.length_cons, List.length_nil, z4, if_true]
    · have e1' : (tabN p n).fn 401 [.obj j, .int 3] S = some (iD c, S1) := e1
      simp only [e_p2, e_con, e_call, l_cons, v_of h2, l_nil, e1', o_add]
  simp only [e_call, l_cons, v_of h2, v_of h8, hs, l_nil, e2]
theorem loop7 (hp : Has p lawNs) (hk : Kls p) (hn : 6 ≤ n) (hL : Lim t) (hQ : Qs t j o S) (hj : j < o) (e6 e7 e10 e11 e12 : Option D) : ∃ e7' e11' e12' S1, ex (tabN p n) (.for (.nm 7) 1 [(.con (.int 8))] b7) (evA ns k j t o e6 e7 e10 e11 e12) S = some (.nx (evA ns k j t o e6 e7' e10 e11' e12') S1) ∧ Qs t j o S1 := by
  obtain ⟨env1, S1, e, e7', e11', e12', rfl, hQ'⟩ := E_for (T := tabN p n) (env := evA ns k j t o e6 e7 e10 e11 e12) (tg := .nm 7) (k := 1) (it := [(.con (.int 8))]) (b := b7) (enc := iD) (ys := List.range' 0 8) (ds := [iD 8]) (S := S) (S1 := S)
    (fun done env S' => ∃ e7 e11 e12, env = evA ns k j t o e6 e7 e10 e11 e12 ∧ Qs t j o S') (by simp only [l_cons, e_con, l_nil]; rfl) (src_rng (by omega) S) ⟨e7, e11, e12, rfl, hQ⟩ (by
    rintro done i rest hd env S' ⟨e7, e11, e12, rfl, hQ⟩
    have hset : setT S' (.nm 7) (iD i) (evA ns k j t o e6 e7 e10 e11 e12) = some (evA ns k j t o e6 (some (iD i)) e10 e11 e12) := by rw [t_nm]; rfl
    obtain ⟨xs, S1, e1, hQ1, hN⟩ := m418 (p := p) (S := S') (env := evA ns k j t o e6 (some (iD i)) e10 e11 e12) hp hn hL hQ hj rfl rfl
    refine ⟨evA ns k j t o e6 (some (iD i)) e10 (some (nmsD xs)) (some (.lst ((hurtT t xs).map clD))), S1, ?_, _, _, _, rfl, hQ1⟩
    simp only [forStep, hset]
    refine s_nx (env1 := evA ns k j t o e6 (some (iD i)) e10 (some (nmsD xs)) e12) (S1 := S1) ?_ (s_nx (env1 := evA ns k j t o e6 (some (iD i)) e10 (some (nmsD xs)) (some (.lst ((hurtT t xs).map clD)))) (S1 := S1) ?_ (s_nx (by rw [if_f (m63 hp hk hn hL hN rfl rfl rfl) rfl, s_nil]) (s_nx (by rw [if_f (m55 hp hk hn hL hN rfl rfl rfl) rfl, s_nil]) (s_nx (by rw [if_f (m61 hp hk hn hL rfl rfl) rfl, s_nil]) s_nil))))
    · rw [s_asg, e1]; simp only [t_nm]; rfl
    · rw [s_asg, due_lc hp hn hL hN]; simp only [t_nm]; rfl)
  exact ⟨e7', e11', e12', S1, e, hQ'⟩
end
end Sp

set_option Elab.async false
set_option linter.all false
set_option maxRecDepth 100000
namespace Sp
open LN LP PySem
variable {p : Prog}
def evB (ns : List Int) (e1 e2 e3 e4 e5 e6 e7 e8 e9 e10 e11 e12 : Option D) : DEnv := [some (.scr (ns.map .int)), e1, e2, e3, e4, e5, e6, e7, e8, e9, e10, e11, e12, none, none]
section
variable {n : Nat} {t : Tr} {ns : List Int} {k j o : Nat} {S : Store}
theorem m59l (hp : Has p lawNs) (hk : Kls p) (hn : 6 ≤ n) (hL : Lim t) (e6 e7 e10 e11 e12 : Option D) : evE (tabN p n) (.p2 .ne (.lc false [13] (.nm 13) 1 [(.pb .len false [(.var 4)])] none (.call 59 [(.var 9),(.var 13)])) (.var 4)) (evA ns k j t o e6 e7 e10 e11 e12) S = some (.bl false, S) := by
  have hbd := hL.bd
  have hlc : evE (tabN p n) (.lc false [13] (.nm 13) 1 [(.pb .len false [(.var 4)])] none (.call 59 [(.var 9),(.var 13)])) (evA ns k j t o e6 e7 e10 e11 e12) S = some (.lst (livesD t), S) := by
    rw [E_lcm (enc := iD) (g := fun b => .lst ((live t b).map refD)) (ys := List.range (bT t).length) (ds := [iD (bT t).length]) (S1 := S)]
    · rw [nl_f]; rfl
    · rw [l_cons, e_pb, l_cons, v_of (d := .lst (livesD t)) rfl]; simp only [l_nil, b_lenl, lives_ln]
    · exact .inl (by rw [src_rng (by omega), List.range_eq_range'])
    · intro b hb
      let e2 : DEnv := [some (.scr (ns.map .int)), some (iD k), some (.obj j), some t.d, some (.lst (livesD t)), some (.lst ((clT t).map clD)), e6, e7, some (.obj o), some (termD t), e10, e11, e12, some (iD b), none]
      have hw : setT S (.nm 13) (iD b) (wipeD (evA ns k j t o e6 e7 e10 e11 e12) [13]) = some e2 := by rw [t_nm]; rfl
      have v9 : ∀ S, evE (tabN p n) (.var 9) e2 S = some (termD t, S) := fun S => v_of rfl S
      have v13 : ∀ S, evE (tabN p n) (.var 13) e2 S = some (iD b, S) := fun S => v_of rfl S
      simp only [lcStep, hw, c_none, e_call, l_cons, v9, v13, l_nil, c59 (p := p) (hp.mono (by decide)) hk (show 5 ≤ n by omega) hL (List.mem_range.mp hb)]
    · simp; omega
  rw [e_p2, hlc]
  simp only [v_of (T := tabN p n) (env := evA ns k j t o e6 e7 e10 e11 e12) (i := 4) (d := .lst (livesD t)) rfl, o_ne, eq_refl (plain_lives hL) (show 2 ≤ 60 by omega)]
  rfl
def b1 : List IS := [(.asg (.nm 2) (.call 400 [(.var 0),(.var 1)])), (.asg (.nm 3) (.call 409 [(.var 2),(.con (.int 24)),(.con (.int 7))])), (.asg (.tup [(.nm 8),(.nm 9)]) (.disp .tup [false,false] [(.call 412 [(.var 3)]),(.make 1 12 true [(.var 3)])])), (.asg (.nm 4) (.call 416 [(.var 8)])), (.asg (.nm 5) (.call 419 [(.var 4)])), (.ite (.p2 .ne (.call 61 [(.var 9)]) (.var 5)) [(.ret (.con (.bl false)))] []), (.ite (.p2 .ne (.lc false [13] (.nm 13) 1 [(.pb .len false [(.var 4)])] none (.call 59 [(.var 9),(.var 13)])) (.var 4)) [(.ret (.con (.bl false)))] []), (.drop (.pm .append (.call 300 [(.var 9)]) [(.con .non)])), (.for (.nm 6) 1 [(.pb .len false [(.var 4)])] b6), (.for (.nm 7) 1 [(.con (.int 8))] b7)]
theorem turn (hp : Has p lawNs) (hk : Kls p) (hn : 56 ≤ n) (hkk : k < 100) (e2 e3 e4 e5 e6 e7 e8 e9 e10 e11 e12 : Option D) : ∃ a2 a3 a4 a5 a6 a7 a8 a9 a10 a11 a12 S1, exL (tabN p n) b1 (evB ns (some (iD k)) e2 e3 e4 e5 e6 e7 e8 e9 e10 e11 e12) S = some (.nx (evB ns (some (iD k)) a2 a3 a4 a5 a6 a7 a8 a9 a10 a11 a12) S1) := by
  obtain ⟨S1, h400, hS1⟩ := c400 (p := p) (n := n) (hp.mono (by decide)) (by omega) ns (k := k) (by omega) S
  obtain ⟨t, S2, h409, hk2, ok, sz, bd⟩ := c409 (p := p) (N := 24) (B := 7) (hp.mono (by decide)) (by omega) (by omega) (by omega) (n := n) (by omega) hS1
  have hL : Lim t := lim_of ok sz bd (by omega) (by omega)
  have hdp : t.dp ≤ 25 := by have := dp_sz t; omega
  have hj : S.length < S2.length := hk2.src.lt
  have hp3 := pg_at t S2 (pgU t) (pgA t)
  have hQ : Qs t S.length S2.length (pgS t S2 (pgU t) (pgA t)) := ⟨(Kp.new hk2.src _).src, ⟨hp3.1, hp3.2.1, hp3.2.2⟩⟩
  let S3 := pgS t S2 (pgU t) (pgA t)
  have h412 : (tabN p n).fn 412 [t.d] S2 = some (.obj S2.length, S3) := c412 (p := p) (hp.mono (by decide)) hL (by omega) S2
  have h416 := c416 (p := p) (n := n) (hp.mono (by decide)) (by omega) hL hQ.p
  have h419 := c419 (p := p) (n := n) (hp.mono (by decide)) (by omega) hL S3
  let A : DEnv := evA ns k S.length t S2.length e6 e7 e10 e11 e12
  obtain ⟨c, h300⟩ := m300 (p := p) (n := n) (S := S3) (env := A) hp hk (by omega) hL rfl
  have hQ4 := hQ.grow (X := [Cell.lst ((clT t).map clD)]) (c := c) (Nat.le_refl _)
  obtain ⟨e6', e10', S5, h6, hQ5⟩ := loop6 (p := p) (n := n) (ns := ns) (k := k) hp hk (by omega) hL hQ4 e6 e7 e10 e11 e12
  obtain ⟨e7', e11', e12', S6, h7, hQ6⟩ := loop7 (p := p) (n := n) (ns := ns) (k := k) hp hk (by omega) hL hQ5 hj e6' e7 e10' e11 e12
  refine ⟨some (.obj S.length), some t.d, some (.lst (livesD t)), some (.lst ((clT t).map clD)), e6', e7', some (.obj S2.length), some (termD t), e10', e11', e12', S6, ?_⟩
  refine s_nx (env1 := evB ns (some (iD k)) (some (.obj S.length)) e3 e4 e5 e6 e7 e8 e9 e10 e11 e12) (S1 := S1) ?_ (s_nx (env1 := evB ns (some (iD k)) (some (.obj S.length)) (some t.d) e4 e5 e6 e7 e8 e9 e10 e11 e12) (S1 := S2) ?_ (s_nx (env1 := evB ns (some (iD k)) (some (.obj S.length)) (some t.d) e4 e5 e6 e7 (some (.obj S2.length)) (some (termD t)) e10 e11 e12) (S1 := S3) ?_ (s_nx (env1 := evB ns (some (iD k)) (some (.obj S.length)) (some t.d) (some (.lst (livesD t))) e5 e6 e7 (some (.obj S2.length)) (some (termD t)) e10 e11 e12) (S1 := S3) ?_ (s_nx (env1 := A) (S1 := S3) ?_ (s_nx (by rw [if_f (m61 hp hk (by omega) hL rfl rfl) rfl, s_nil]) (s_nx (by rw [if_f (m59l hp hk (by omega) hL _ _ _ _ _) rfl, s_nil]) (s_nx h300 (s_nx h6 (s_nx h7 s_nil)))))))))
  · rw [s_asg, e_call, l_cons, v_of (d := .scr (ns.map .int)) rfl]
    simp only [l_cons, v_of (T := tabN p n) (env := evB ns (some (iD k)) e2 e3 e4 e5 e6 e7 e8 e9 e10 e11 e12) (i := 1) (d := iD k) rfl, l_nil, h400, t_nm]
    rfl
  · rw [s_asg, e_call, l_cons, v_of (d := .obj S.length) rfl]
    have h409' : (tabN p n).fn 409 [.obj S.length, .int 24, .int 7] S1 = some (t.d, S2) := h409
    simp only [l_cons, e_con, l_nil, h409', t_nm]
    rfl
  · let E : DEnv := evB ns (some (iD k)) (some (.obj S.length)) (some t.d) e4 e5 e6 e7 e8 e9 e10 e11 e12
    have v3 : ∀ S, evE (tabN p n) (.var 3) E S = some (t.d, S) := fun S => v_of rfl S
    have a1 : evE (tabN p n) (.call 412 [(.var 3)]) E S2 = some (.obj S2.length, S3) := by simp only [e_call, l_cons, v3, l_nil, h412]
    have a2 : evE (tabN p n) (.make 1 12 true [(.var 3)]) E S3 = some (termD t, S3) := e_term (p := p) (hp.mono (by decide)) hk hL (by omega) (v3 S3)
    rw [s_asg, e_disp]
    show (match (match evP (tabN p n) [false, false] [(.call 412 [(.var 3)]), (.make 1 12 true [(.var 3)])] E S2 with | some (xs, S1) => if szOk xs.length then some (D.tup xs, S1) else none | none => none) with | some (d, S1) => (match setT S1 (.tup [.nm 8, .nm 9]) d E with | some env1 => some (O.nx env1 S1) | none => none) | none => none) = _
    simp only [a1, p_cons, p_nil, a2, List.headD_cons, List.tail_cons, Bool.false_eq_true, if_false, List.length_cons, List.length_nil, z2, if_true, t_tupt, ts_cons, t_nm, ts_nil]
    rfl
  · rw [s_asg, e_call, l_cons, v_of (d := .obj S2.length) rfl]
    simp only [l_nil]
    rw [show (tabN p n).fn 416 [.obj S2.length] S3 = _ from h416]
    simp only [t_nm]
    rfl
  · rw [s_asg, e_call, l_cons, v_of (d := .lst (livesD t)) rfl]
    simp only [l_nil, h419, t_nm]
    rfl
theorem law_run (hp : Has p lawNs) (hk : Kls p) (hn : 56 ≤ n) (ns : List Int) (S : Store) : runF (tabN p n) D421 [.scr (ns.map .int)] S = some (.bl true, S) := by
  obtain ⟨q, hq, hit⟩ : ∃ q : Nat, q ≤ 8 ∧ ∀ env S, env[0]? = some (some (.scr (ns.map .int))) → evL (tabN p n) [(.pb .max false [(.con (.int 1)),(.pb .min false [(.con (.int 8)),(.pb .len false [(.var 0)])])])] env S = some ([iD q], S) := by
    refine ⟨if 1 < (if ns.length < 8 then ns.length else 8) then (if ns.length < 8 then ns.length else 8) else 1, by split <;> (try split) <;> omega, fun env S h0 => ?_⟩
    simp only [l_cons, e_pb, e_con, v_of h0, l_nil, b_lens, List.length_map, b_min2, b_max2]
    congr 4
    split <;> (try split) <;> (try split) <;> (try split) <;> omega
  obtain ⟨env1, S1, e, e1, e2, e3, e4, e5, e6, e7, e8, e9, e10, e11, e12, rfl⟩ := E_for (T := tabN p n) (env := evB ns none none none none none none none none none none none none) (tg := .nm 1) (k := 1) (it := [(.pb .max false [(.con (.int 1)),(.pb .min false [(.con (.int 8)),(.pb .len false [(.var 0)])])])]) (b := b1) (enc := iD) (ys := List.range' 0 q) (ds := [iD q]) (S := []) (S1 := [])
    (fun done env S' => ∃ e1 e2 e3 e4 e5 e6 e7 e8 e9 e10 e11 e12, env = evB ns e1 e2 e3 e4 e5 e6 e7 e8 e9 e10 e11 e12) (hit _ _ rfl) (src_rng (by omega) []) ⟨_, _, _, _, _, _, _, _, _, _, _, _, rfl⟩ (by
    rintro done i rest hd env S' ⟨e1, e2, e3, e4, e5, e6, e7, e8, e9, e10, e11, e12, rfl⟩
    have hi : i < q := by
      have : i ∈ List.range' 0 q := by rw [← hd]; simp
      simpa using this
    have hset : setT S' (.nm 1) (iD i) (evB ns e1 e2 e3 e4 e5 e6 e7 e8 e9 e10 e11 e12) = some (evB ns (some (iD i)) e2 e3 e4 e5 e6 e7 e8 e9 e10 e11 e12) := by rw [t_nm]; rfl
    obtain ⟨a2, a3, a4, a5, a6, a7, a8, a9, a10, a11, a12, S1, e⟩ := turn (p := p) (n := n) (ns := ns) (k := i) (S := S') hp hk hn (by omega) e2 e3 e4 e5 e6 e7 e8 e9 e10 e11 e12
    refine ⟨evB ns (some (iD i)) a2 a3 a4 a5 a6 a7 a8 a9 a10 a11 a12, S1, ?_, _, _, _, _, _, _, _, _, _, _, _, _, rfl⟩
    simp only [forStep, hset]
    exact e)
  refine run_0 (d := .bl true) (S1 := S1) rfl (by rw [pureL, pureD, pu_ints, pureL]; rfl) rfl (s_nx e (s_rt ?_)) (frz_pure rfl _) S
  rw [s_ret, e_con]
end
end Sp

set_option Elab.async false
set_option linter.all false
set_option maxRecDepth 100000
set_option maxHeartbeats 0
namespace LP
open PySem PySem.Spec PyProof.Rows L2 LN
theorem noOne : NoOne prog := fun f d h => by
  have k : (fdL.all fun o => o.2.mode != 1) = true := by decide +kernel
  have := List.all_eq_true.mp k _ (lookP h)
  simpa using this
theorem hasP : Has prog Sp.lawNs := fun f hf => by
  simp only [Sp.lawNs, List.mem_cons, List.not_mem_nil, or_false] at hf
  rcases hf with rfl | rfl | rfl | rfl | rfl | rfl | rfl | rfl | rfl | rfl | rfl | rfl | rfl | rfl | rfl | rfl | rfl | rfl | rfl | rfl | rfl | rfl | rfl | rfl | rfl | rfl | rfl | rfl | rfl | rfl | rfl | rfl | rfl | rfl | rfl | rfl | rfl | rfl | rfl | rfl | rfl | rfl | rfl | rfl | rfl | rfl | rfl | rfl | rfl | rfl | rfl | rfl | rfl | rfl | rfl <;> rfl
theorem klsP : Sp.Kls prog := ⟨by decide, by decide, by decide, by decide, by decide, by decide, by decide⟩
theorem facts {P : Program} {w : World} {K : PySem.W.Frag} {h : Heap} {mg : Str → Option Value} {f : Addr} (KX : K.In h) (Gn : h.Ns mainGlobals mg) (hfa : mg ("law" : Str) = some (.ref f)) (cx : He.SaysX fa fn [] tf exB w h K) :
    ∃ (fd : FuncData) (cs : List (Addr × Addr)) (sp : L2.Sp), (∀ p ∈ cs, h.get? p.2 = some { cls := .none, data := .fields #[] }) ∧ (∀ p ∈ cs, K.lookup p.2 = none) ∧ (∀ p ∈ cs, PySem.W.CodeHd h p.1 p.2) ∧ (∀ (s : Shared) (u : Value), BindsTo s fd ⟨[u], []⟩ [("_law_script", u)]) ∧
    (∀ (H : Hp) (a : Addr) (ns : List Int), ns.length ≤ 63 → (∀ z ∈ ns, Builtin.Int.intBits z ≤ 1048576) → (∀ p ∈ cs, H p.2 = some (.tbl #[])) → SqL K H a (ns.map V.int) → sp [.ref a] H (fun v _ => v = .bl true) fun _ _ _ => False) ∧
    ∀ base : Heap, K.In base → base.Ns mainGlobals mg → (∀ p ∈ cs, LamX.TabB base mg p.1 p.2) → FnOk P w K mg base CX0 122 f fd ["_law_script"] sp := by
  have c := cx.t.d
  obtain ⟨fd, F⟩ := c.def_ 62 (d := d421) rfl
  have hat : f = adK K 421 := by
    have hg : gQ K mg ("law" : Str) (.fn 421 1) := (gA c KX Gn).get (by rfl)
    have e := hfa.symm.trans hg.1
    cases e
    rfl
  subst hat
  refine ⟨fd, tf.map (He.cT K), spS (Wk K) (fun ds S => if D421.mode = 1 then none else runF (tabN prog 60) D421 ds S), ?_, ?_, ?_, ?_, ?_, ?_⟩
  · intro p hp
    obtain ⟨x, hx, rfl⟩ := List.mem_map.mp hp
    exact cx.empty _ hx
  · intro p hp
    obtain ⟨x, hx, rfl⟩ := List.mem_map.mp hp
    exact cx.out _ hx
  · intro p hp
    obtain ⟨x, hx, rfl⟩ := List.mem_map.mp hp
    exact PySem.W.codeHd_of_K KX (cx.hd _ hx)
  · have b := FunD.bindsA (ps := ["_law_script"]) F fun _ _ _ _ _ _ us hl => match us, hl with | [_], _ => rfl
    exact fun s v => b s [v] rfl
  · intro H a ns _ _ hT hS
    refine sp_law (W := Wk K) (S' := []) (tabs_start fun p hp => ?_) hS ?_
    · obtain ⟨x, hx, rfl⟩ := List.mem_map.mp hp
      exact hT _ (List.mem_map_of_mem hx)
    · have e := Sp.law_run (p := prog) (n := 60) hasP klsP (by decide) ns []
      rw [if_neg (by decide)]
      exact e
  · intro base _ _ hTB
    have st := stat (P := P) (w := w) (base := base) cx KX Gn (fun p hp => hTB _ (List.mem_map_of_mem hp))
    obtain ⟨a1, a2, a3⟩ := all_ok st noOne 60
    exact def_okI st a1 a2 a3 (f := 421) (d := D421) rfl F f421 rfl rfl fun T k => s421 (nmsOk K)
end LP
open PySem PySem.W PySem.Calls PyProof.Rows
set_option maxRecDepth 100000 in
set_option maxHeartbeats 0 in
theorem PySem.Challenge.cw_livenames_k08_whole_clashes_holds : PySem.Challenge.rw_livenames_k08_whole_clashes.Holds := by
  w_on; o_law
  refine HandSHeadRun.head_any (r := OpenLaw.row PySem.Challenge.rw_livenames_k08_whole_clashes) (q := view (OpenLaw.row PySem.Challenge.rw_livenames_k08_whole_clashes).prog [66]) (H := LP.hk) (ob := LP.ob) (M := 6000) (loose := LP.names) (d := HandSHeadRun.topDef (OpenLaw.row PySem.Challenge.rw_livenames_k08_whole_clashes).prog 66) (kwd := []) LP.ob_eq
    (by kernel_rfl) (fun s => by kernel_rfl) LP.run (by kernel_rfl) (by kernel_rfl) (by kernel_rfl) (by rfl) (by first | assumption | decide +kernel) (by decide +kernel) ⟨rfl, rfl, rfl, rfl, rfl, by decide +kernel⟩ ?hw ?hc
  case hw => w_witness2
  case hc =>
    refine LamX.walk_ofTsE (l := PySem.Challenge.rw_livenames_k08_whole_clashes) (n := 63) (k := 122) (x := "_law_script") (CX := fun _ => L2.CX0) rfl (by decide) (by kernel_rfl) ⟨rfl, by decide, by decide⟩ ?F (fun _ _ _ _ _ z => z)
    intro w mg fa h Y G hmg0
    obtain ⟨K, KX, c⟩ := Y
    have hmg : mg ("law" : PySem.Str) = some (.ref fa) := by
      have e : (HandSHeadRun.topDef (OpenLaw.row PySem.Challenge.rw_livenames_k08_whole_clashes).prog 66).name = ("law" : PySem.Str) := by kernel_rfl
      rw [← e]
      exact hmg0
    exact ⟨K, KX, LP.facts (P := (PySem.Challenge.rw_livenames_k08_whole_clashes).prog) (w := w) KX G hmg c⟩
