import PyProof.Rows.All
import Wide.All
import OpenK.AllK
import Wide.FinOn
import KE.KStateDown
import HandS.ForMost
import HandS.More
import HandS.WordsExc
import HandS.Defaults
import HandS.Codes
import HandS.Head0
import HandS.Head1
import HandS.Head2
import HandS.HeadEnd
import HandS.HeadHook1
import HandS.HeadHook2
import HandS.HeadHook4
import PySem.Challenge.RW_livenames_k09_known_terms
import HandS.Lambda
import HandS.IsInst
import HandS.Star
import HandS.Deep
import HandS.GenList
import HandS.WordsDict
import HandS.Conv
import HandS.NoneIn
import HandS.Style
import HandS.Small
import HandS.GenYield
import HandS.DictComp
import KE.SortKeyHeap
import HandS.MakeKwOnly
import HandS.HeadWalk
set_option Elab.async false
set_option linter.all false
set_option maxRecDepth 100000
set_option maxHeartbeats 0
namespace LP
open PySem PySem.Spec PyProof.Rows L2
def top (i : Nat) : Stmt := PySem.Challenge.pw_livenames_k09_known_terms.main.body.getD i (.Pass ⟨0, 0, 0, 0⟩)
def d6 : He.DefD := ⟨(("is_whole" : PySem.Str), none), ("is_whole" : PySem.Str), ("is_whole" : PySem.Str), defArgs (top 12), defBody (top 12), defScope (top 12), [], []⟩
def d7 : He.DefD := ⟨(("is_number" : PySem.Str), none), ("is_number" : PySem.Str), ("is_number" : PySem.Str), defArgs (top 13), defBody (top 13), defScope (top 13), [], []⟩
def d8 : He.DefD := ⟨(("is_name" : PySem.Str), none), ("is_name" : PySem.Str), ("is_name" : PySem.Str), defArgs (top 14), defBody (top 14), defScope (top 14), [], []⟩
def d9 : He.DefD := ⟨(("is_line" : PySem.Str), none), ("is_line" : PySem.Str), ("is_line" : PySem.Str), defArgs (top 15), defBody (top 15), defScope (top 15), [], []⟩
def d10 : He.DefD := ⟨(("are_unlike" : PySem.Str), none), ("are_unlike" : PySem.Str), ("are_unlike" : PySem.Str), defArgs (top 16), defBody (top 16), defScope (top 16), [], []⟩
def d11 : He.DefD := ⟨(("each_once" : PySem.Str), none), ("each_once" : PySem.Str), ("each_once" : PySem.Str), defArgs (top 17), defBody (top 17), defScope (top 17), [], []⟩
def d12 : He.DefD := ⟨(("ordered" : PySem.Str), none), ("ordered" : PySem.Str), ("ordered" : PySem.Str), defArgs (top 18), defBody (top 18), defScope (top 18), [], []⟩
def d13 : He.DefD := ⟨(("name_at" : PySem.Str), none), ("name_at" : PySem.Str), ("name_at" : PySem.Str), defArgs (top 19), defBody (top 19), defScope (top 19), [], []⟩
def d14 : He.DefD := ⟨(("first_names" : PySem.Str), none), ("first_names" : PySem.Str), ("first_names" : PySem.Str), defArgs (top 20), defBody (top 20), defScope (top 20), [], []⟩
def d15 : He.DefD := ⟨(("is_tree" : PySem.Str), none), ("is_tree" : PySem.Str), ("is_tree" : PySem.Str), defArgs (top 25), defBody (top 25), defScope (top 25), [], []⟩
def d16 : He.DefD := ⟨(("are_trees" : PySem.Str), none), ("are_trees" : PySem.Str), ("are_trees" : PySem.Str), defArgs (top 26), defBody (top 26), defScope (top 26), [], []⟩
def d17 : He.DefD := ⟨(("parts_of" : PySem.Str), none), ("parts_of" : PySem.Str), ("parts_of" : PySem.Str), defArgs (top 27), defBody (top 27), defScope (top 27), [], []⟩
def d18 : He.DefD := ⟨(("deep_of" : PySem.Str), none), ("deep_of" : PySem.Str), ("deep_of" : PySem.Str), defArgs (top 28), defBody (top 28), defScope (top 28), [], []⟩
def d19 : He.DefD := ⟨(("Flat" : PySem.Str), some ("__init__" : PySem.Str)), ("__init__" : PySem.Str), ("Flat.__init__" : PySem.Str), defArgs (inClass (top 29) 0), defBody (inClass (top 29) 0), defScope (inClass (top 29) 0), [], []⟩
def d20 : He.DefD := ⟨(("Flat" : PySem.Str), some ("add" : PySem.Str)), ("add" : PySem.Str), ("Flat.add" : PySem.Str), defArgs (inClass (top 29) 1), defBody (inClass (top 29) 1), defScope (inClass (top 29) 1), [], []⟩
def d21 : He.DefD := ⟨(("Term" : PySem.Str), some ("__init__" : PySem.Str)), ("__init__" : PySem.Str), ("Term.__init__" : PySem.Str), defArgs (inClass (top 30) 0), defBody (inClass (top 30) 0), defScope (inClass (top 30) 0), [], []⟩
def d22 : He.DefD := ⟨(("Term" : PySem.Str), some ("meant" : PySem.Str)), ("meant" : PySem.Str), ("Term.meant" : PySem.Str), defArgs (inClass (top 30) 1), defBody (inClass (top 30) 1), defScope (inClass (top 30) 1), [], []⟩
def d23 : He.DefD := ⟨(("Term" : PySem.Str), some ("tree" : PySem.Str)), ("tree" : PySem.Str), ("Term.tree" : PySem.Str), defArgs (inClass (top 30) 2), defBody (inClass (top 30) 2), defScope (inClass (top 30) 2), [], []⟩
def d25 : He.DefD := ⟨(("Term" : PySem.Str), some ("binders" : PySem.Str)), ("binders" : PySem.Str), ("Term.binders" : PySem.Str), defArgs (inClass (top 30) 4), defBody (inClass (top 30) 4), defScope (inClass (top 30) 4), [], []⟩
def d26 : He.DefD := ⟨(("Term" : PySem.Str), some ("uses" : PySem.Str)), ("uses" : PySem.Str), ("Term.uses" : PySem.Str), defArgs (inClass (top 30) 5), defBody (inClass (top 30) 5), defScope (inClass (top 30) 5), [], []⟩
def d28 : He.DefD := ⟨(("Term" : PySem.Str), some ("__len__" : PySem.Str)), ("__len__" : PySem.Str), ("Term.__len__" : PySem.Str), defArgs (inClass (top 30) 7), defBody (inClass (top 30) 7), defScope (inClass (top 30) 7), [], []⟩
def d29 : He.DefD := ⟨(("Term" : PySem.Str), some ("__getitem__" : PySem.Str)), ("__getitem__" : PySem.Str), ("Term.__getitem__" : PySem.Str), defArgs (inClass (top 30) 8), defBody (inClass (top 30) 8), defScope (inClass (top 30) 8), [], []⟩
def d30 : He.DefD := ⟨(("Term" : PySem.Str), some ("__contains__" : PySem.Str)), ("__contains__" : PySem.Str), ("Term.__contains__" : PySem.Str), defArgs (inClass (top 30) 9), defBody (inClass (top 30) 9), defScope (inClass (top 30) 9), [], []⟩
def d32 : He.DefD := ⟨(("Term" : PySem.Str), some ("__eq__" : PySem.Str)), ("__eq__" : PySem.Str), ("Term.__eq__" : PySem.Str), defArgs (inClass (top 30) 11), defBody (inClass (top 30) 11), defScope (inClass (top 30) 11), [], []⟩
def d36 : He.DefD := ⟨(("look_at_term" : PySem.Str), none), ("look_at_term" : PySem.Str), ("look_at_term" : PySem.Str), defArgs (top 31), defBody (top 31), defScope (top 31), [], []⟩
def d37 : He.DefD := ⟨(("look_at_binder" : PySem.Str), none), ("look_at_binder" : PySem.Str), ("look_at_binder" : PySem.Str), defArgs (top 32), defBody (top 32), defScope (top 32), [], []⟩
def d38 : He.DefD := ⟨(("are_such_names" : PySem.Str), none), ("are_such_names" : PySem.Str), ("are_such_names" : PySem.Str), defArgs (top 34), defBody (top 34), defScope (top 34), [], []⟩
def d39 : He.DefD := ⟨(("look_at_names" : PySem.Str), none), ("look_at_names" : PySem.Str), ("look_at_names" : PySem.Str), defArgs (top 35), defBody (top 35), defScope (top 35), [], []⟩
def d40 : He.DefD := ⟨(("name_for" : PySem.Str), none), ("name_for" : PySem.Str), ("name_for" : PySem.Str), defArgs (top 36), defBody (top 36), defScope (top 36), [], []⟩
def d41 : He.DefD := ⟨(("inner" : PySem.Str), none), ("inner" : PySem.Str), ("inner" : PySem.Str), defArgs (top 37), defBody (top 37), defScope (top 37), [], []⟩
def d42 : He.DefD := ⟨(("catches_of" : PySem.Str), none), ("catches_of" : PySem.Str), ("catches_of" : PySem.Str), defArgs (top 38), defBody (top 38), defScope (top 38), [], []⟩
def d43 : He.DefD := ⟨(("is_right" : PySem.Str), none), ("is_right" : PySem.Str), ("is_right" : PySem.Str), defArgs (top 39), defBody (top 39), defScope (top 39), [], []⟩
def d44 : He.DefD := ⟨(("catches" : PySem.Str), none), ("catches" : PySem.Str), ("catches" : PySem.Str), defArgs (top 40), defBody (top 40), defScope (top 40), [], []⟩
def d45 : He.DefD := ⟨(("all_live" : PySem.Str), none), ("all_live" : PySem.Str), ("all_live" : PySem.Str), defArgs (top 42), defBody (top 42), defScope (top 42), [], []⟩
def d46 : He.DefD := ⟨(("in_line" : PySem.Str), none), ("in_line" : PySem.Str), ("in_line" : PySem.Str), defArgs (top 43), defBody (top 43), defScope (top 43), [], []⟩
def d47 : He.DefD := ⟨(("live_at" : PySem.Str), none), ("live_at" : PySem.Str), ("live_at" : PySem.Str), defArgs (top 44), defBody (top 44), defScope (top 44), [], []⟩
def d48 : He.DefD := ⟨(("pairs_of" : PySem.Str), none), ("pairs_of" : PySem.Str), ("pairs_of" : PySem.Str), defArgs (top 45), defBody (top 45), defScope (top 45), [], []⟩
def d49 : He.DefD := ⟨(("clashes" : PySem.Str), none), ("clashes" : PySem.Str), ("clashes" : PySem.Str), defArgs (top 46), defBody (top 46), defScope (top 46), [], []⟩
def d50 : He.DefD := ⟨(("free_of" : PySem.Str), none), ("free_of" : PySem.Str), ("free_of" : PySem.Str), defArgs (top 48), defBody (top 48), defScope (top 48), [], []⟩
def d51 : He.DefD := ⟨(("free_names" : PySem.Str), none), ("free_names" : PySem.Str), ("free_names" : PySem.Str), defArgs (top 49), defBody (top 49), defScope (top 49), [], []⟩
def d52 : He.DefD := ⟨(("meaning" : PySem.Str), none), ("meaning" : PySem.Str), ("meaning" : PySem.Str), defArgs (top 50), defBody (top 50), defScope (top 50), [], []⟩
def d53 : He.DefD := ⟨(("binders_in" : PySem.Str), none), ("binders_in" : PySem.Str), ("binders_in" : PySem.Str), defArgs (top 52), defBody (top 52), defScope (top 52), [], []⟩
def d54 : He.DefD := ⟨(("width_of" : PySem.Str), none), ("width_of" : PySem.Str), ("width_of" : PySem.Str), defArgs (top 53), defBody (top 53), defScope (top 53), [], []⟩
def d55 : He.DefD := ⟨(("width" : PySem.Str), none), ("width" : PySem.Str), ("width" : PySem.Str), defArgs (top 54), defBody (top 54), defScope (top 54), [], []⟩
def d56 : He.DefD := ⟨(("fewest" : PySem.Str), none), ("fewest" : PySem.Str), ("fewest" : PySem.Str), defArgs (top 55), defBody (top 55), defScope (top 55), [], [(("apart" : PySem.Str), .bl false)]⟩
def d57 : He.DefD := ⟨(("pool_for" : PySem.Str), none), ("pool_for" : PySem.Str), ("pool_for" : PySem.Str), defArgs (top 56), defBody (top 56), defScope (top 56), [], []⟩
def d58 : He.DefD := ⟨(("told_for" : PySem.Str), none), ("told_for" : PySem.Str), ("told_for" : PySem.Str), defArgs (top 57), defBody (top 57), defScope (top 57), [], []⟩
def d59 : He.DefD := ⟨(("told_naming" : PySem.Str), none), ("told_naming" : PySem.Str), ("told_naming" : PySem.Str), defArgs (top 58), defBody (top 58), defScope (top 58), [], [(("apart" : PySem.Str), .bl false)]⟩
def d60 : He.DefD := ⟨(("names_used" : PySem.Str), none), ("names_used" : PySem.Str), ("names_used" : PySem.Str), defArgs (top 59), defBody (top 59), defScope (top 59), [], []⟩
def d61 : He.DefD := ⟨(("accepts_fewest" : PySem.Str), none), ("accepts_fewest" : PySem.Str), ("accepts_fewest" : PySem.Str), defArgs (top 60), defBody (top 60), defScope (top 60), [], []⟩
def d62 : He.DefD := ⟨(("is_pool" : PySem.Str), none), ("is_pool" : PySem.Str), ("is_pool" : PySem.Str), defArgs (top 63), defBody (top 63), defScope (top 63), [], []⟩
def d63 : He.DefD := ⟨(("look_at_pool" : PySem.Str), none), ("look_at_pool" : PySem.Str), ("look_at_pool" : PySem.Str), defArgs (top 64), defBody (top 64), defScope (top 64), [], []⟩
def d64 : He.DefD := ⟨(("choices_for" : PySem.Str), none), ("choices_for" : PySem.Str), ("choices_for" : PySem.Str), defArgs (top 65), defBody (top 65), defScope (top 65), [], []⟩
def d65 : He.DefD := ⟨(("product" : PySem.Str), none), ("product" : PySem.Str), ("product" : PySem.Str), defArgs (top 66), defBody (top 66), defScope (top 66), [], []⟩
def d66 : He.DefD := ⟨(("how_many" : PySem.Str), none), ("how_many" : PySem.Str), ("how_many" : PySem.Str), defArgs (top 67), defBody (top 67), defScope (top 67), [], []⟩
def d67 : He.DefD := ⟨(("let_at" : PySem.Str), none), ("let_at" : PySem.Str), ("let_at" : PySem.Str), defArgs (top 68), defBody (top 68), defScope (top 68), [], []⟩
def d68 : He.DefD := ⟨(("naming_by" : PySem.Str), none), ("naming_by" : PySem.Str), ("naming_by" : PySem.Str), defArgs (top 69), defBody (top 69), defScope (top 69), [], []⟩
def d70 : He.DefD := ⟨(("_law_pool" : PySem.Str), none), ("_law_pool" : PySem.Str), ("_law_pool" : PySem.Str), defArgs (top 72), defBody (top 72), defScope (top 72), [], []⟩
def d71 : He.DefD := ⟨(("_law_take" : PySem.Str), none), ("_law_take" : PySem.Str), ("_law_take" : PySem.Str), defArgs (top 73), defBody (top 73), defScope (top 73), [], []⟩
def d72 : He.DefD := ⟨(("_law_turned" : PySem.Str), none), ("_law_turned" : PySem.Str), ("_law_turned" : PySem.Str), defArgs (top 74), defBody (top 74), defScope (top 74), [], []⟩
def d73 : He.DefD := ⟨(("_law_use" : PySem.Str), none), ("_law_use" : PySem.Str), ("_law_use" : PySem.Str), defArgs (top 75), defBody (top 75), defScope (top 75), [], []⟩
def d74 : He.DefD := ⟨(("_law_two_right" : PySem.Str), none), ("_law_two_right" : PySem.Str), ("_law_two_right" : PySem.Str), defArgs (top 76), defBody (top 76), defScope (top 76), [], []⟩
def d75 : He.DefD := ⟨(("_law_three_right" : PySem.Str), none), ("_law_three_right" : PySem.Str), ("_law_three_right" : PySem.Str), defArgs (top 77), defBody (top 77), defScope (top 77), [], []⟩
def d76 : He.DefD := ⟨(("_law_free_right" : PySem.Str), none), ("_law_free_right" : PySem.Str), ("_law_free_right" : PySem.Str), defArgs (top 78), defBody (top 78), defScope (top 78), [], []⟩
def d77 : He.DefD := ⟨(("_law_ahead_right" : PySem.Str), none), ("_law_ahead_right" : PySem.Str), ("_law_ahead_right" : PySem.Str), defArgs (top 79), defBody (top 79), defScope (top 79), [], []⟩
def d78 : He.DefD := ⟨(("law" : PySem.Str), none), ("law" : PySem.Str), ("law" : PySem.Str), defArgs (top 80), defBody (top 80), defScope (top 80), [], []⟩
def d69 : He.DefD := ⟨(("all_namings" : PySem.Str), none), ("all_namings" : PySem.Str), ("all_namings" : PySem.Str), defArgs (top 70), defBody (top 70), defScope (top 70), [], []⟩
def fn : List He.DefD := [d6, d7, d8, d9, d10, d11, d12, d13, d14, d15, d16, d17] ++ [d18, d19, d20, d21, d22, d23, d25, d26, d28, d29, d30, d32] ++ [d36, d37, d38, d39, d40, d41, d42, d43, d44, d45, d46, d47] ++ [d48, d49, d50, d51, d52, d53, d54, d55, d56, d57, d58, d59] ++ [d60, d61, d62, d63, d64, d65, d66, d67, d68, d70, d71, d72] ++ [d73, d74, d75, d76, d77, d78, d69]
def fa : List He.Fa := [.glo ("is_whole" : PySem.Str), .glo ("is_number" : PySem.Str), .glo ("is_name" : PySem.Str), .glo ("is_line" : PySem.Str), .glo ("are_unlike" : PySem.Str), .glo ("each_once" : PySem.Str), .glo ("ordered" : PySem.Str), .glo ("name_at" : PySem.Str), .glo ("first_names" : PySem.Str), .glo ("is_tree" : PySem.Str), .glo ("are_trees" : PySem.Str), .glo ("parts_of" : PySem.Str)] ++ [.glo ("deep_of" : PySem.Str), .glo ("look_at_term" : PySem.Str), .glo ("look_at_binder" : PySem.Str), .glo ("are_such_names" : PySem.Str), .glo ("look_at_names" : PySem.Str), .glo ("name_for" : PySem.Str), .glo ("inner" : PySem.Str), .glo ("catches_of" : PySem.Str), .glo ("is_right" : PySem.Str), .glo ("catches" : PySem.Str), .glo ("all_live" : PySem.Str), .glo ("in_line" : PySem.Str)] ++ [.glo ("live_at" : PySem.Str), .glo ("pairs_of" : PySem.Str), .glo ("clashes" : PySem.Str), .glo ("free_of" : PySem.Str), .glo ("free_names" : PySem.Str), .glo ("meaning" : PySem.Str), .glo ("binders_in" : PySem.Str), .glo ("width_of" : PySem.Str), .glo ("width" : PySem.Str), .glo ("fewest" : PySem.Str), .glo ("pool_for" : PySem.Str), .glo ("told_for" : PySem.Str)] ++ [.glo ("told_naming" : PySem.Str), .glo ("names_used" : PySem.Str), .glo ("accepts_fewest" : PySem.Str), .glo ("is_pool" : PySem.Str), .glo ("look_at_pool" : PySem.Str), .glo ("choices_for" : PySem.Str), .glo ("product" : PySem.Str), .glo ("how_many" : PySem.Str), .glo ("let_at" : PySem.Str), .glo ("naming_by" : PySem.Str), .glo ("all_namings" : PySem.Str), .glo ("_law_pool" : PySem.Str)] ++ [.glo ("_law_take" : PySem.Str), .glo ("_law_turned" : PySem.Str), .glo ("_law_use" : PySem.Str), .glo ("_law_two_right" : PySem.Str), .glo ("_law_three_right" : PySem.Str), .glo ("_law_free_right" : PySem.Str), .glo ("_law_ahead_right" : PySem.Str), .glo ("law" : PySem.Str), .glo ("Flat" : PySem.Str), .cls ("Flat" : PySem.Str), .mkr ("Flat" : PySem.Str), .glo ("Term" : PySem.Str)] ++ [.cls ("Term" : PySem.Str), .mkr ("Term" : PySem.Str), .free ("len" : PySem.Str), .free ("list" : PySem.Str), .free ("tuple" : PySem.Str), .free ("max" : PySem.Str), .free ("min" : PySem.Str), .free ("all" : PySem.Str), .free ("int" : PySem.Str), .free ("sorted" : PySem.Str), .free ("str" : PySem.Str), .free ("bool" : PySem.Str)] ++ [.free ("isinstance" : PySem.Str), .free ("range" : PySem.Str), .free ("enumerate" : PySem.Str), .str ("LETTERS" : PySem.Str) ⟨#[97,98,99,100,101,102,103,104,105,106,107,108,109,110,111,112,113,114,115,116,117,118,119,120,121,122]⟩, .int ("MOST_LETTERS" : PySem.Str) 8, .int ("MOST_NODES" : PySem.Str) 400, .int ("MOST_BINDERS" : PySem.Str) 60, .int ("MOST_DEEP" : PySem.Str) 100, .int ("MOST_POOL" : PySem.Str) 60, .noat ("Flat" : PySem.Str) ("around" : PySem.Str), .noat ("Flat" : PySem.Str) ("binder_nodes" : PySem.Str), .noat ("Flat" : PySem.Str) ("nodes" : PySem.Str)] ++ [.noat ("Flat" : PySem.Str) ("use_nodes" : PySem.Str), .noat ("Term" : PySem.Str) ("binder_nodes" : PySem.Str), .noat ("Term" : PySem.Str) ("own_around" : PySem.Str), .noat ("Term" : PySem.Str) ("own_meaning" : PySem.Str), .noat ("Term" : PySem.Str) ("own_names" : PySem.Str), .noat ("Term" : PySem.Str) ("own_nodes" : PySem.Str), .noat ("Term" : PySem.Str) ("own_tree" : PySem.Str), .noat ("Term" : PySem.Str) ("use_around" : PySem.Str), .noat ("Term" : PySem.Str) ("use_nodes" : PySem.Str), .meth ("Flat" : PySem.Str) ("add" : PySem.Str), .meth ("Term" : PySem.Str) ("meant" : PySem.Str), .meth ("Term" : PySem.Str) ("tree" : PySem.Str)] ++ [.meth ("Term" : PySem.Str) ("binders" : PySem.Str), .meth ("Term" : PySem.Str) ("uses" : PySem.Str), .meth ("Term" : PySem.Str) ("__len__" : PySem.Str), .meth ("Term" : PySem.Str) ("__getitem__" : PySem.Str), .meth ("Term" : PySem.Str) ("__contains__" : PySem.Str), .meth ("Term" : PySem.Str) ("__eq__" : PySem.Str)]
def tf : List He.Defn := [(("ordered" : PySem.Str), none)]
def btn : List String := ["int", "bool", "str", "tuple", "list", "dict"]
def exB (K : PySem.W.Frag) : Bool := He.eqO (PySem.W.findIn K (.ref (He.ga K "Term")) "__class__") (some (some (.builtin "object.__class__"))) && (He.eqO (PySem.W.specialIn K (.builtin "object.__class__") "__get__") (some (some (.builtin "getset_descriptor.__get__"))) &&
  (decide (PySem.W.takesIn K (.builtin "object.__class__") = some true) && (decide (PySem.W.mroIn K (He.ga K "Term") (.type "object") = some true) && (decide (PySem.W.kitOne K (.type "NoneType") (.ref (He.ga K "Term")) = some false) &&
  ((btn.all fun b => decide (PySem.W.kitOne K (.type b) (.ref (He.ga K "Term")) = some false) && decide (PySem.W.kitOne K (.ref (He.ga K "Term")) (.type b) = some false)) && decide (PySem.W.kitOne K (.ref (He.ga K "Term")) (.ref (He.ga K "Term")) = some true))))))
def nm0 : List PySem.Str := [("_wall" : PySem.Str), ("BinderError" : PySem.Str), ("NoTerm" : PySem.Str), ("NoNode" : PySem.Str), ("NoBinder" : PySem.Str), ("NoNames" : PySem.Str), ("NoPool" : PySem.Str), ("TooMany" : PySem.Str), ("LETTERS" : PySem.Str), ("MOST_LETTERS" : PySem.Str), ("is_whole" : PySem.Str), ("is_number" : PySem.Str), ("is_name" : PySem.Str), ("is_line" : PySem.Str), ("are_unlike" : PySem.Str), ("each_once" : PySem.Str), ("ordered" : PySem.Str), ("name_at" : PySem.Str), ("first_names" : PySem.Str), ("MOST_NODES" : PySem.Str)]
def nm1 : List PySem.Str := [("MOST_BINDERS" : PySem.Str), ("MOST_DEEP" : PySem.Str), ("is_tree" : PySem.Str), ("are_trees" : PySem.Str), ("parts_of" : PySem.Str), ("deep_of" : PySem.Str), ("Flat" : PySem.Str), ("Term" : PySem.Str), ("look_at_term" : PySem.Str), ("look_at_binder" : PySem.Str), ("are_such_names" : PySem.Str), ("look_at_names" : PySem.Str), ("name_for" : PySem.Str), ("inner" : PySem.Str), ("catches_of" : PySem.Str), ("is_right" : PySem.Str), ("catches" : PySem.Str), ("all_live" : PySem.Str), ("in_line" : PySem.Str), ("live_at" : PySem.Str)]
def nm2 : List PySem.Str := [("pairs_of" : PySem.Str), ("clashes" : PySem.Str), ("free_of" : PySem.Str), ("free_names" : PySem.Str), ("meaning" : PySem.Str), ("binders_in" : PySem.Str), ("width_of" : PySem.Str), ("width" : PySem.Str), ("fewest" : PySem.Str), ("pool_for" : PySem.Str), ("told_for" : PySem.Str), ("told_naming" : PySem.Str), ("names_used" : PySem.Str), ("accepts_fewest" : PySem.Str), ("MOST_POOL" : PySem.Str), ("is_pool" : PySem.Str), ("look_at_pool" : PySem.Str), ("choices_for" : PySem.Str), ("product" : PySem.Str), ("how_many" : PySem.Str)]
def nm3 : List PySem.Str := [("let_at" : PySem.Str), ("naming_by" : PySem.Str), ("all_namings" : PySem.Str), ("_law_pool" : PySem.Str), ("_law_take" : PySem.Str), ("_law_turned" : PySem.Str), ("_law_use" : PySem.Str), ("_law_two_right" : PySem.Str), ("_law_three_right" : PySem.Str), ("_law_free_right" : PySem.Str), ("_law_ahead_right" : PySem.Str)]
def names : List PySem.Str := nm0 ++ nm1 ++ nm2 ++ nm3
abbrev R : PySem.W.OpenRow := PySem.W.OpenLaw.row PySem.Challenge.rw_livenames_k09_known_terms
abbrev hk : PySem.W.Hook := He.hookX 5 fa fn [] tf exB
def ob (s : PySem.W.SharedT) : He.AlX := He.obsX 5 fa fn [] tf exB (HandSHeadRun.getT s)
theorem ob_eq (s : PySem.W.SharedT) : ob s = hk.obs s.abs := He.obsX_eq (HandSHeadRun.getT_eq s)
theorem run (w : World) : HandSHeadRun.RunEq R (PySem.W.view R.prog [80]) hk ob 6000 names w := by
  intro os
  kernel_rfl
end LP
set_option Elab.async false
set_option linter.all false
set_option maxRecDepth 100000
set_option maxHeartbeats 1000000
namespace LN
open PySem L2

/-! ### data, stores -/
inductive D where
  | non | bl (b : Bool) | int (i : Int) | str (s : List Nat)
  | tup (xs : List D) | lst (xs : List D) | scr (xs : List D)
  | ins (c : Nat) (ks : List Nat) (xs : List D)
  | obj (i : Nat)
abbrev DK := Sum Int (List Nat)
inductive Cell where
  | lst (xs : List D)
  | ins (c : Nat) (ks : List Nat) (xs : List D)
  | dct (ks : List DK) (xs : List D)
abbrev Store := List Cell
abbrev DEnv := List (Option D)

def kC : DK → Key
  | .inl i => .inl i
  | .inr s => .inr ⟨s.toArray⟩
theorem kC_inj {a b : DK} (h : kC a = kC b) : a = b := by
  cases a <;> cases b <;> simp [kC] at h
  · rw [h]
  · rw [h]

/-- the written part, the classes' places, the fields' names -/
structure WP where
  K : PySem.W.Frag
  cls : Nat → Addr
  fnm : Nat → Str
  tbs : List (Addr × Str)

mutual
inductive Den (W : WP) (B : Hp) (μ : List Addr) : D → V → Prop
  | non : Den W B μ .non .non
  | bl (b : Bool) : Den W B μ (.bl b) (.bl b)
  | int (i : Int) : Den W B μ (.int i) (.int i)
  | str (s : List Nat) : Den W B μ (.str s) (.str ⟨s.toArray⟩)
  | tup {xs : List D} {a : Addr} {vs : List V} (h : SqT W.K B a vs) (r : DenL W B μ xs vs) : Den W B μ (.tup xs) (.ref a)
  | lst {xs : List D} {a : Addr} {vs : List V} (h : B a = some (.lst vs)) (r : DenL W B μ xs vs) : Den W B μ (.lst xs) (.ref a)
  | scr {xs : List D} {a : Addr} {vs : List V} (h : SqL W.K B a vs) (r : DenL W B μ xs vs) : Den W B μ (.scr xs) (.ref a)
  | ins {c : Nat} {ks : List Nat} {xs : List D} {a dx : Addr} {vs : List V} (h : B a = some (.ins (W.cls c) dx ((ks.map W.fnm).zip vs))) (hl : ks.length = xs.length) (r : DenL W B μ xs vs) : Den W B μ (.ins c ks xs) (.ref a)
  | obj {i : Nat} {a : Addr} (h : μ[i]? = some a) : Den W B μ (.obj i) (.ref a)
inductive DenL (W : WP) (B : Hp) (μ : List Addr) : List D → List V → Prop
  | nil : DenL W B μ [] []
  | cons {d : D} {v : V} {ds : List D} {vs : List V} (h : Den W B μ d v) (r : DenL W B μ ds vs) : DenL W B μ (d :: ds) (v :: vs)
end

def Ex (B B' : Hp) : Prop := ∀ a o, B a = some o → B' a = some o
theorem Ex.refl (B : Hp) : Ex B B := fun _ _ h => h
theorem Ex.trans {B B1 B2 : Hp} (a : Ex B B1) (b : Ex B1 B2) : Ex B B2 := fun x o h => b x o (a x o h)
theorem Ex.new {H : Hp} {p : Addr} {o : HO} (h : H p = none) : Ex H (upd H p o) := fun a u e => by
  rw [upd_ne (ne_of_none e h)]
  exact e
theorem ex_rd {H H' : Hp} {a : Addr} {u : HO} (e : Ex H H') (h : Rd H a u) : Rd H' a u := by
  rcases h with h | ⟨o, h⟩
  · exact Or.inl (e a _ h)
  · exact Or.inr ⟨o, e a _ h⟩
theorem ex_l {K : PySem.W.Frag} {H H' : Hp} {a : Addr} {xs : List V} (e : Ex H H') (h : SqL K H a xs) : SqL K H' a xs := by
  rcases h with h | h
  · exact Or.inl (ex_rd e h)
  · exact Or.inr h
theorem ex_t {K : PySem.W.Frag} {H H' : Hp} {a : Addr} {xs : List V} (e : Ex H H') (h : SqT K H a xs) : SqT K H' a xs := by
  rcases h with h | h
  · exact Or.inl (ex_rd e h)
  · exact Or.inr h

def Pre (μ μ' : List Addr) : Prop := ∃ ν, μ' = μ ++ ν
theorem Pre.refl (μ : List Addr) : Pre μ μ := ⟨[], by simp⟩
theorem Pre.trans {a b c : List Addr} (h : Pre a b) (k : Pre b c) : Pre a c := by
  obtain ⟨x, rfl⟩ := h
  obtain ⟨y, rfl⟩ := k
  exact ⟨x ++ y, by simp⟩
theorem Pre.at {μ μ' : List Addr} {i : Nat} {a : Addr} (h : Pre μ μ') (e : μ[i]? = some a) : μ'[i]? = some a := by
  obtain ⟨ν, rfl⟩ := h
  have : i < μ.length := (List.getElem?_eq_some_iff.mp e).1
  rw [List.getElem?_append_left this]
  exact e

variable {W : WP} {B B' : Hp} {μ μ' : List Addr}
mutual
theorem Den.mono (e : Ex B B') (p : Pre μ μ') : ∀ (d : D) (v : V), Den W B μ d v → Den W B' μ' d v
  | .non, _, h => by cases h; exact .non
  | .bl _, _, h => by cases h; exact .bl _
  | .int _, _, h => by cases h; exact .int _
  | .str _, _, h => by cases h; exact .str _
  | .tup xs, _, h => by cases h with | tup h r => exact .tup (ex_t e h) (DenL.mono e p xs _ r)
  | .lst xs, _, h => by cases h with | lst h r => exact .lst (e _ _ h) (DenL.mono e p xs _ r)
  | .scr xs, _, h => by cases h with | scr h r => exact .scr (ex_l e h) (DenL.mono e p xs _ r)
  | .ins _ _ xs, _, h => by cases h with | ins h hl r => exact .ins (e _ _ h) hl (DenL.mono e p xs _ r)
  | .obj _, _, h => by cases h with | obj h => exact .obj (p.at h)
theorem DenL.mono (e : Ex B B') (p : Pre μ μ') : ∀ (ds : List D) (vs : List V), DenL W B μ ds vs → DenL W B' μ' ds vs
  | [], _, h => by cases h; exact .nil
  | d :: ds, _, h => by cases h with | cons h r => exact .cons (Den.mono e p d _ h) (DenL.mono e p ds _ r)
end
theorem DenL.length : ∀ {ds : List D} {vs : List V}, DenL W B μ ds vs → ds.length = vs.length
  | [], _, h => by cases h; rfl
  | _ :: _, _, h => by cases h with | cons h r => exact congrArg Nat.succ (DenL.length r)
theorem DenL.at : ∀ {ds : List D} {vs : List V} {i : Nat} {d : D}, DenL W B μ ds vs → ds[i]? = some d → ∃ v, vs[i]? = some v ∧ Den W B μ d v
  | [], _, _, _, _, e => by simp at e
  | x :: ds, _, 0, d, h, e => by
    cases h with | cons h r => simp at e; subst e; exact ⟨_, rfl, h⟩
  | _ :: ds, _, i + 1, d, h, e => by
    cases h with | cons h r => exact DenL.at (i := i) r (by simpa using e)
theorem DenL.append : ∀ {ds es : List D} {vs ws : List V}, DenL W B μ ds vs → DenL W B μ es ws → DenL W B μ (ds ++ es) (vs ++ ws)
  | [], _, _, _, h, k => by cases h; exact k
  | _ :: _, _, _, _, h, k => by cases h with | cons h r => exact .cons h (DenL.append r k)
theorem DenL.set : ∀ {ds : List D} {vs : List V} {i : Nat} {d : D} {v : V}, DenL W B μ ds vs → Den W B μ d v → DenL W B μ (ds.set i d) (vs.set i v)
  | [], _, _, _, _, h, _ => by cases h; exact .nil
  | _ :: _, _, 0, _, _, h, k => by cases h with | cons h r => exact .cons k r
  | _ :: _, _, i + 1, _, _, h, k => by cases h with | cons h r => exact .cons h (DenL.set (i := i) r k)
theorem DenL.take : ∀ {ds : List D} {vs : List V} (n : Nat), DenL W B μ ds vs → DenL W B μ (ds.take n) (vs.take n)
  | [], _, n, h => by cases h; cases n <;> exact .nil
  | _ :: _, _, 0, h => by cases h; exact .nil
  | _ :: _, _, n + 1, h => by cases h with | cons h r => exact .cons h (DenL.take n r)
theorem DenL.drop : ∀ {ds : List D} {vs : List V} (n : Nat), DenL W B μ ds vs → DenL W B μ (ds.drop n) (vs.drop n)
  | [], _, n, h => by cases h; cases n <;> exact .nil
  | _ :: _, _, 0, h => h
  | _ :: _, _, n + 1, h => by cases h with | cons h r => exact DenL.drop n r
theorem DenL.reverse : ∀ {ds : List D} {vs : List V}, DenL W B μ ds vs → DenL W B μ ds.reverse vs.reverse
  | [], _, h => by cases h; exact .nil
  | d :: ds, _, h => by
    cases h with | cons h r => rw [List.reverse_cons, List.reverse_cons]; exact (DenL.reverse r).append (.cons h .nil)

/-! ### the store in the heap -/
def COk (W : WP) (B : Hp) (μ : List Addr) (H : Hp) (a : Addr) : Cell → Prop
  | .lst xs => ∃ vs, H a = some (.lst vs) ∧ DenL W B μ xs vs
  | .ins c ks xs => ∃ dx vs, H a = some (.ins (W.cls c) dx ((ks.map W.fnm).zip vs)) ∧ ks.length = xs.length ∧ DenL W B μ xs vs
  | .dct ks xs => ∃ vs, H a = some (.dK ((ks.map kC).zip vs)) ∧ ks.length = xs.length ∧ DenL W B μ xs vs
structure Rel (W : WP) (B : Hp) (μ : List Addr) (S : Store) (H : Hp) : Prop where
  sub : Ex B H
  len : μ.length = S.length
  nd : μ.Nodup
  cell : ∀ (i : Nat) (a : Addr) (c : Cell), μ[i]? = some a → S[i]? = some c → B a = none ∧ COk W B μ H a c
  tb : LamX.Tabs W.tbs H
  nt : ∀ a ps, B a ≠ some (.tbl ps)
theorem tabs_new {T : List (Addr × Str)} {H : Hp} {p : Addr} {o : HO} (h : LamX.Tabs T H) (hp : H p = none) : LamX.Tabs T (upd H p o) := h.ext (Ex.new hp)
/-- an object that is neither a table nor a code object -/
def plainO : HO → Prop
  | .lst _ => True
  | .ins _ _ _ => True
  | .dK _ => True
  | .frz _ _ => True
  | .tup _ => True
  | _ => False
theorem tabs_at {T : List (Addr × Str)} {H H' : Hp} (h : LamX.Tabs T H) (k : ∀ a o, H a = some o → ¬ plainO o → H' a = some o) : LamX.Tabs T H' := fun p hp => by
  obtain ⟨ps, h1, h2, h3⟩ := h p hp
  refine ⟨ps, k _ _ h1 (fun z => z), h2, fun pos cv hc => ?_⟩
  obtain ⟨c, e1, e2⟩ := h3 pos cv hc
  exact ⟨c, e1, k _ _ e2 (fun z => z)⟩
theorem tabs_write {T : List (Addr × Str)} {H : Hp} {a : Addr} {ob o : HO} (h : LamX.Tabs T H) (ha : H a = some ob) (hb : plainO ob) : LamX.Tabs T (upd H a o) := tabs_at h fun b x hx hn => by
  have ne : b ≠ a := fun q => by subst q; rw [ha] at hx; cases hx; exact hn hb
  rw [upd_ne ne]; exact hx
def NoTbl (o : HO) : Prop := ∀ ps, o ≠ .tbl ps
theorem nt_upd {B : Hp} {p : Addr} {o : HO} (h : ∀ a ps, B a ≠ some (.tbl ps)) (ho : NoTbl o) : ∀ a ps, upd B p o a ≠ some (.tbl ps) := fun a ps e => by
  by_cases q : a = p
  · subst q; rw [upd_same] at e; exact ho ps (Option.some.inj e)
  · rw [upd_ne q] at e; exact h a ps e
/-- nothing but a table may stand there -/
def Fresh (H : Hp) (a : Addr) : Prop := ∀ o, NoTbl o → H a ≠ some o
theorem fresh_of {H : Hp} {a : Addr} (h : H a = none) : Fresh H a := fun o _ e => by rw [h] at e; cases e
theorem Fresh.no {H : Hp} {a : Addr} {o : HO} (f : Fresh H a) (hn : NoTbl o) (e : H a = some o) : False := f o hn e
theorem fresh_new {H : Hp} {p a : Addr} {o : HO} (hp : H p = none) (h : Fresh (upd H p o) a) : Fresh H a := by
  by_cases q : a = p
  · subst q; exact fresh_of hp
  · intro x hn e
    exact h x hn (by rw [upd_ne q]; exact e)
theorem fresh_upd {H : Hp} {p a : Addr} {o : HO} (ho : NoTbl o) (h : Fresh (upd H p o) a) : Fresh H a := by
  by_cases q : a = p
  · subst q; exact (h o ho upd_same).elim
  · intro x hn e
    exact h x hn (by rw [upd_ne q]; exact e)
structure Step (B : Hp) (μ : List Addr) (H B' : Hp) (μ' : List Addr) (H' : Hp) : Prop where
  pre : ∃ ν, μ' = μ ++ ν ∧ ∀ a ∈ ν, Fresh H a
  grow : Ex B B'
  new : ∀ a o, B' a = some o → B a = some o ∨ Fresh H a
  frame : ∀ a o, H a = some o → a ∉ μ → NoTbl o → H' a = some o
  keep : ∀ a, Fresh H' a → Fresh H a
theorem Step.refl (B : Hp) (μ : List Addr) (H : Hp) : Step B μ H B μ H := ⟨⟨[], by simp, by simp⟩, Ex.refl _, fun _ _ h => .inl h, fun _ _ h _ _ => h, fun _ h => h⟩
theorem Step.p {H H' : Hp} (s : Step B μ H B' μ' H') : Pre μ μ' := let ⟨ν, e, _⟩ := s.pre; ⟨ν, e⟩
theorem Step.trans {B1 B2 : Hp} {μ1 μ2 : List Addr} {H H1 H2 : Hp} (s : Step B μ H B1 μ1 H1) (t : Step B1 μ1 H1 B2 μ2 H2) : Step B μ H B2 μ2 H2 := by
  have none_of := s.keep
  obtain ⟨ν, rfl, n1⟩ := s.pre
  obtain ⟨ν', rfl, n2⟩ := t.pre
  refine ⟨⟨ν ++ ν', by simp, fun a ha => ?_⟩, s.grow.trans t.grow, fun a o h => ?_, fun a o h ha hn => ?_, fun a h => s.keep a (t.keep a h)⟩
  · rcases List.mem_append.mp ha with h | h
    · exact n1 a h
    · exact none_of a (n2 a h)
  · rcases t.new a o h with h | h
    · exact s.new a o h
    · exact .inr (none_of a h)
  · have h1 := s.frame a o h ha hn
    refine t.frame a o h1 (fun hm => ?_) hn
    rcases List.mem_append.mp hm with q | q
    · exact ha q
    · exact (n1 a q).no hn h
theorem COk.mono {H : Hp} {a : Addr} {c : Cell} (e : Ex B B') (p : Pre μ μ') (h : COk W B μ H a c) : COk W B' μ' H a c := by
  cases c with
  | lst xs => obtain ⟨vs, h1, h2⟩ := h; exact ⟨vs, h1, DenL.mono e p _ _ h2⟩
  | ins c ks xs => obtain ⟨dx, vs, h1, hl, h2⟩ := h; exact ⟨dx, vs, h1, hl, DenL.mono e p _ _ h2⟩
  | dct ks xs => obtain ⟨vs, h1, hl, h2⟩ := h; exact ⟨vs, h1, hl, DenL.mono e p _ _ h2⟩
theorem COk.at {H H' : Hp} {a : Addr} {c : Cell} (k : ∀ o, plainO o → H a = some o → H' a = some o) (h : COk W B μ H a c) : COk W B μ H' a c := by
  cases c with
  | lst xs => obtain ⟨vs, h1, h2⟩ := h; exact ⟨vs, k _ trivial h1, h2⟩
  | ins c ks xs => obtain ⟨dx, vs, h1, hl, h2⟩ := h; exact ⟨dx, vs, k _ trivial h1, hl, h2⟩
  | dct ks xs => obtain ⟨vs, h1, hl, h2⟩ := h; exact ⟨vs, k _ trivial h1, hl, h2⟩
theorem COk.plain {H : Hp} {a : Addr} {c : Cell} (h : COk W B μ H a c) : ∃ o, H a = some o ∧ plainO o := by
  cases c with
  | lst xs => obtain ⟨vs, h1, h2⟩ := h; exact ⟨_, h1, trivial⟩
  | ins c ks xs => obtain ⟨dx, vs, h1, hl, h2⟩ := h; exact ⟨_, h1, trivial⟩
  | dct ks xs => obtain ⟨vs, h1, hl, h2⟩ := h; exact ⟨_, h1, trivial⟩
theorem COk.there {H : Hp} {a : Addr} {c : Cell} (h : COk W B μ H a c) : ∃ o, H a = some o := let ⟨o, e, _⟩ := h.plain; ⟨o, e⟩
theorem plain_nt {o : HO} (h : plainO o) : NoTbl o := fun ps e => by subst e; exact h
theorem Rel.mem {S : Store} {H : Hp} (r : Rel W B μ S H) {a : Addr} (h : a ∈ μ) : B a = none ∧ ∃ o, H a = some o := by
  obtain ⟨i, hi, e⟩ := List.mem_iff_getElem.mp h
  have e1 : μ[i]? = some a := by rw [List.getElem?_eq_getElem hi, e]
  have hi2 : i < S.length := by rw [← r.len]; exact hi
  obtain ⟨b, c⟩ := r.cell i a _ e1 (List.getElem?_eq_getElem hi2)
  exact ⟨b, c.there⟩
theorem Rel.memP {S : Store} {H : Hp} (r : Rel W B μ S H) {a : Addr} (h : a ∈ μ) : ∃ o, H a = some o ∧ plainO o := by
  obtain ⟨i, hi, e⟩ := List.mem_iff_getElem.mp h
  have e1 : μ[i]? = some a := by rw [List.getElem?_eq_getElem hi, e]
  have hi2 : i < S.length := by rw [← r.len]; exact hi
  exact (r.cell i a _ e1 (List.getElem?_eq_getElem hi2)).2.plain

/-- a new object of data -/
theorem Rel.data {S : Store} {H : Hp} {p : Addr} {o : HO} (r : Rel W B μ S H) (hp : H p = none) (ho : NoTbl o := by intro ps h; cases h) : Step B μ H (upd B p o) μ (upd H p o) ∧ Rel W (upd B p o) μ S (upd H p o) := by
  have hB : B p = none := by
    cases q : B p with
    | none => rfl
    | some x => rw [r.sub p x q] at hp; cases hp
  have hm : p ∉ μ := fun h => by
    obtain ⟨_, o, e⟩ := r.mem h
    rw [hp] at e; cases e
  refine ⟨⟨⟨[], by simp, by simp⟩, Ex.new hB, fun a x h => ?_, fun a x h _ _ => Ex.new hp a x h, fun a h => fresh_new hp h⟩, ⟨fun a x h => ?_, r.len, r.nd, fun i a c h1 h2 => ?_, tabs_new r.tb hp, nt_upd r.nt ho⟩⟩
  · by_cases q : a = p
    · subst q; exact .inr (fresh_of hp)
    · rw [upd_ne q] at h; exact .inl h
  · by_cases q : a = p
    · subst q; rw [upd_same] at h ⊢; exact h
    · rw [upd_ne q] at h ⊢; exact r.sub a x h
  · obtain ⟨b, c⟩ := r.cell i a c h1 h2
    have ne : a ≠ p := fun q => hm (q ▸ List.mem_of_getElem? h1)
    exact ⟨by rw [upd_ne ne]; exact b, (c.mono (Ex.new hB) (Pre.refl _)).at fun o _ h => by rw [upd_ne ne]; exact h⟩
/-- a new cell -/
theorem Rel.newc {S : Store} {H : Hp} {p : Addr} {o : HO} {c : Cell} (r : Rel W B μ S H) (hp : H p = none) (hc : COk W B (μ ++ [p]) (upd H p o) p c) : Step B μ H B (μ ++ [p]) (upd H p o) ∧ Rel W B (μ ++ [p]) (S ++ [c]) (upd H p o) := by
  have hB : B p = none := by
    cases q : B p with
    | none => rfl
    | some x => rw [r.sub p x q] at hp; cases hp
  have hm : p ∉ μ := fun h => by
    obtain ⟨_, o, e⟩ := r.mem h
    rw [hp] at e; cases e
  refine ⟨⟨⟨[p], rfl, fun a ha => by simp at ha; subst ha; exact fresh_of hp⟩, Ex.refl _, fun a x h => .inl h, fun a x h _ _ => Ex.new hp a x h, fun a h => fresh_new hp h⟩, ⟨r.sub.trans (Ex.new hp), by simp [r.len], ?_, fun i a c' h1 h2 => ?_, tabs_new r.tb hp, r.nt⟩⟩
  · rw [List.nodup_append]
    exact ⟨r.nd, by simp, fun a ha b hb => by simp at hb; subst hb; exact fun e => hm (e ▸ ha)⟩
  · by_cases hi : i < μ.length
    · rw [List.getElem?_append_left hi] at h1
      rw [List.getElem?_append_left (by rw [← r.len]; exact hi)] at h2
      obtain ⟨b, c⟩ := r.cell i a c' h1 h2
      have ne : a ≠ p := fun q => hm (q ▸ List.mem_of_getElem? h1)
      exact ⟨b, (c.mono (Ex.refl _) ⟨[p], rfl⟩).at fun o _ h => by rw [upd_ne ne]; exact h⟩
    · have e : i = μ.length := by
        have := (List.getElem?_eq_some_iff.mp h1).1
        simp at this; omega
      subst e
      rw [List.getElem?_append_right (Nat.le_refl _)] at h1
      rw [r.len, List.getElem?_append_right (Nat.le_refl _)] at h2
      simp at h1 h2
      subst h1 h2
      exact ⟨hB, hc⟩
theorem nodup_at {l : List Addr} (nd : l.Nodup) {i j : Nat} {a : Addr} (h1 : l[i]? = some a) (h2 : l[j]? = some a) : i = j := by
  obtain ⟨hi, e1⟩ := List.getElem?_eq_some_iff.mp h1
  obtain ⟨hj, e2⟩ := List.getElem?_eq_some_iff.mp h2
  exact (List.getElem_inj nd).mp (e1.trans e2.symm)
/-- a cell written -/
theorem Rel.write {S : Store} {H : Hp} {i : Nat} {a : Addr} {o : HO} {c : Cell} (r : Rel W B μ S H) (hi : μ[i]? = some a) (hc : COk W B μ (upd H a o) a c) : Step B μ H B μ (upd H a o) ∧ Rel W B μ (S.set i c) (upd H a o) := by
  obtain ⟨hB, ob, hob⟩ := r.mem (List.mem_of_getElem? hi)
  obtain ⟨ob2, hob2, hpl⟩ := r.memP (List.mem_of_getElem? hi)
  have hno : NoTbl o := by
    obtain ⟨o2, e2, p2⟩ := hc.plain
    rw [upd_same] at e2
    cases e2
    exact plain_nt p2
  refine ⟨⟨⟨[], by simp, by simp⟩, Ex.refl _, fun a x h => .inl h, fun b x h hb _ => ?_, fun b h => fresh_upd hno h⟩, ⟨fun b x h => ?_, by simp [r.len], r.nd, fun j b c' h1 h2 => ?_, tabs_write r.tb hob2 hpl, r.nt⟩⟩
  · have ne : b ≠ a := fun q => hb (q ▸ List.mem_of_getElem? hi)
    rw [upd_ne ne]; exact h
  · have ne : b ≠ a := fun q => by subst q; rw [hB] at h; cases h
    rw [upd_ne ne]; exact r.sub b x h
  · by_cases e : j = i
    · subst e
      rw [hi] at h1; cases h1
      have hj : j < S.length := by rw [← r.len]; exact (List.getElem?_eq_some_iff.mp hi).1
      rw [List.getElem?_set_self hj] at h2
      cases h2
      exact ⟨hB, hc⟩
    · rw [List.getElem?_set_ne (Ne.symm e)] at h2
      obtain ⟨b1, b2⟩ := r.cell j b c' h1 h2
      have ne : b ≠ a := fun q => e (nodup_at r.nd (q ▸ h1) hi)
      exact ⟨b1, b2.at fun o _ h => by rw [upd_ne ne]; exact h⟩

/-! ### the names' values -/
def EnvOk (W : WP) (B : Hp) (μ : List Addr) (env : DEnv) (σ : L2.St) : Prop := env.length = σ.length ∧ ∀ (i : Nat) (d : D), env[i]? = some (some d) → ∃ v : V, σ[i]? = some (some v) ∧ Den W B μ d v
theorem EnvOk.mono {env : DEnv} {σ : L2.St} (e : Ex B B') (p : Pre μ μ') (h : EnvOk W B μ env σ) : EnvOk W B' μ' env σ := ⟨h.1, fun i d q => let ⟨v, a, b⟩ := h.2 i d q; ⟨v, a, Den.mono e p _ _ b⟩⟩
theorem EnvOk.step {env : DEnv} {σ : L2.St} {H H' : Hp} (s : Step B μ H B' μ' H') (h : EnvOk W B μ env σ) : EnvOk W B' μ' env σ := h.mono s.grow s.p
theorem EnvOk.set {env : DEnv} {σ : L2.St} {i : Nat} {d : D} {v : V} (h : EnvOk W B μ env σ) (q : Den W B μ d v) : EnvOk W B μ (env.set i (some d)) (σ.set i (some v)) := by
  refine ⟨by simp [h.1], fun j e hj => ?_⟩
  by_cases ej : j = i
  · subst ej
    have hl : j < env.length := by
      have := (List.getElem?_eq_some_iff.mp hj).1
      simpa using this
    rw [List.getElem?_set_self hl] at hj
    cases hj
    exact ⟨v, by rw [List.getElem?_set_self (by rw [← h.1]; exact hl)], q⟩
  · rw [List.getElem?_set_ne (Ne.symm ej)] at hj
    obtain ⟨w, a, b⟩ := h.2 j e hj
    exact ⟨w, by rw [List.getElem?_set_ne (Ne.symm ej)]; exact a, b⟩
def wipeD (env : DEnv) : List Nat → DEnv
  | [] => env
  | v :: vs => (wipeD env vs).set v none
theorem EnvOk.wipe {env : DEnv} {σ : L2.St} (h : EnvOk W B μ env σ) : ∀ vs : List Nat, EnvOk W B μ (wipeD env vs) (wipe σ vs)
  | [] => h
  | v :: vs => by
    have ih := EnvOk.wipe h vs
    unfold wipeD L2.wipe
    refine ⟨by simp [ih.1], fun j e hj => ?_⟩
    by_cases ej : j = v
    · subst ej
      by_cases hl : j < (wipeD env vs).length
      · rw [List.getElem?_set_self hl] at hj; cases hj
      · rw [List.getElem?_eq_none (by simpa using hl)] at hj; cases hj
    · rw [List.getElem?_set_ne (Ne.symm ej)] at hj
      obtain ⟨w, a, b⟩ := ih.2 j e hj
      exact ⟨w, by rw [List.getElem?_set_ne (Ne.symm ej)]; exact a, b⟩
end LN

set_option Elab.async false
set_option linter.all false
set_option maxRecDepth 100000
set_option maxHeartbeats 1000000
namespace LN
open PySem L2

/-! ### data without cells; as the library's data -/
mutual
def pureD : D → Bool
  | .tup xs => pureL xs
  | .lst xs => pureL xs
  | .scr xs => pureL xs
  | .ins _ _ xs => pureL xs
  | .obj _ => false
  | _ => true
  termination_by structural d => d
def pureL : List D → Bool
  | [] => true
  | d :: ds => pureD d && pureL ds
  termination_by structural ds => ds
end
mutual
def frzW (g : Nat → Option D) : D → Option D
  | .tup xs => match frzL g xs with
    | some ys => some (.tup ys)
    | none => none
  | .lst xs => match frzL g xs with
    | some ys => some (.lst ys)
    | none => none
  | .scr xs => match frzL g xs with
    | some ys => some (.scr ys)
    | none => none
  | .ins c ks xs => match frzL g xs with
    | some ys => some (.ins c ks ys)
    | none => none
  | .obj i => g i
  | .non => some .non
  | .bl b => some (.bl b)
  | .int i => some (.int i)
  | .str s => some (.str s)
  termination_by structural d => d
def frzL (g : Nat → Option D) : List D → Option (List D)
  | [] => some []
  | d :: ds => match frzW g d, frzL g ds with
    | some e, some es => some (e :: es)
    | _, _ => none
  termination_by structural ds => ds
end
def frzC (S : Store) (m : Nat) : Nat → Nat → Option D
  | 0, _ => none
  | n + 1, i => if i < m then none else match S[i]? with
    | some (.lst xs) => match frzL (frzC S m n) xs with
      | some ys => some (.lst ys)
      | none => none
    | some (.ins c ks xs) => match frzL (frzC S m n) xs with
      | some ys => some (.ins c ks ys)
      | none => none
    | _ => none
def frz (m : Nat) (S : Store) (d : D) : Option D := frzW (frzC S m 6) d
mutual
def pyD : D → Option PyData
  | .non => some .none
  | .bl b => some (.bool b)
  | .int i => some (.int i)
  | .str s => some (.str ⟨s.toArray⟩)
  | .tup xs => match pyL xs with
    | some ys => some (.tuple ys)
    | none => none
  | .lst xs => match pyL xs with
    | some ys => some (.list ys)
    | none => none
  | .scr xs => match pyL xs with
    | some ys => some (.list ys)
    | none => none
  | .ins _ _ _ => none
  | .obj _ => none
  termination_by structural d => d
def pyL : List D → Option (List PyData)
  | [] => some []
  | d :: ds => match pyD d, pyL ds with
    | some e, some es => some (e :: es)
    | _, _ => none
  termination_by structural ds => ds
end
/-- the same, a cell that is a list read through -/
def pyS (S : Store) : D → Option PyData
  | .obj i => match S[i]? with
    | some (.lst xs) => match pyL xs with
      | some ys => some (.list ys)
      | none => none
    | _ => none
  | d => pyD d
def seqD (S : Store) : D → Option (List D)
  | .tup xs => some xs
  | .lst xs => some xs
  | .scr xs => some xs
  | .obj i => match S[i]? with
    | some (.lst xs) => some xs
    | _ => none
  | _ => none
def isTup : D → Bool
  | .tup _ => true
  | _ => false
/-- a list that may be read and joined: not the script -/
def lstD (S : Store) : D → Option (List D)
  | .lst xs => some xs
  | .obj i => match S[i]? with
    | some (.lst xs) => some xs
    | _ => none
  | _ => none
def clsD (S : Store) : D → Option Nat
  | .ins c _ _ => some c
  | .obj i => match S[i]? with
    | some (.ins c _ _) => some c
    | _ => none
  | _ => none
def fldL : List Nat → List D → Nat → Option D
  | k :: ks, x :: xs, f => if k = f then some x else fldL ks xs f
  | _, _, _ => none
def fldD (S : Store) (f : Nat) : D → Option D
  | .ins _ ks xs => fldL ks xs f
  | .obj i => match S[i]? with
    | some (.ins _ ks xs) => fldL ks xs f
    | _ => none
  | _ => none
def setFL : List Nat → List D → Nat → D → List Nat × List D
  | k :: ks, x :: xs, f, y => if k = f then (k :: ks, y :: xs) else let r := setFL ks xs f y; (k :: r.1, x :: r.2)
  | _, _, f, y => ([f], [y])
def keyD : D → Option DK
  | .int i => some (.inl i)
  | .str s => some (.inr s)
  | _ => none
def dkD : DK → D
  | .inl i => .int i
  | .inr s => .str s
def getK : List DK → List D → DK → Option D
  | k :: ks, x :: xs, j => if k = j then some x else getK ks xs j
  | _, _, _ => none
def mapK : List DK → List D → DK → D → List D
  | k :: ks, x :: xs, j, y => (if k = j then y else x) :: mapK ks xs j y
  | _, _, _, _ => []
def hasK : List DK → DK → Bool
  | [], _ => false
  | k :: ks, j => if k = j then true else hasK ks j
def putK2 (ks : List DK) (xs : List D) (j : DK) (y : D) : List DK × List D := if hasK ks j then (ks, mapK ks xs j y) else (ks ++ [j], xs ++ [y])

/-! ### operations -/
inductive P2 where
  | add | sub | mul | fdiv | mod | pow
  | eq | ne | lt | le | gt | ge | isN | notN | isB | notB | inn | notin
  | idx
inductive BTy where
  | int | bool | str | tup | lst | dct
def BTy.nm : BTy → String
  | .int => "int"
  | .bool => "bool"
  | .str => "str"
  | .tup => "tuple"
  | .lst => "list"
  | .dct => "dict"
inductive TyS where
  | bt (n : BTy)
  | cls (c : Nat)
/-- a value's kind -/
inductive Tag where
  | non | bl | b (t : BTy) | ins (c : Nat)
inductive PB where
  | len | list | tuple | max | min | sum | all | any | int | abs | sorted | sortLN | str
inductive PM where
  | append | extend | pop | popAt | index | join

def szOk (n : Nat) : Bool := decide (n ≤ 100000)
def cmulB (i j : Int) : Bool := decide (-(2 ^ 64) < i ∧ i < 2 ^ 64) || decide (-(2 ^ 64) < j ∧ j < 2 ^ 64)
def ixD (xs : List D) (i : Int) : Option D := if 0 ≤ i then xs[i.toNat]? else if -(xs.length : Int) ≤ i then xs[(i + xs.length).toNat]? else none
def ixC (xs : List Nat) (i : Int) : Option Nat := if 0 ≤ i then xs[i.toNat]? else if -(xs.length : Int) ≤ i then xs[(i + xs.length).toNat]? else none
def shp (d : PyData) : Bool := SeqAt.shaped d
def isNone : D → Bool
  | .non => true
  | _ => false
def eqS (S : Store) (a b : D) : Option Bool := match pyS S a, pyS S b with
  | some x, some y => if shp x && shp y then some (PyData.eqv x y) else none
  | _, _ => none
def flatD : D → Bool
  | .non => true
  | .bl _ => true
  | .int _ => true
  | .str _ => true
  | _ => false
def flV : D → V
  | .bl b => .bl b
  | .int i => .int i
  | .str s => .str ⟨s.toArray⟩
  | _ => .non
def inS (S : Store) (a b : D) : Option Bool := match b with
  | .str t => match a with
    | .str [c] => some (t.contains c)
    | _ => none
  | .tup xs => if flatD a && xs.all flatD then some (inV (flV a) (xs.map flV)) else none
  | b => match pyS S a, pyS S b with
    | some x, some (.list ys) => if shp x && shp (.list ys) then some (ys.any fun z => PyData.eqv z x) else none
    | _, _ => match b, keyD a with
      | .obj i, some k => match S[i]? with
        | some (.dct ks xs) => some (getK ks xs k).isSome
        | _ => none
      | _, _ => none
def p2 (p : P2) (a b : D) (S : Store) : Option D := match p with
  | .add => match a, b with
    | .int i, .int j => some (.int (i + j))
    | .str s, .str t => if szOk (s.length + t.length) then some (.str (s ++ t)) else none
    | a, b => match lstD S a, lstD S b with
      | some xs, some ys => if szOk (xs.length + ys.length) then some (.lst (xs ++ ys)) else none
      | _, _ => none
  | .sub => match a, b with
    | .int i, .int j => some (.int (i - j))
    | _, _ => none
  | .mul => match a, b with
    | .int i, .int j => if cmulB i j then some (.int (i * j)) else none
    | _, _ => none
  | .fdiv => match a, b with
    | .int i, .int j => if 0 < j ∧ j < 1073741824 then some (.int (i / j)) else none
    | _, _ => none
  | .mod => match a, b with
    | .int i, .int j => if 0 < j then some (.int (i % j)) else none
    | _, _ => none
  | .pow => match a, b with
    | .int i, .int j => if 0 ≤ j ∧ j ≤ 1000 ∧ i.natAbs < 2 ^ 64 then some (.int (i ^ j.toNat)) else none
    | _, _ => none
  | .eq => (eqS S a b).map .bl
  | .ne => (eqS S a b).map fun k => .bl (!k)
  | .lt => match a, b with
    | .int i, .int j => some (.bl (decide (i < j)))
    | _, _ => none
  | .le => match a, b with
    | .int i, .int j => some (.bl (decide (i ≤ j)))
    | _, _ => none
  | .gt => match a, b with
    | .int i, .int j => some (.bl (decide (j < i)))
    | _, _ => none
  | .ge => match a, b with
    | .int i, .int j => some (.bl (decide (j ≤ i)))
    | _, _ => none
  | .isN => match b with
    | .non => some (.bl (isNone a))
    | _ => none
  | .notN => match b with
    | .non => some (.bl (!isNone a))
    | _ => none
  | .isB => match a, b with
    | .bl x, .bl y => some (.bl (decide (x = y)))
    | _, _ => none
  | .notB => match a, b with
    | .bl x, .bl y => some (.bl (!decide (x = y)))
    | _, _ => none
  | .inn => (inS S a b).map .bl
  | .notin => (inS S a b).map fun k => .bl (!k)
  | .idx => match b with
    | .int i => match a with
      | .str s => if szOk s.length then (ixC s i).map fun c => .str [c] else none
      | a => match seqD S a with
        | some xs => ixD xs i
        | none => none
    | _ => none

def intsD : List D → Option (List Int)
  | [] => some []
  | .int i :: ds => (intsD ds).map (i :: ·)
  | _ => none
def blsD : List D → Option (List Bool)
  | [] => some []
  | .bl b :: ds => (blsD ds).map (b :: ·)
  | _ => none
def strsD : List D → Option (List (List Nat))
  | [] => some []
  | .str s :: ds => (strsD ds).map (s :: ·)
  | _ => none
def maxI : List Int → Int
  | [] => 0
  | [i] => i
  | i :: is => let m := maxI is; if m < i then i else m
def minI : List Int → Int
  | [] => 0
  | [i] => i
  | i :: is => let m := minI is; if i < m then i else m
def insI (i : Int) : List Int → List Int
  | [] => [i]
  | j :: js => if i ≤ j then i :: j :: js else j :: insI i js
def sortI : List Int → List Int
  | [] => []
  | i :: is => insI i (sortI is)
def lexN : List Nat → List Nat → Bool
  | [], _ => true
  | _ :: _, [] => false
  | a :: as, b :: bs => if a < b then true else if a = b then lexN as bs else false
def leLN (a b : List Nat) : Bool := if a.length < b.length then true else if a.length = b.length then lexN a b else false
def insLN (i : List Nat) : List (List Nat) → List (List Nat)
  | [] => [i]
  | j :: js => if leLN i j then i :: j :: js else j :: insLN i js
def sortLN : List (List Nat) → List (List Nat)
  | [] => []
  | i :: is => insLN i (sortLN is)
/-- the second: a new list (or tuple) of these items, none: the value -/
inductive NV where
  | v (d : D) | l (xs : List D) | t (xs : List D)
def pb (p : PB) (as : List D) (S : Store) : Option NV := match p, as with
  | .len, [.str s] => if szOk s.length then some (.v (.int s.length)) else none
  | .len, [a] => match seqD S a with
    | some xs => some (.v (.int xs.length))
    | none => match a with
      | .obj i => match S[i]? with
        | some (.dct ks _) => some (.v (.int ks.length))
        | _ => none
      | _ => none
  | .list, [a] => match seqD S a with
    | some xs => some (.l xs)
    | none => match a with
      | .obj i => match S[i]? with
        | some (.dct ks _) => some (.l (ks.map dkD))
        | _ => none
      | _ => none
  | .tuple, [.tup xs] => some (.v (.tup xs))
  | .tuple, [a] => match seqD S a with
    | some xs => some (.t xs)
    | none => none
  | .max, [.int i, .int j] => some (.v (.int (if j > i then j else i)))
  | .min, [.int i, .int j] => some (.v (.int (if j < i then j else i)))
  | .max, [a] => match lstD S a with
    | some (x :: xs) => (intsD (x :: xs)).map fun is => .v (.int (maxI is))
    | _ => none
  | .min, [a] => match lstD S a with
    | some (x :: xs) => (intsD (x :: xs)).map fun is => .v (.int (minI is))
    | _ => none
  | .sum, [a] => match lstD S a with
    | some xs => (intsD xs).map fun is => .v (.int is.sum)
    | none => none
  | .all, [a] => match lstD S a with
    | some xs => (blsD xs).map fun bs => .v (.bl (bs.all id))
    | none => none
  | .any, [a] => match lstD S a with
    | some xs => (blsD xs).map fun bs => .v (.bl (bs.any id))
    | none => none
  | .int, [.int i] => some (.v (.int i))
  | .int, [.bl b] => some (.v (.int (if b then 1 else 0)))
  | .abs, [.int i] => some (.v (.int (if i < 0 then -i else i)))
  | .sorted, [a] => match lstD S a with
    | some xs => if xs.length < 64 then (intsD xs).map fun is => .l ((sortI is).map .int) else none
    | none => none
  | .sortLN, [a] => match lstD S a with
    | some xs => if szOk xs.length then match strsD xs with
      | some ss => if ss.all (fun s => szOk s.length) then some (.l ((sortLN ss).map .str)) else none
      | none => none
      else none
    | none => none
  | _, _ => none

/-- a built-in method: what it returns, the cell written -/
def pm (p : PM) (a : D) (as : List D) (S : Store) : Option (D × Store) := match p, a, as with
  | .append, .obj i, [y] => match S[i]? with
    | some (.lst xs) => if xs.length < 100000 then some (.non, S.set i (.lst (xs ++ [y]))) else none
    | _ => none
  | .extend, .obj i, [b] => match S[i]?, lstD S b with
    | some (.lst xs), some ys => if szOk (xs.length + ys.length) then some (.non, S.set i (.lst (xs ++ ys))) else none
    | _, _ => none
  | .pop, .obj i, [] => match S[i]? with
    | some (.lst xs) => match xs[xs.length - 1]? with
      | some y => some (y, S.set i (.lst xs.dropLast))
      | none => none
    | _ => none
  | .popAt, .obj i, [.int k] => match S[i]? with
    | some (.lst xs) => if 0 ≤ k ∧ k < xs.length ∧ xs.length < 2 ^ 62 then match xs[k.toNat]? with
      | some y => some (y, S.set i (.lst (xs.eraseIdx k.toNat)))
      | none => none
      else none
    | _ => none
  | .index, a, [b] => match pyS S a, pyS S b with
    | some (.list ps), some x => if shp (.list ps) && shp x then match ps.findIdx? (fun z => PyData.eqv z x) with
        | some j => some (.int j, S)
        | none => none
      else none
    | _, _ => none
  | _, _, _ => none

/-! ### the program -/
inductive Tg where
  | nm (i : Nat)
  | tup (ts : List Tg)
inductive DK2 where
  | tup | lst | cell
inductive IE where
  | var (i : Nat)
  | con (d : D)
  | p2 (p : P2) (a b : IE)
  | neg (a : IE)
  | chain (p q : P2) (a b c : IE)
  | and (a b : IE)
  | or (a b : IE)
  | not (a : IE)
  | ite (c a b : IE)
  | pb (p : PB) (cell : Bool) (as : List IE)
  | pm (p : PM) (a : IE) (as : List IE)
  | isi (ts : List TyS) (a : IE)
  | call (f : Nat) (as : List IE)
  | meth (m : Nat) (a : IE) (as : List IE)
  | make (c f : Nat) (fz : Bool) (as : List IE)
  | attr (f : Nat) (a : IE)
  | disp (k : DK2) (st : List Bool) (as : List IE)
  | slice (a : IE) (lo hi : Option IE) (cell : Bool)
  | dict (as : List IE)
  | lc (cell : Bool) (vs : List Nat) (tg : Tg) (k : Nat) (it : List IE) (cd : Option IE) (e : IE)
  | lcd (cell : Bool) (vs : List Nat) (tg : Tg) (it : IE) (cd : Option IE) (e : IE)
  | dc (vs : List Nat) (tg : Tg) (k : Nat) (it : List IE) (cd : Option IE) (kx vx : IE)
inductive IS where
  | asg (t : Tg) (e : IE)
  | par (is : List Nat) (es : List IE)
  | aug (i : Nat) (p : P2) (e : IE)
  | setF (o : IE) (f : Nat) (e : IE)
  | setI (o i e : IE)
  | drop (e : IE)
  | ite (c : IE) (a b : List IS)
  | for (tg : Tg) (k : Nat) (it : List IE) (b : List IS)
  | whl (c : IE) (b : List IS)
  | ret (e : IE)
  | brk | cnt | pass | nev
end LN

set_option Elab.async false
set_option linter.all false
set_option maxRecDepth 100000
set_option maxHeartbeats 1000000
namespace LN
open PySem L2

abbrev Spc := List D → Store → Option (D × Store)
structure Tab where
  ck : Nat → Bool
  fl : Nat → Nat → Bool
  ic : Nat → Bool
  fn : Nat → Spc
  mt : Nat → Nat → Option Nat
inductive O where
  | nx (env : DEnv) (S : Store)
  | rt (d : D) (S : Store)
  | br (env : DEnv) (S : Store)
  | ct (env : DEnv) (S : Store)
inductive Src where
  | items (xs : List D)
  | cell (i : Nat)

mutual
def setT (S : Store) : Tg → D → DEnv → Option DEnv
  | .nm i, d, env => some (env.set i (some d))
  | .tup ts, d, env => match seqD S d with
    | some xs => setTs S ts xs env
    | none => none
  termination_by structural t => t
def setTs (S : Store) : List Tg → List D → DEnv → Option DEnv
  | [], [], env => some env
  | t :: ts, d :: ds, env => match setT S t d env with
    | some env1 => setTs S ts ds env1
    | none => none
  | _, _, _ => none
  termination_by structural ts => ts
end
def rngD (a : Int) : Nat → List D
  | 0 => []
  | n + 1 => .int a :: rngD (a + 1) n
def enumD (i : Int) : List D → List D
  | [] => []
  | x :: xs => .tup [.int i, x] :: enumD (i + 1) xs
def zipD : List D → List D → List D
  | x :: xs, y :: ys => .tup [x, y] :: zipD xs ys
  | _, _ => []
/-- what is walked: 0 any sequence, 1 range, 2 enumerate, 3 zip -/
def srcD (k : Nat) (ds : List D) (S : Store) : Option Src := match k, ds with
  | 0, [.tup xs] => some (.items xs)
  | 0, [.lst xs] => some (.items xs)
  | 0, [.scr xs] => some (.items xs)
  | 0, [.str s] => if szOk s.length then some (.items (s.map fun c => .str [c])) else none
  | 0, [.obj i] => match S[i]? with
    | some (.lst _) => some (.cell i)
    | _ => none
  | 1, [.int j] => if -100000 ≤ j ∧ j ≤ 100000 then some (.items (rngD 0 j.toNat)) else none
  | 1, [.int i, .int j] => if -100000 ≤ i ∧ i ≤ 100000 ∧ -100000 ≤ j ∧ j ≤ 100000 then some (.items (rngD i (j - i).toNat)) else none
  | 2, [.lst xs] => some (.items (enumD 0 xs))
  | 3, [.lst xs, .lst ys] => some (.items (zipD xs ys))
  | _, _ => none
/-- a comprehension's turns -/
def lcL (stp : D → Store → Option (Option D × Store)) : List D → Store → Option (List D × Store)
  | [], S => some ([], S)
  | x :: xs, S => match stp x S with
    | some (some y, S1) => match lcL stp xs S1 with
      | some (ys, S2) => some (y :: ys, S2)
      | none => none
    | some (none, S1) => lcL stp xs S1
    | none => none
def lcC (stp : D → Store → Option (Option D × Store)) (i : Nat) : Nat → Nat → Store → Option (List D × Store)
  | 0, _, _ => none
  | n + 1, k, S => match S[i]? with
    | some (.lst xs) => match xs[k]? with
      | none => some ([], S)
      | some x => match stp x S with
        | some (some y, S1) => match lcC stp i n (k + 1) S1 with
          | some (ys, S2) => some (y :: ys, S2)
          | none => none
        | some (none, S1) => lcC stp i n (k + 1) S1
        | none => none
    | _ => none
def lcS (stp : D → Store → Option (Option D × Store)) (s : Src) (S : Store) : Option (List D × Store) := match s with
  | .items xs => lcL stp xs S
  | .cell i => match S[i]? with
    | some (.lst xs) => lcC stp i (xs.length + 1) 0 S
    | _ => none
/-- a for's turns -/
def forL (stp : D → DEnv → Store → Option O) : List D → DEnv → Store → Option O
  | [], env, S => some (.nx env S)
  | x :: xs, env, S => match stp x env S with
    | some (.nx env1 S1) => forL stp xs env1 S1
    | some (.ct env1 S1) => forL stp xs env1 S1
    | some (.br env1 S1) => some (.nx env1 S1)
    | some (.rt d S1) => some (.rt d S1)
    | none => none
def forC (stp : D → DEnv → Store → Option O) (i : Nat) : Nat → Nat → DEnv → Store → Option O
  | 0, _, _, _ => none
  | n + 1, k, env, S => match S[i]? with
    | some (.lst xs) => match xs[k]? with
      | none => some (.nx env S)
      | some x => match stp x env S with
        | some (.nx env1 S1) => forC stp i n (k + 1) env1 S1
        | some (.ct env1 S1) => forC stp i n (k + 1) env1 S1
        | some (.br env1 S1) => some (.nx env1 S1)
        | some (.rt d S1) => some (.rt d S1)
        | none => none
    | _ => none
def forS (stp : D → DEnv → Store → Option O) (s : Src) (env : DEnv) (S : Store) : Option O := match s with
  | .items xs => forL stp xs env S
  | .cell i => forC stp i 5000 0 env S
def whlN (tst : DEnv → Store → Option (Bool × Store)) (stp : DEnv → Store → Option O) : Nat → DEnv → Store → Option O
  | 0, _, _ => none
  | n + 1, env, S => match tst env S with
    | some (true, S1) => match stp env S1 with
      | some (.nx env1 S2) => whlN tst stp n env1 S2
      | some (.ct env1 S2) => whlN tst stp n env1 S2
      | some (.br env1 S2) => some (.nx env1 S2)
      | some (.rt d S2) => some (.rt d S2)
      | none => none
    | some (false, S1) => some (.nx env S1)
    | none => none
def cutD {α : Type} (xs : List α) (lo hi : Option Int) : List α := (xs.drop (HT.sIx xs.length 0 lo)).take (HT.sIx xs.length xs.length hi - HT.sIx xs.length 0 lo)
def newL (cell : Bool) (xs : List D) (S : Store) : D × Store := if cell then (.obj S.length, S ++ [.lst xs]) else (.lst xs, S)
def tagD (S : Store) : D → Option Tag
  | .non => some .non
  | .bl _ => some .bl
  | .int _ => some (.b .int)
  | .str _ => some (.b .str)
  | .tup _ => some (.b .tup)
  | .lst _ => some (.b .lst)
  | .scr _ => some (.b .lst)
  | .ins c _ _ => some (.ins c)
  | .obj i => match S[i]? with
    | some (.lst _) => some (.b .lst)
    | some (.dct _ _) => some (.b .dct)
    | some (.ins c _ _) => some (.ins c)
    | none => none
def isiB : Tag → BTy → Bool
  | .bl, .bool => true
  | .bl, .int => true
  | .b .int, .int => true
  | .b .bool, .bool => true
  | .b .bool, .int => true
  | .b .str, .str => true
  | .b .tup, .tup => true
  | .b .lst, .lst => true
  | .b .dct, .dct => true
  | _, _ => false
def isi1 (T : Tab) : TyS → Tag → Option Bool
  | .bt t, .ins c => if T.ic c then some false else none
  | .bt t, g => some (isiB g t)
  | .cls c, .ins c' => if T.ic c && T.ic c' then some (c' == c) else none
  | .cls c, _ => if T.ic c then some false else none
def isiL (T : Tab) (g : Tag) : List TyS → Option Bool
  | [] => some false
  | t :: ts => match isi1 T t g with
    | some true => some true
    | some false => isiL T g ts
    | none => none
def recvOk (p : PM) (d : D) (S : Store) : Bool := match lstD S d with
  | some _ => true
  | none => false

def pureN (env : DEnv) : DEnv := env.map fun o => match o with
  | some d => if pureD d then some d else none
  | none => none
def dcL (stp : D → Store → Option (Option (DK × D) × Store)) : List D → List DK → List D → Store → Option ((List DK × List D) × Store)
  | [], ks, ys, S => some ((ks, ys), S)
  | x :: xs, ks, ys, S => match stp x S with
    | some (some (j, z), S1) => if ks.length < 100000 then let r := putK2 ks ys j z; dcL stp xs r.1 r.2 S1 else none
    | some (none, S1) => dcL stp xs ks ys S1
    | none => none
def dcC (stp : D → Store → Option (Option (DK × D) × Store)) (i : Nat) : Nat → Nat → List DK → List D → Store → Option ((List DK × List D) × Store)
  | 0, _, _, _, _ => none
  | n + 1, k, ks, ys, S => match S[i]? with
    | some (.lst xs) => match xs[k]? with
      | none => some ((ks, ys), S)
      | some x => match stp x S with
        | some (some (j, z), S1) => if ks.length < 100000 then let r := putK2 ks ys j z; dcC stp i n (k + 1) r.1 r.2 S1 else none
        | some (none, S1) => dcC stp i n (k + 1) ks ys S1
        | none => none
    | _ => none
def dcS (stp : D → Store → Option (Option (DK × D) × Store)) (s : Src) (S : Store) : Option ((List DK × List D) × Store) := match s with
  | .items xs => dcL stp xs [] [] S
  | .cell i => match S[i]? with
    | some (.lst _) => dcC stp i 5000 0 [] [] S
    | _ => none
mutual
def evE (T : Tab) : IE → DEnv → Store → Option (D × Store)
  | .var i, env, S => match env[i]? with
    | some (some d) => some (d, S)
    | _ => none
  | .con d, _, S => some (d, S)
  | .p2 p a b, env, S => match evE T a env S with
    | some (x, S1) => match evE T b env S1 with
      | some (y, S2) => match p2 p x y S2 with
        | some z => some (z, S2)
        | none => none
      | none => none
    | none => none
  | .neg a, env, S => match evE T a env S with
    | some (.int i, S1) => some (.int (-i), S1)
    | _ => none
  | .chain p q a b c, env, S => match evE T a env S with
    | some (x, S1) => match evE T b env S1 with
      | some (y, S2) => match p2 p x y S2 with
        | some (.bl true) => match evE T c env S2 with
          | some (z, S3) => match p2 q y z S3 with
            | some (.bl k) => some (.bl k, S3)
            | _ => none
          | none => none
        | some (.bl false) => some (.bl false, S2)
        | _ => none
      | none => none
    | none => none
  | .and a b, env, S => match evE T a env S with
    | some (.bl true, S1) => match evE T b env S1 with
      | some (.bl k, S2) => some (.bl k, S2)
      | _ => none
    | some (.bl false, S1) => some (.bl false, S1)
    | _ => none
  | .or a b, env, S => match evE T a env S with
    | some (.bl true, S1) => some (.bl true, S1)
    | some (.bl false, S1) => match evE T b env S1 with
      | some (.bl k, S2) => some (.bl k, S2)
      | _ => none
    | _ => none
  | .not a, env, S => match evE T a env S with
    | some (.bl k, S1) => some (.bl (!k), S1)
    | _ => none
  | .ite c a b, env, S => match evE T c env S with
    | some (.bl true, S1) => evE T a env S1
    | some (.bl false, S1) => evE T b env S1
    | _ => none
  | .pb p cell as, env, S => match evL T as env S with
    | some (ds, S1) => match pb p ds S1 with
      | some (.v d) => some (d, S1)
      | some (.l xs) => some (newL cell xs S1)
      | some (.t xs) => some (.tup xs, S1)
      | none => none
    | none => none
  | .pm p a as, env, S => match evE T a env S with
    | some (d, S1) => if recvOk p d S1 then match evL T as env S1 with
        | some (ds, S2) => pm p d ds S2
        | none => none
      else none
    | none => none
  | .isi ts a, env, S => match evE T a env S with
    | some (d, S1) => match tagD S1 d with
      | some g => match isiL T g ts with
        | some b => some (.bl b, S1)
        | none => none
      | none => none
    | none => none
  | .call f as, env, S => match evL T as env S with
    | some (ds, S1) => T.fn f ds S1
    | none => none
  | .meth m a as, env, S => match evE T a env S with
    | some (d, S1) => match clsD S1 d with
      | some c => if T.ck c then match T.mt c m with
          | some f => match evL T as env S1 with
            | some (ds, S2) => T.fn f (d :: ds) S2
            | none => none
          | none => none
        else none
      | none => none
    | none => none
  | .make c f fz as, env, S => match evL T as env S with
    | some (ds, S1) => if fz then
        if pureL ds then match T.fn f (.obj 0 :: ds) [.ins c [] []] with
          | some (.non, S2) => match frz 0 S2 (.obj 0) with
            | some d => some (d, S1)
            | none => none
          | _ => none
        else none
      else match T.fn f (.obj S1.length :: ds) (S1 ++ [.ins c [] []]) with
        | some (.non, S2) => some (.obj S1.length, S2)
        | _ => none
    | none => none
  | .attr f a, env, S => match evE T a env S with
    | some (d, S1) => match clsD S1 d with
      | some c => if T.ck c && T.fl c f then match fldD S1 f d with
          | some x => some (x, S1)
          | none => none
        else none
      | none => none
    | none => none
  | .disp k st as, env, S => match evP T st as env S with
    | some (xs, S1) => if szOk xs.length then match k with
        | .tup => some (.tup xs, S1)
        | .lst => some (.lst xs, S1)
        | .cell => some (newL true xs S1)
      else none
    | none => none
  | .slice a lo hi cell, env, S => match evE T a env S with
    | some (d, S1) => match evO T lo env S1 with
      | some (l, S2) => match evO T hi env S2 with
        | some (h, S3) => match d with
          | .str s => if szOk s.length then some (.str (cutD s l h), S3) else none
          | .tup xs => if HT.sIx xs.length 0 l = 0 ∧ HT.sIx xs.length xs.length h = xs.length then none else some (.tup (cutD xs l h), S3)
          | d => match lstD S3 d with
            | some xs => some (newL cell (cutD xs l h) S3)
            | none => none
        | none => none
      | none => none
    | none => none
  | .dict _, _, S => some (.obj S.length, S ++ [.dct [] []])
  | .lc cell vs tg k it cd e, env, S => match evL T it env S with
    | some (ds, S1) => match srcD k ds S1 with
      | some s => match lcS (fun x S2 => match setT S2 tg x (wipeD env vs) with
          | some env2 => match evC T cd env2 S2 with
            | some (true, S3) => match evE T e env2 S3 with
              | some (y, S4) => some (some y, S4)
              | none => none
            | some (false, S3) => some (none, S3)
            | none => none
          | none => none) s S1 with
        | some (ys, S5) => if szOk ys.length then some (newL cell ys S5) else none
        | none => none
      | none => none
    | none => none
  | .lcd cell vs tg it cd e, env, S => match evE T it env S with
    | some (.obj i, S1) => match S1[i]? with
      | some (.dct ks _) => match lcL (fun x S2 => match setT S2 tg x (pureN (wipeD env vs)) with
          | some env2 => match evC T cd env2 S2 with
            | some (true, S3) => match evE T e env2 S3 with
              | some (y, S4) => some (some y, S4)
              | none => none
            | some (false, S3) => some (none, S3)
            | none => none
          | none => none) (ks.map dkD) [] with
        | some (ys, S5) => match frzL (frzC S5 0 6) ys with
          | some zs => if szOk ys.length then some (newL cell zs S1) else none
          | none => none
        | none => none
      | _ => none
    | _ => none
  | .dc vs tg k it cd kx vx, env, S => match evL T it env S with
    | some (ds, S1) => match srcD k ds S1 with
      | some s => match dcS (fun x S2 => match setT S2 tg x (wipeD env vs) with
          | some env2 => match evC T cd env2 S2 with
            | some (true, S3) => match evE T kx env2 S3 with
              | some (y, S4) => match evE T vx env2 S4 with
                | some (z, S5) => match keyD y with
                  | some j => some (some (j, z), S5)
                  | none => none
                | none => none
              | none => none
            | some (false, S3) => some (none, S3)
            | none => none
          | none => none) s S1 with
        | some (r, S5) => some (.obj S5.length, S5 ++ [.dct r.1 r.2])
        | none => none
      | none => none
    | none => none
  termination_by structural e => e
def evL (T : Tab) : List IE → DEnv → Store → Option (List D × Store)
  | [], _, S => some ([], S)
  | e :: es, env, S => match evE T e env S with
    | some (d, S1) => match evL T es env S1 with
      | some (ds, S2) => some (d :: ds, S2)
      | none => none
    | none => none
  termination_by structural es => es
/-- with stars -/
def evP (T : Tab) (st : List Bool) : List IE → DEnv → Store → Option (List D × Store)
  | [], _, S => some ([], S)
  | e :: es, env, S => match evE T e env S with
    | some (d, S1) => if st.headD false then match seqD S1 d with
        | some xs => match evP T st.tail es env S1 with
          | some (ds, S2) => some (xs ++ ds, S2)
          | none => none
        | none => none
      else match evP T st.tail es env S1 with
        | some (ds, S2) => some (d :: ds, S2)
        | none => none
    | none => none
  termination_by structural es => es
def evO (T : Tab) : Option IE → DEnv → Store → Option (Option Int × Store)
  | none, _, S => some (none, S)
  | some e, env, S => match evE T e env S with
    | some (.int i, S1) => some (some i, S1)
    | _ => none
  termination_by structural e => e
def evC (T : Tab) : Option IE → DEnv → Store → Option (Bool × Store)
  | none, _, S => some (true, S)
  | some e, env, S => match evE T e env S with
    | some (.bl b, S1) => some (b, S1)
    | _ => none
  termination_by structural e => e
end
def setP : List Nat → List D → DEnv → Option DEnv
  | [], [], env => some env
  | i :: is, d :: ds, env => setP is ds (env.set i (some d))
  | _, _, _ => none
def setItem (o i y : D) (S : Store) : Option Store := match o with
  | .obj j => match S[j]? with
    | some (.lst xs) => match i with
      | .int k => if 0 ≤ k ∧ k < xs.length then some (S.set j (.lst (xs.set k.toNat y))) else none
      | _ => none
    | some (.dct ks xs) => match keyD i with
      | some k => if ks.length < 100000 then let r := putK2 ks xs k y; some (S.set j (.dct r.1 r.2)) else none
      | none => none
    | _ => none
  | _ => none
def setFld (T : Tab) (o : D) (f : Nat) (y : D) (S : Store) : Option Store := match o with
  | .obj j => match S[j]? with
    | some (.ins c ks xs) => if ks.length < 900 && (T.ck c && T.fl c f) then let r := setFL ks xs f y; some (S.set j (.ins c r.1 r.2)) else none
    | _ => none
  | _ => none
def isIS : D → Bool
  | .int _ => true
  | .str _ => true
  | _ => false
mutual
def ex (T : Tab) : IS → DEnv → Store → Option O
  | .asg t e, env, S => match evE T e env S with
    | some (d, S1) => match setT S1 t d env with
      | some env1 => some (.nx env1 S1)
      | none => none
    | none => none
  | .par is es, env, S => match evL T es env S with
    | some (ds, S1) => match setP is ds env with
      | some env1 => some (.nx env1 S1)
      | none => none
    | none => none
  | .aug i p e, env, S => match env[i]? with
    | some (some x) => match evE T e env S with
      | some (y, S1) => if isIS x then match p2 p x y S1 with
        | some z => some (.nx (env.set i (some z)) S1)
        | none => none
        else none
      | none => none
    | _ => none
  | .setF o f e, env, S => match evE T e env S with
    | some (y, S1) => match evE T o env S1 with
      | some (d, S2) => match setFld T d f y S2 with
        | some S3 => some (.nx env S3)
        | none => none
      | none => none
    | none => none
  | .setI o i e, env, S => match evE T e env S with
    | some (y, S1) => match evE T o env S1 with
      | some (d, S2) => match evE T i env S2 with
        | some (k, S3) => match setItem d k y S3 with
          | some S4 => some (.nx env S4)
          | none => none
        | none => none
      | none => none
    | none => none
  | .drop e, env, S => match evE T e env S with
    | some (_, S1) => some (.nx env S1)
    | none => none
  | .ite c a b, env, S => match evE T c env S with
    | some (.bl true, S1) => exL T a env S1
    | some (.bl false, S1) => exL T b env S1
    | _ => none
  | .for tg k it b, env, S => match evL T it env S with
    | some (ds, S1) => match srcD k ds S1 with
      | some s => forS (fun x env2 S2 => match setT S2 tg x env2 with
          | some env3 => exL T b env3 S2
          | none => none) s env S1
      | none => none
    | none => none
  | .whl c b, env, S => whlN (fun env1 S1 => match evE T c env1 S1 with
      | some (.bl k, S2) => some (k, S2)
      | _ => none) (fun env1 S1 => exL T b env1 S1) 5000 env S
  | .ret e, env, S => match evE T e env S with
    | some (d, S1) => some (.rt d S1)
    | none => none
  | .brk, env, S => some (.br env S)
  | .cnt, env, S => some (.ct env S)
  | .pass, env, S => some (.nx env S)
  | .nev, _, _ => none
  termination_by structural s => s
def exL (T : Tab) : List IS → DEnv → Store → Option O
  | [], env, S => some (.nx env S)
  | s :: ss, env, S => match ex T s env S with
    | some (.nx env1 S1) => exL T ss env1 S1
    | some (.rt d S1) => some (.rt d S1)
    | some (.br env1 S1) => some (.br env1 S1)
    | some (.ct env1 S1) => some (.ct env1 S1)
    | none => none
  termination_by structural ss => ss
end
/-- how a def is called: by place; with keyword-only parameters of these defaults -/
inductive BK where
  | pl
  | kw (ks : List Str) (dfl : List D)
/-- a def: how it is called (0: data alone, 1: with cells handed in, 2: the store as it is), its parameters, its names, its body -/
structure FD where
  mode : Nat
  np : Nat
  nn : Nat
  body : List IS
  bk : BK := .pl
  lam : Bool := false
def startD (nn : Nat) (ds : List D) : DEnv := ds.map some ++ List.replicate (nn - ds.length) none
def runB (T : Tab) (f : FD) (ds : List D) (S : Store) : Option (D × Store) :=
  if ds.length = f.np then match exL T f.body (startD f.nn ds) S with
    | some (.rt d S1) => some (d, S1)
    | some (.nx _ S1) => some (.non, S1)
    | _ => none
  else none
/-- the cells handed in, once each -/
def objsIn : List D → List Nat
  | [] => []
  | .obj i :: ds => let r := objsIn ds; if r.contains i then r else i :: r
  | _ :: ds => objsIn ds
def renum (is : List Nat) : List D → List D
  | [] => []
  | .obj i :: ds => .obj (is.idxOf i) :: renum is ds
  | d :: ds => d :: renum is ds
def cellPure : Cell → Bool
  | .lst xs => pureL xs
  | .ins _ _ xs => pureL xs
  | .dct _ xs => pureL xs
def getCs (S : Store) : List Nat → Option Store
  | [] => some []
  | i :: is => match S[i]?, getCs S is with
    | some c, some cs => if cellPure c then some (c :: cs) else none
    | _, _ => none
def putCs (S : Store) : List Nat → Store → Option Store
  | [], _ => some S
  | i :: is, c :: cs => if cellPure c then putCs (S.set i c) is cs else none
  | _, [] => none
def pureA : D → Bool
  | .obj _ => true
  | d => pureD d
def runF (T : Tab) (f : FD) (ds : List D) (S : Store) : Option (D × Store) := match f.mode with
  | 0 => if pureL ds then match runB T f ds [] with
      | some (d, S1) => match frz 0 S1 d with
        | some e => some (e, S)
        | none => none
      | none => none
    else none
  | 1 => if ds.all pureA then match getCs S (objsIn ds) with
      | some cs => match runB T f (renum (objsIn ds) ds) cs with
        | some (d, S1) => match frz (objsIn ds).length S1 d, putCs S (objsIn ds) S1 with
          | some e, some S2 => some (e, S2)
          | _, _ => none
        | none => none
      | none => none
    else none
  | _ => runB T f ds S
/-- a generator def: plain statements, then one loop that hands out -/
structure GD where
  np : Nat
  nn : Nat
  pre : List IS
  tg : Tg
  kd : Nat
  it : List IE
  e : IE
mutual
def slots : Tg → List Nat
  | .nm i => [i]
  | .tup ts => slotsL ts
def slotsL : List Tg → List Nat
  | [] => []
  | t :: ts => slots t ++ slotsL ts
end
def genStp (T : Tab) (g : GD) (env : DEnv) : D → Store → Option (Option D × Store) := fun x S2 => match setT S2 g.tg x (wipeD env (slots g.tg)) with
  | some env2 => match evE T g.e env2 S2 with
    | some (y, S4) => some (some y, S4)
    | none => none
  | none => none
def genB (T : Tab) (g : GD) (env : DEnv) (S : Store) : Option (List D × Store) := match exL T g.pre env S with
  | some (.nx env1 S1) => match evL T g.it env1 S1 with
    | some (ds, S2) => match srcD g.kd ds S2 with
      | some s => lcS (genStp T g env1) s S2
      | none => none
    | none => none
  | _ => none
def genF (T : Tab) (g : GD) : Spc := fun ds S => if pureL ds && decide (ds.length = g.np) then match genB T g (startD g.nn ds) [] with
    | some (ys, S5) => if szOk ys.length then match frzL (frzC S5 0 6) ys with
      | some zs => some (.lst zs, S)
      | none => none
      else none
    | none => none
  else none
/-- the program's text: its defs, the classes' methods and fields -/
structure Prog where
  fs : Nat → Option FD
  mt : Nat → Nat → Option Nat
  ck : Nat → Bool
  fl : Nat → Nat → Bool
  ic : Nat → Bool
  nv : Nat → Option (Nat × (Tab → Spc))
  gs : Nat → Option GD
def tabN (p : Prog) : Nat → Tab
  | 0 => ⟨p.ck, p.fl, p.ic, fun _ _ _ => none, p.mt⟩
  | n + 1 => ⟨p.ck, p.fl, p.ic, fun f ds S => match p.fs f with
    | some d => runF (tabN p n) d ds S
    | none => match p.nv f with
      | some (np, F) => if ds.length = np then F (tabN p n) ds S else none
      | none => match p.gs f with
        | some g => match n with
          | 0 => none
          | m + 1 => genF (tabN p m) g ds S
        | none => none, p.mt⟩
end LN

set_option Elab.async false
set_option linter.all false
set_option maxRecDepth 100000
set_option maxHeartbeats 1000000
namespace LN
open PySem L2
variable {W : WP} {B B' : Hp} {μ μ' : List Addr} {S S' : Store} {H H' : Hp}

theorem Rel.at (r : Rel W B μ S H) {i : Nat} {a : Addr} {c : Cell} (h1 : μ[i]? = some a) (h2 : S[i]? = some c) : COk W B μ H a c := (r.cell i a c h1 h2).2
theorem Rel.get (r : Rel W B μ S H) {i : Nat} {v : V} {c : Cell} (h : Den W B μ (.obj i) v) (e : S[i]? = some c) : ∃ a, v = .ref a ∧ μ[i]? = some a ∧ COk W B μ H a c := by
  cases h with | obj h => exact ⟨_, rfl, h, r.at h e⟩
/-- a list | a tuple that may be read -/
theorem seq_ok (r : Rel W B μ S H) {d : D} {v : V} {xs : List D} (h : Den W B μ d v) (e : seqD S d = some xs) : ∃ a vs, v = .ref a ∧ (SqL W.K H a vs ∨ SqT W.K H a vs) ∧ DenL W B μ xs vs := by
  cases d with
  | tup ys => cases h with | tup h q => simp [seqD] at e; subst e; exact ⟨_, _, rfl, .inr (ex_t r.sub h), q⟩
  | lst ys => cases h with | lst h q => simp [seqD] at e; subst e; exact ⟨_, _, rfl, .inl (SqL.of (r.sub _ _ h)), q⟩
  | scr ys => cases h with | scr h q => simp [seqD] at e; subst e; exact ⟨_, _, rfl, .inl (ex_l r.sub h), q⟩
  | obj i =>
    simp only [seqD] at e
    split at e
    · rename_i ys q
      cases e
      obtain ⟨a, rfl, hm, vs, h1, h2⟩ := r.get h q
      exact ⟨_, _, rfl, .inl (SqL.of h1), h2⟩
    · cases e
  | _ => simp [seqD] at e
theorem lst_ok (r : Rel W B μ S H) {d : D} {v : V} {xs : List D} (h : Den W B μ d v) (e : lstD S d = some xs) : ∃ a vs, v = .ref a ∧ H a = some (.lst vs) ∧ DenL W B μ xs vs := by
  cases d with
  | lst ys => cases h with | lst h q => simp [lstD] at e; subst e; exact ⟨_, _, rfl, r.sub _ _ h, q⟩
  | obj i =>
    simp only [lstD] at e
    split at e
    · rename_i ys q
      cases e
      obtain ⟨a, rfl, hm, vs, h1, h2⟩ := r.get h q
      exact ⟨_, _, rfl, h1, h2⟩
    · cases e
  | _ => simp [lstD] at e
mutual
theorem py_ok {Hx : Hp} (s : Ex B Hx) : ∀ (d : D) (v : V) (p : PyData), Den W B μ d v → pyD d = some p → Dp W.K Hx v p
  | .non, _, _, h, e => by cases h; simp [pyD] at e; subst e; exact .non
  | .bl _, _, _, h, e => by cases h; simp [pyD] at e; subst e; exact .bl _
  | .int _, _, _, h, e => by cases h; simp [pyD] at e; subst e; exact .int _
  | .str _, _, _, h, e => by cases h; simp [pyD] at e; subst e; exact .str _
  | .tup xs, _, _, h, e => by
    cases h with | tup h r => 
      simp only [pyD] at e
      split at e
      · rename_i ys q; cases e; exact .tup (ex_t s h) (pys_ok s xs _ _ r q)
      · cases e
  | .lst xs, _, _, h, e => by
    cases h with | lst h r => 
      simp only [pyD] at e
      split at e
      · rename_i ys q; cases e; exact .lst (SqL.of (s _ _ h)) (pys_ok s xs _ _ r q)
      · cases e
  | .scr xs, _, _, h, e => by
    cases h with | scr h r => 
      simp only [pyD] at e
      split at e
      · rename_i ys q; cases e; exact .lst (ex_l s h) (pys_ok s xs _ _ r q)
      · cases e
  | .ins _ _ _, _, _, _, e => by simp [pyD] at e
  | .obj _, _, _, _, e => by simp [pyD] at e
theorem pys_ok {Hx : Hp} (s : Ex B Hx) : ∀ (ds : List D) (vs : List V) (ps : List PyData), DenL W B μ ds vs → pyL ds = some ps → DpAll W.K Hx vs ps
  | [], _, _, h, e => by cases h; simp [pyL] at e; subst e; exact .nil
  | d :: ds, _, _, h, e => by
    cases h with | cons h r =>
      simp only [pyL] at e
      split at e
      · rename_i p ps q1 q2; cases e; exact .cons (py_ok s d _ _ h q1) (pys_ok s ds _ _ r q2)
      · cases e
end
theorem pyS_ok (r : Rel W B μ S H) {d : D} {v : V} {p : PyData} (h : Den W B μ d v) (e : pyS S d = some p) : Dp W.K H v p := by
  cases d with
  | obj i =>
    simp only [pyS] at e
    split at e
    · rename_i xs q
      split at e
      · rename_i ys q2
        cases e
        obtain ⟨a, rfl, hm, vs, h1, h2⟩ := r.get h q
        exact .lst (SqL.of h1) (pys_ok r.sub xs _ _ h2 q2)
      · cases e
    · cases e
  | _ => exact py_ok r.sub _ _ _ h (by simpa only [pyS] using e)
/-! ### freezing -/
def fz (B H : Hp) (μ : List Addr) : Hp := fun a => if a ∈ μ then H a else B a
mutual
theorem frzW_ok {Bx : Hp} {g : Nat → Option D} (s : Ex B Bx) (hg : ∀ i d v, Den W B μ (.obj i) v → g i = some d → Den W Bx [] d v) : ∀ (d e : D) (v : V), Den W B μ d v → frzW g d = some e → Den W Bx [] e v
  | .non, _, _, h, e => by simp [frzW] at e; subst e; cases h; exact .non
  | .bl _, _, _, h, e => by simp [frzW] at e; subst e; cases h; exact .bl _
  | .int _, _, _, h, e => by simp [frzW] at e; subst e; cases h; exact .int _
  | .str _, _, _, h, e => by simp [frzW] at e; subst e; cases h; exact .str _
  | .tup xs, _, _, h, e => by
    simp only [frzW] at e
    split at e
    · rename_i ys q; cases e; cases h with | tup h r => exact .tup (ex_t s h) (frzL_ok s hg xs _ _ r q)
    · cases e
  | .lst xs, _, _, h, e => by
    simp only [frzW] at e
    split at e
    · rename_i ys q; cases e; cases h with | lst h r => exact .lst (s _ _ h) (frzL_ok s hg xs _ _ r q)
    · cases e
  | .scr xs, _, _, h, e => by
    simp only [frzW] at e
    split at e
    · rename_i ys q; cases e; cases h with | scr h r => exact .scr (ex_l s h) (frzL_ok s hg xs _ _ r q)
    · cases e
  | .ins c ks xs, _, _, h, e => by
    simp only [frzW] at e
    split at e
    · rename_i ys q; cases e; cases h with | ins h hl r => 
      have r2 := frzL_ok s hg xs _ _ r q
      exact .ins (s _ _ h) (by rw [hl, r.length, r2.length]) r2
    · cases e
  | .obj i, _, _, h, e => by simp only [frzW] at e; exact hg i _ _ h e
theorem frzL_ok {Bx : Hp} {g : Nat → Option D} (s : Ex B Bx) (hg : ∀ i d v, Den W B μ (.obj i) v → g i = some d → Den W Bx [] d v) : ∀ (ds es : List D) (vs : List V), DenL W B μ ds vs → frzL g ds = some es → DenL W Bx [] es vs
  | [], _, _, h, e => by simp [frzL] at e; subst e; cases h; exact .nil
  | d :: ds, _, _, h, e => by
    simp only [frzL] at e
    split at e
    · rename_i p ps q1 q2; cases e; cases h with | cons h r => exact .cons (frzW_ok s hg d _ _ h q1) (frzL_ok s hg ds _ _ r q2)
    · cases e
end
theorem mem_drop_at {l : List Addr} {m i : Nat} {a : Addr} (h : l[i]? = some a) (q : ¬ i < m) : a ∈ l.drop m := by
  have e : (l.drop m)[i - m]? = some a := by
    rw [List.getElem?_drop]
    rw [show m + (i - m) = i by omega]
    exact h
  exact List.mem_of_getElem? e
theorem frzC_ok {m : Nat} (r : Rel W B μ S H) (hx : Ex B (fz B H (μ.drop m))) : ∀ (n i : Nat) (d : D) (v : V), Den W B μ (.obj i) v → frzC S m n i = some d → Den W (fz B H (μ.drop m)) [] d v
  | 0, _, _, _, _, e => by simp [frzC] at e
  | n + 1, i, d, v, h, e => by
    have ih := frzC_ok r hx n
    simp only [frzC] at e
    split at e
    · cases e
    · rename_i hlt
      split at e
      · rename_i xs q
        obtain ⟨a, rfl, hm, vs, h1, h2⟩ := r.get h q
        split at e
        · rename_i ys q2
          cases e
          refine .lst (vs := vs) ?_ (frzL_ok hx (fun i d v => ih i d v) xs ys vs h2 q2)
          unfold fz; rw [if_pos (mem_drop_at hm hlt)]; exact h1
        · cases e
      · rename_i c ks xs q
        obtain ⟨a, rfl, hm, dx, vs, h1, hl, h2⟩ := r.get h q
        split at e
        · rename_i ys q2
          cases e
          have r2 := frzL_ok hx (fun i d v => ih i d v) xs ys vs h2 q2
          refine .ins (dx := dx) (vs := vs) ?_ (by rw [hl, h2.length, r2.length]) r2
          unfold fz; rw [if_pos (mem_drop_at hm hlt)]; exact h1
        · cases e
      · cases e
theorem fz_exd {m : Nat} (r : Rel W B μ S H) : Ex B (fz B H (μ.drop m)) := fun a o h => by
  unfold fz
  split
  · rename_i q; rw [(r.mem (List.mem_of_mem_drop q)).1] at h; cases h
  · exact h
theorem fz_subd {m : Nat} (r : Rel W B μ S H) : Ex (fz B H (μ.drop m)) H := fun a o h => by
  unfold fz at h
  split at h
  · exact h
  · exact r.sub a o h
theorem frz_ok {m : Nat} (r : Rel W B μ S H) {d e : D} {v : V} (h : Den W B μ d v) (q : frz m S d = some e) : Den W (fz B H (μ.drop m)) [] e v :=
  frzW_ok (fz_exd r) (fun i d v => frzC_ok r (fz_exd r) 6 i d v) d e v h q
mutual
theorem den_pure {μ2 : List Addr} : ∀ (d : D) (v : V), pureD d = true → Den W B μ d v → Den W B μ2 d v
  | .non, _, _, h => by cases h; exact .non
  | .bl _, _, _, h => by cases h; exact .bl _
  | .int _, _, _, h => by cases h; exact .int _
  | .str _, _, _, h => by cases h; exact .str _
  | .tup xs, _, p, h => by cases h with | tup h r => exact .tup h (denL_pure xs _ (by simpa [pureD] using p) r)
  | .lst xs, _, p, h => by cases h with | lst h r => exact .lst h (denL_pure xs _ (by simpa [pureD] using p) r)
  | .scr xs, _, p, h => by cases h with | scr h r => exact .scr h (denL_pure xs _ (by simpa [pureD] using p) r)
  | .ins _ _ xs, _, p, h => by cases h with | ins h hl r => exact .ins h hl (denL_pure xs _ (by simpa [pureD] using p) r)
  | .obj _, _, p, _ => by simp [pureD] at p
theorem denL_pure {μ2 : List Addr} : ∀ (ds : List D) (vs : List V), pureL ds = true → DenL W B μ ds vs → DenL W B μ2 ds vs
  | [], _, _, h => by cases h; exact .nil
  | d :: ds, _, p, h => by
    simp only [pureL, Bool.and_eq_true] at p
    cases h with | cons h r => exact .cons (den_pure d _ p.1 h) (denL_pure ds _ p.2 r)
end
/-- frozen data has no cells -/
theorem den_nil {d : D} {v : V} (h : Den W B [] d v) : Den W B μ d v := Den.mono (Ex.refl _) ⟨μ, by simp⟩ _ _ h
theorem denL_nil {ds : List D} {vs : List V} (h : DenL W B [] ds vs) : DenL W B μ ds vs := DenL.mono (Ex.refl _) ⟨μ, by simp⟩ _ _ h

theorem Rel.empty (r : Rel W B μ S H) : Rel W B [] [] H := ⟨r.sub, rfl, List.nodup_nil, fun i a c h => by simp at h, r.tb, r.nt⟩
/-- an object that nobody speaks of -/
theorem Rel.loose {p : Addr} {o : HO} (r : Rel W B μ S H) (hp : H p = none) : Step B μ H B μ (upd H p o) ∧ Rel W B μ S (upd H p o) := by
  have hB : B p = none := by
    cases q : B p with
    | none => rfl
    | some x => rw [r.sub p x q] at hp; cases hp
  have hm : p ∉ μ := fun h => by
    obtain ⟨_, o, e⟩ := r.mem h
    rw [hp] at e; cases e
  refine ⟨⟨⟨[], by simp, by simp⟩, Ex.refl _, fun a x h => .inl h, fun a x h _ _ => Ex.new hp a x h, fun a h => fresh_new hp h⟩, ⟨r.sub.trans (Ex.new hp), r.len, r.nd, fun i a c h1 h2 => ?_, tabs_new r.tb hp, r.nt⟩⟩
  · obtain ⟨b, c⟩ := r.cell i a c h1 h2
    have ne : a ≠ p := fun q => hm (q ▸ List.mem_of_getElem? h1)
    exact ⟨b, c.at fun o _ h => by rw [upd_ne ne]; exact h⟩
theorem fz_nt {m : Nat} (r : Rel W B μ S H) : ∀ a ps, fz B H (μ.drop m) a ≠ some (.tbl ps) := fun a ps e => by
  unfold fz at e
  split at e
  · rename_i hm
    obtain ⟨o, h1, h2⟩ := r.memP (List.mem_of_mem_drop hm)
    rw [h1] at e; cases e; exact h2
  · exact r.nt a ps e
/-- back from a call that was given data alone: H2 the heap at its start, ν₀ its first cells -/
theorem pure_back {B1 : Hp} {H1 H2 : Hp} {ν μ1 : List Addr} {S1 : Store} (r : Rel W B μ S H) (hx : Ex H H2) (hf : ∀ a ∈ ν, Fresh H a) (s1 : Step B ν H2 B1 μ1 H1) (r1 : Rel W B1 μ1 S1 H1) :
    Step B μ H (fz B1 H1 (μ1.drop 0)) μ H1 ∧ Rel W (fz B1 H1 (μ1.drop 0)) μ S H1 := by
  have back : ∀ a, Fresh H2 a → Fresh H a := fun a h o hn e => h o hn (hx a o e)
  obtain ⟨ν', e, hν⟩ := s1.pre
  have fr : ∀ a ∈ μ1.drop 0, Fresh H a := fun a h => by
    rw [List.drop_zero, e] at h
    rcases List.mem_append.mp h with h | h
    · exact hf a h
    · exact back a (hν a h)
  have frm : ∀ a o, NoTbl o → H a = some o → H1 a = some o := fun a o hn h => s1.frame a o (hx a o h) (fun q => (hf a q).no hn h) hn
  have nw : ∀ a o, fz B1 H1 (μ1.drop 0) a = some o → B a = some o ∨ Fresh H a := fun a o h => by
    by_cases q : a ∈ μ1.drop 0
    · exact .inr (fr a q)
    · unfold fz at h
      rw [if_neg q] at h
      rcases s1.new a o h with h | h
      · exact .inl h
      · exact .inr (back a h)
  have gr : Ex B (fz B1 H1 (μ1.drop 0)) := s1.grow.trans (fz_exd r1)
  refine ⟨⟨⟨[], by simp, by simp⟩, gr, nw, fun a o h _ hn => frm a o hn h, fun a h => back a (s1.keep a h)⟩, ⟨fz_subd r1, r.len, r.nd, fun i a c h1 h2 => ?_, r1.tb, fz_nt r1⟩⟩
  · obtain ⟨b, c⟩ := r.cell i a c h1 h2
    obtain ⟨o, ho, hpl⟩ := c.plain
    refine ⟨?_, (c.mono gr (Pre.refl _)).at fun o hp => frm a o (plain_nt hp)⟩
    cases q : fz B1 H1 (μ1.drop 0) a with
    | none => rfl
    | some x =>
      rcases nw a x q with h | h
      · rw [b] at h; cases h
      · exact (h.no (plain_nt hpl) ho).elim
end LN

set_option Elab.async false
set_option linter.all false
set_option maxRecDepth 100000
set_option maxHeartbeats 1000000
namespace LN
open PySem L2

/-! ### readings from the evaluator -/
abbrev EvF (α : Type) := DEnv → Store → Option (α × Store)
def tE (W : WP) (ev : EvF D) : TE := fun σ H Q => ∃ env S B μ d S', Rel W B μ S H ∧ EnvOk W B μ env σ ∧ ev env S = some (d, S') ∧
  ∀ B' μ' H' v, Step B μ H B' μ' H' → Rel W B' μ' S' H' → Den W B' μ' d v → Q v H'
def tT (W : WP) (ev : EvF D) : TT := fun σ H Q => ∃ env S B μ b S', Rel W B μ S H ∧ EnvOk W B μ env σ ∧ ev env S = some (.bl b, S') ∧
  ∀ B' μ' H', Step B μ H B' μ' H' → Rel W B' μ' S' H' → Q b H'
def tL (W : WP) (ev : EvF (List D)) : TA := fun σ H Q => ∃ env S B μ ds S', Rel W B μ S H ∧ EnvOk W B μ env σ ∧ ev env S = some (ds, S') ∧
  ∀ B' μ' H' vs, Step B μ H B' μ' H' → Rel W B' μ' S' H' → DenL W B' μ' ds vs → Q vs H'
theorem PE.imp {X : Cx} {e : Expr} {t t' : TE} (h : PE X e t) (k : ∀ σ H Q, t' σ H Q → t σ H Q) : PE X e t' := ⟨fun pins s σ H Q I q => h.run pins s σ H Q I (k _ _ _ q)⟩
theorem PT.imp {X : Cx} {e : Expr} {t t' : TT} (h : PT X e t) (k : ∀ σ H Q, t' σ H Q → t σ H Q) : PT X e t' := ⟨fun pins s σ H Q I q => h.run pins s σ H Q I (k _ _ _ q)⟩
theorem PA.imp {X : Cx} {e : List Expr} {t t' : TA} (h : PA X e t) (k : ∀ σ H Q, t' σ H Q → t σ H Q) : PA X e t' := ⟨fun pos pins s σ H Q I q => h.run pos pins s σ H Q I (k _ _ _ q)⟩
theorem PE.or {X : Cx} {e : Expr} {t t' : TE} (h : PE X e t) (h' : PE X e t') : PE X e (fun σ H Q => t σ H Q ∨ t' σ H Q) :=
  ⟨fun pins s σ H Q I q => q.elim (h.run pins s σ H Q I) (h'.run pins s σ H Q I)⟩
theorem OpR.imp {X : Cx} {f : Value → Value → Sem Value} {r r' : R2} (h : OpR X f r) (k : ∀ x y H Q, r' x y H Q → r x y H Q) : OpR X f r' := fun pins s σ H x y v u Q I rx ry q => h pins s σ H x y v u Q I rx ry (k _ _ _ _ q)
theorem IxR.imp {X : Cx} {r r' : R2} (h : IxR X r) (k : ∀ x y H Q, r' x y H Q → r x y H Q) : IxR X r' := fun va sl pins s σ H x y v u Q I rx ry q => h va sl pins s σ H x y v u Q I rx ry (k _ _ _ _ q)
theorem PI.imp {X : Cx} {tg e : Expr} {t t' : TI} (h : PI X tg e t) (k : ∀ σ H R, t' σ H R → t σ H R) : PI X tg e t' := ⟨fun pins s σ H R I q => h.run pins s σ H R I (k _ _ _ q)⟩
theorem PI.or {X : Cx} {tg e : Expr} {t t' : TI} (h : PI X tg e t) (h' : PI X tg e t') : PI X tg e (fun σ H R => t σ H R ∨ t' σ H R) :=
  ⟨fun pins s σ H R I q => q.elim (h.run pins s σ H R I) (h'.run pins s σ H R I)⟩
theorem CallR.imp {X : Cx} {f : Value} {r r' : List V → Hp → VK → Prop} (h : CallR X f r) (k : ∀ xs H Q, r' xs H Q → r xs H Q) : CallR X f r' := fun pins s σ H xs us Q I rx q => h pins s σ H xs us Q I rx (k _ _ _ q)

/-! ### what the names of the text are -/
inductive GK where
  | fn (f np : Nat)
  | fnk (f np : Nat) (ks : List Str) (dfl : List D)
  | gen (f np : Nat)
  | cls (c f np : Nat)
  | int (i : Int)
  | str (s : List Nat)
  | bn
structure Cn where
  N : List Str
  sc : Scope
  blk : Option Scope
  G : List (Str × GK)
  lam : Bool := false
/-- a maker of lambdas: its code object, its table -/
def LamC (W : WP) (X : Cx) : Prop := ∃ c P, X.env.code = .ref c ∧ LamX.TabB X.base X.mg c P ∧ (P, X.env.qual ++ "<lambda>") ∈ W.tbs ∧ ∀ p ∈ W.tbs, p.1 = P → p.2 = X.env.qual ++ "<lambda>"
def spS (W : WP) (F : Spc) : Sp := fun vs H Q _ => ∃ B μ S ds d S', Rel W B μ S H ∧ DenL W B μ ds vs ∧ F ds S = some (d, S') ∧
  ∀ B' μ' H' v, Step B μ H B' μ' H' → Rel W B' μ' S' H' → Den W B' μ' d v → Q v H'
/-- a def that keeps its promise; how its arguments bind -/
def FnS (W : WP) (k : Nat) (X : Cx) (a : Addr) (np : Nat) (F : Spc) : Prop := ∃ (fd : FuncData) (ps : List Str), ps.length = np ∧ Binds X.K fd ps [] ∧ FnOk X.prog X.w X.K X.mg X.base CX0 k a fd ps (spS W F)
def BindOk (W : WP) (K : PySem.W.Frag) (fd : FuncData) (ps : List Str) : BK → Prop
  | .pl => Binds K fd ps []
  | .kw ks dfl => ks.length ≤ ps.length ∧ (∃ (ds : List Value) (dvs : List V), Binds K fd ps ds ∧ Vals dvs ds ∧ ∀ B μ, DenL W B μ dfl dvs) ∧ ∃ g, KBn K fd ps (ps.length - ks.length) ks g (fun vs zs => vs ++ zs)
def FnB (W : WP) (k : Nat) (X : Cx) (a : Addr) (np : Nat) (bk : BK) (F : Spc) : Prop := ∃ (fd : FuncData) (ps : List Str), ps.length = np ∧ BindOk W X.K fd ps bk ∧ FnOk X.prog X.w X.K X.mg X.base CX0 k a fd ps (spS W F)
def spG (W : WP) (F : Spc) : SpG := fun vs H cont _ => ∃ B μ S ds ys S', Rel W B μ S H ∧ DenL W B μ ds vs ∧ F ds S = some (.lst ys, S') ∧ ∀ B' μ' H' out, Step B μ H B' μ' H' → Rel W B' μ' S' H' → DenL W B' μ' ys out → cont out H'
def GnS (W : WP) (k : Nat) (X : Cx) (a : Addr) (np : Nat) (F : Spc) : Prop := (∀ ds S, F ds S = none) ∨ (∀ ds S d S', F ds S = some (d, S') → ∃ ys, d = .lst ys) ∧ ∃ (j : Nat) (fd : FuncData) (ps : List Str), j + 3 ≤ k + 1 ∧ ps.length = np ∧ Binds X.K fd ps [] ∧ GFn X.prog X.w X.K X.mg X.base j a fd ps (spG W F)
def GOk (W : WP) (T : Tab) (k : Nat) (X : Cx) (x : Str) : GK → Prop
  | .fn f np => ∃ a, X.mg x = some (.ref a) ∧ PySem.W.keepIn X.K (.ref a) = true ∧ FnS W k X a np (T.fn f)
  | .fnk f np ks dfl => ∃ a, X.mg x = some (.ref a) ∧ PySem.W.keepIn X.K (.ref a) = true ∧ FnB W k X a np (.kw ks dfl) (T.fn f)
  | .gen f np => ∃ a, X.mg x = some (.ref a) ∧ PySem.W.keepIn X.K (.ref a) = true ∧ GnS W k X a np (T.fn f)
  | .cls c f np => X.mg x = some (.ref (W.cls c)) ∧ ∃ a, Mk X.K (W.cls c) a ∧ FnS W k X a (np + 1) (T.fn f)
  | .int i => ∃ t, X.mg x = some (.int i t)
  | .str s => ∃ t, X.mg x = some (.str ⟨s.toArray⟩ t)
  | .bn => X.mg x = none
/-- what is known of the classes -/
structure KOk (W : WP) (T : Tab) (mnm : Nat → Str) (k : Nat) (X : Cx) : Prop where
  inj : ∀ f g, W.fnm f = W.fnm g → f = g
  nmf : ∀ m f, W.fnm f ≠ mnm m
  cls : ∀ c, T.ck c = true → Cls X.K (W.cls c)
  fld : ∀ c f, T.fl c f = true → NoAttr X.K (W.cls c) (W.fnm f)
  mth : ∀ c m f, T.mt c m = some f → ∃ a np, Meth X.K (W.cls c) (mnm m) a ∧ FnS W k X a np (T.fn f)
  ins : ∀ c, T.ic c = true → Cls X.K (W.cls c) ∧ PySem.W.findIn X.K (.ref (W.cls c)) "__class__" = some (some (.builtin "object.__class__")) ∧ PySem.W.specialIn X.K (.builtin "object.__class__") "__get__" = some (some (.builtin "getset_descriptor.__get__")) ∧
    PySem.W.takesIn X.K (.builtin "object.__class__") = some true ∧ PySem.W.mroIn X.K (W.cls c) (.type "object") = some true
  kit : ∀ c, T.ic c = true → PySem.W.kitOne X.K (.type "NoneType") (.ref (W.cls c)) = some false ∧ ∀ b : BTy, PySem.W.kitOne X.K (.type b.nm) (.ref (W.cls c)) = some false ∧ PySem.W.kitOne X.K (.ref (W.cls c)) (.type b.nm) = some false
  kit2 : ∀ c c', T.ic c = true → T.ic c' = true → PySem.W.kitOne X.K (.ref (W.cls c)) (.ref (W.cls c')) = some (c == c')
structure CxOk (c : Cn) (W : WP) (T : Tab) (mnm : Nat → Str) (k : Nat) (X : Cx) : Prop where
  hN : X.N = c.N
  hs : X.env.scope = c.sc
  hb : ∀ x, (match c.blk with | none => true | some s => s.names.lookup x == some .cell) = true → X.fn x = true
  nd : c.N.Nodup
  calm : X.calm = true
  room : Room (k + 1) X.A
  hK : X.K = W.K
  xe : X.xe = fun _ _ => False
  gl : ∀ x g, c.G.lookup x = some g → GOk W T k X x g
  kk : KOk W T mnm k X
  lam : c.lam = true → LamC W X
end LN

set_option Elab.async false
set_option linter.all false
set_option maxRecDepth 100000
set_option maxHeartbeats 1000000
namespace LN
open PySem L2
variable {W : WP} {B B' : Hp} {μ μ' : List Addr} {S S' : Store} {H H' : Hp} {c : Cn} {T : Tab} {mnm : Nat → Str} {k : Nat} {X : Cx}

theorem CxOk.hu (ok : CxOk c W T mnm k X) : X.A.units + 64 < cLine := ok.room.units
theorem CxOk.hu65 (ok : CxOk c W T mnm k X) : X.A.units + 65 < cLine := by have := ok.room.un; omega
theorem CxOk.r0 (ok : CxOk c W T mnm k X) : Room k X.A := ok.room.mono (Nat.le_succ k)
theorem sz {n : Nat} (h : szOk n = true) : n ≤ sizeLine := Nat.le_trans (of_decide_eq_true h) (by decide)

/-- two values under an operation: what is asked -/
def r2 (W : WP) (p : P2) : R2 := fun x y H Q => ∃ B μ S a b d, Rel W B μ S H ∧ Den W B μ a x ∧ Den W B μ b y ∧ p2 p a b S = some d ∧
  ∀ B' H' v, Step B μ H B' μ H' → Rel W B' μ S H' → Den W B' μ d v → Q v H'
theorem den_int {i : Int} {v : V} (h : Den W B μ (.int i) v) : v = .int i := by cases h; rfl
theorem den_bl {i : Bool} {v : V} (h : Den W B μ (.bl i) v) : v = .bl i := by cases h; rfl
theorem den_str {s : List Nat} {v : V} (h : Den W B μ (.str s) v) : v = .str ⟨s.toArray⟩ := by cases h; rfl
theorem den_non {v : V} (h : Den W B μ .non v) : v = .non := by cases h; rfl
theorem den_isN {a : D} {v : V} (h : Den W B μ a v) : decide (v = .non) = isNone a := by
  cases a <;> cases h <;> simp [isNone]
theorem ix_at {xs : List D} {vs : List V} {i : Int} {d : D} (r : DenL W B μ xs vs) (e : ixD xs i = some d) : ∃ v, atI vs i = some v ∧ Den W B μ d v := by
  unfold ixD at e
  have hl := r.length
  split at e
  · rename_i h0
    obtain ⟨v, h1, h2⟩ := r.at e
    have hlt : i.toNat < vs.length := (List.getElem?_eq_some_iff.mp h1).1
    refine ⟨v, ?_, h2⟩
    unfold atI ixN
    rw [if_pos h0, if_pos (by omega)]
    simpa using h1
  · split at e
    · rename_i h0 h1
      obtain ⟨v, g1, g2⟩ := r.at e
      refine ⟨v, ?_, g2⟩
      unfold atI ixN
      rw [if_neg h0, if_pos (by omega), ← hl]
      simpa using g1
    · cases e
theorem ixc_at {xs : List Nat} {i : Int} {d : Nat} (e : ixC xs i = some d) : atI xs i = some d := by
  unfold ixC at e
  unfold atI ixN
  split at e
  · rename_i h0
    have hlt : i.toNat < xs.length := (List.getElem?_eq_some_iff.mp e).1
    rw [if_pos h0, if_pos (by omega)]
    simpa using e
  · split at e
    · rename_i h0 h1
      rw [if_neg h0, if_pos h1]
      simpa using e
    · cases e
theorem op_in_dict {X : Cx} (hu : X.A.units + 1 < cLine) : OpR X (compareOp .In) (fun y x H Q => ∃ a o, x = .ref a ∧ DGet H a y o ∧ Q (.bl o.isSome) H) := by
  intro pins s σ H y x u v Q I ry rx h
  obtain ⟨a, o, rfl, g, q⟩ := h
  cases (show v = Value.ref a from rx)
  exact d_in hu I g ry fun s' I' => ⟨.bl _, H, I', rfl, q⟩
theorem op_notin_dict {X : Cx} (hu : X.A.units + 1 < cLine) : OpR X (compareOp .NotIn) (fun y x H Q => ∃ a o, x = .ref a ∧ DGet H a y o ∧ Q (.bl (!o.isSome)) H) := by
  intro pins s σ H y x u v Q I ry rx h
  obtain ⟨a, o, rfl, g, q⟩ := h
  cases (show v = Value.ref a from rx)
  exact d_notIn hu I g ry fun s' I' => ⟨.bl _, H, I', rfl, q⟩
theorem getK_val : ∀ {ks : List DK} {xs : List D} {vs : List V} {j : DK}, ks.length = xs.length → DenL W B μ xs vs →
    (∀ d, getK ks xs j = some d → ∃ v, valV ((ks.map kC).zip vs) (kC j) = some v ∧ Den W B μ d v) ∧ (getK ks xs j = none → valV ((ks.map kC).zip vs) (kC j) = none)
  | [], [], _, j, _, h => by cases h; exact ⟨fun d e => by simp [getK] at e, fun _ => rfl⟩
  | [], _ :: _, _, _, h, _ => by simp at h
  | _ :: _, [], _, _, h, _ => by simp at h
  | k :: ks, x :: xs, _, j, hl, h => by
    cases h with | cons h r => 
      have ih := getK_val (j := j) (by simpa using hl) r
      simp only [getK, List.map_cons, List.zip_cons_cons]
      by_cases e : k = j
      · subst e
        rw [if_pos rfl, valV_pos rfl]
        exact ⟨fun d e => by cases e; exact ⟨_, rfl, h⟩, fun e => by cases e⟩
      · rw [if_neg e, valV_neg (fun z => e (kC_inj z))]
        exact ih
theorem kV_of {a : D} {j : DK} {v : V} (h : Den W B μ a v) (e : keyD a = some j) : v = kV (kC j) := by
  cases a <;> simp [keyD] at e
  · cases h; subst e; rfl
  · cases h; subst e; rfl

theorem op_p2 (ok : CxOk c W T mnm k X) : 
    OpR X (binaryOp .Add) (r2 W .add) ∧ OpR X (binaryOp .Sub) (r2 W .sub) ∧ OpR X (binaryOp .Mult) (r2 W .mul) ∧ OpR X (binaryOp .FloorDiv) (r2 W .fdiv) ∧ OpR X (binaryOp .Mod) (r2 W .mod) ∧ OpR X (binaryOp .Pow) (r2 W .pow) := by
  refine ⟨?_, ?_, ?_, ?_, ?_, ?_⟩
  · refine OpR.imp (op_add.or (op_add_str.or op_cat)) ?_
    rintro x y H Q ⟨B, μ, S, a, b, d, r, ha, hb, e, q⟩
    simp only [p2] at e
    split at e
    · cases e
      exact .inl ⟨_, _, den_int ha, den_int hb, q _ _ _ (Step.refl ..) r (.int _)⟩
    · split at e
      · rename_i hz
        cases e
        refine .inr (.inl ⟨_, _, den_str ha, den_str hb, ?_, ?_⟩)
        · have := sz hz
          simpa [Str.length] using this
        · refine q _ _ _ (Step.refl ..) r ?_
          have : ∀ s t : List Nat, (⟨s.toArray⟩ : Str) ++ ⟨t.toArray⟩ = ⟨(s ++ t).toArray⟩ := fun s t => by
            show Str.append _ _ = _
            simp [Str.append]
          rw [this]
          exact .str _
      · cases e
    · split at e
      · rename_i xs ys q1 q2
        split at e
        · rename_i hz
          cases e
          obtain ⟨p1, vs, rfl, h1, d1⟩ := lst_ok r ha q1
          obtain ⟨p2, ws, rfl, h2, d2⟩ := lst_ok r hb q2
          refine .inr (.inr ⟨_, _, _, _, rfl, rfl, h1, h2, by rw [← d1.length, ← d2.length]; exact sz hz, fun p hp => ?_⟩)
          obtain ⟨s1, r1⟩ := r.data (o := .lst (vs ++ ws)) hp
          exact q _ _ _ s1 r1 (.lst upd_same (DenL.mono s1.grow s1.p _ _ (d1.append d2)))
        · cases e
      · cases e
  · refine OpR.imp op_sub ?_
    rintro x y H Q ⟨B, μ, S, a, b, d, r, ha, hb, e, q⟩
    simp only [p2] at e
    split at e
    · cases e
      exact ⟨_, _, den_int ha, den_int hb, q _ _ _ (Step.refl ..) r (.int _)⟩
    · cases e
  · refine OpR.imp op_mul ?_
    rintro x y H Q ⟨B, μ, S, a, b, d, r, ha, hb, e, q⟩
    simp only [p2] at e
    split at e
    · split at e
      · rename_i hc
        cases e
        refine ⟨_, _, den_int ha, den_int hb, ?_, q _ _ _ (Step.refl ..) r (.int _)⟩
        unfold cmulB at hc
        rw [Bool.or_eq_true, decide_eq_true_eq, decide_eq_true_eq] at hc
        exact hc
      · cases e
    · cases e
  · refine OpR.imp op_fdiv ?_
    rintro x y H Q ⟨B, μ, S, a, b, d, r, ha, hb, e, q⟩
    simp only [p2] at e
    split at e
    · split at e
      · rename_i hc
        cases e
        exact ⟨_, _, den_int ha, den_int hb, hc, q _ _ _ (Step.refl ..) r (.int _)⟩
      · cases e
    · cases e
  · refine OpR.imp op_mod ?_
    rintro x y H Q ⟨B, μ, S, a, b, d, r, ha, hb, e, q⟩
    simp only [p2] at e
    split at e
    · split at e
      · rename_i hc
        cases e
        exact ⟨_, _, den_int ha, den_int hb, hc, q _ _ _ (Step.refl ..) r (.int _)⟩
      · cases e
    · cases e
  · refine OpR.imp op_pow ?_
    rintro x y H Q ⟨B, μ, S, a, b, d, r, ha, hb, e, q⟩
    simp only [p2] at e
    split at e
    · split at e
      · rename_i hc
        cases e
        exact ⟨_, _, den_int ha, den_int hb, ⟨hc.1, by omega, hc.2.2⟩, q _ _ _ (Step.refl ..) r (.int _)⟩
      · cases e
    · cases e
theorem eqS_ok (r : Rel W B μ S H) {a b : D} {x y : V} {z : Bool} (ha : Den W B μ a x) (hb : Den W B μ b y) (e : eqS S a b = some z) :
    ∃ p q, Dp W.K H x p ∧ Dp W.K H y q ∧ SeqAt.shaped p = true ∧ SeqAt.shaped q = true ∧ z = PyData.eqv p q := by
  unfold eqS at e
  split at e
  · rename_i p q h1 h2
    split at e
    · rename_i hs
      cases e
      have hs : (SeqAt.shaped p && SeqAt.shaped q) = true := hs
      rw [Bool.and_eq_true] at hs
      exact ⟨p, q, pyS_ok r ha h1, pyS_ok r hb h2, hs.1, hs.2, rfl⟩
    · cases e
  · cases e
/-- what «in» asks: the three ways -/
theorem flV_of {d : D} {v : V} (h : Den W B μ d v) (f : flatD d = true) : v = flV d := by
  cases d <;> first | (cases f; done) | (cases h; rfl)
theorem flV_flat (d : D) : flatV (flV d) = true := by cases d <;> rfl
theorem flVs_of : ∀ {ds : List D} {vs : List V}, DenL W B μ ds vs → ds.all flatD = true → vs = ds.map flV ∧ vs.all flatV = true
  | [], _, h, _ => by cases h; exact ⟨rfl, rfl⟩
  | d :: ds, _, h, f => by
    cases h with | cons h1 h2 =>
      rw [List.all_cons, Bool.and_eq_true] at f
      obtain ⟨g1, g2⟩ := flVs_of h2 f.2
      have := flV_of h1 f.1
      subst this g1
      exact ⟨rfl, by rw [List.all_cons, flV_flat, g2]; rfl⟩
theorem inS_ok (r : Rel W B μ S H) {a b : D} {x y : V} {z : Bool} (ha : Den W B μ a x) (hb : Den W B μ b y) (e : inS S a b = some z) :
    (∃ (c : Nat) (t : Str), x = .str ⟨#[c]⟩ ∧ y = .str t ∧ z = decide (c ∈ t.cps.toList)) ∨
    (∃ d ds, Dp W.K H x d ∧ Dp W.K H y (.list ds) ∧ SeqAt.shaped d = true ∧ SeqAt.shaped (.list ds) = true ∧ z = ds.any fun w => PyData.eqv w d) ∨
    (∃ p o, y = .ref p ∧ DGet H p x o ∧ z = o.isSome) ∨
    (∃ p vs, y = .ref p ∧ SqT W.K H p vs ∧ flatV x = true ∧ vs.all flatV = true ∧ z = inV x vs) := by
  unfold inS at e
  split at e
  · rename_i t
    split at e
    · rename_i c
      cases e
      refine .inl ⟨c, ⟨t.toArray⟩, den_str ha, den_str hb, ?_⟩
      simp
    · cases e
  · split at e
    · rename_i xs hf
      cases e
      rw [Bool.and_eq_true] at hf
      cases hb with | tup h1 h2 =>
        have hx := flV_of ha hf.1
        obtain ⟨g1, g2⟩ := flVs_of h2 hf.2
        refine .inr (.inr (.inr ⟨_, _, rfl, ex_t r.sub h1, ?_, g2, ?_⟩))
        · rw [hx]; exact flV_flat _
        · rw [hx, g1]
    · cases e
  · split at e
    · rename_i p ys h1 h2
      split at e
      · rename_i hs
        cases e
        have hs : (SeqAt.shaped p && SeqAt.shaped (.list ys)) = true := hs
        rw [Bool.and_eq_true] at hs
        exact .inr (.inl ⟨p, ys, pyS_ok r ha h1, pyS_ok r hb h2, hs.1, hs.2, rfl⟩)
      · cases e
    · split at e
      · rename_i kk hk _ _ _
        split at e
        · rename_i ks xs hS
          cases e
          obtain ⟨p, rfl, hm, vs, h1, hl, h2⟩ := r.get hb hS
          have g := getK_val (j := kk) hl h2
          refine .inr (.inr (.inl ⟨p, valV ((ks.map kC).zip vs) (kC kk), rfl, ?_, ?_⟩))
          · rw [kV_of ha hk]
            exact DGet.k h1
          · cases q : getK ks xs kk with
            | none => rw [g.2 q]; rfl
            | some d => obtain ⟨v, e1, _⟩ := g.1 d q; rw [e1]; simp
        · cases e
      · cases e
theorem op_c2 (ok : CxOk c W T mnm k X) : 
    OpR X (compareOp .Eq) (r2 W .eq) ∧ OpR X (compareOp .NotEq) (r2 W .ne) ∧ OpR X (compareOp .Lt) (r2 W .lt) ∧ OpR X (compareOp .LtE) (r2 W .le) ∧ OpR X (compareOp .Gt) (r2 W .gt) ∧ OpR X (compareOp .GtE) (r2 W .ge) ∧
    OpR X (compareOp .Is) (r2 W .isN) ∧ OpR X (compareOp .IsNot) (r2 W .notN) ∧ OpR X (compareOp .In) (r2 W .inn) ∧ OpR X (compareOp .NotIn) (r2 W .notin) := by
  refine ⟨?_, ?_, ?_, ?_, ?_, ?_, ?_, ?_, ?_, ?_⟩
  · refine OpR.imp (op_eqD ok.hu) ?_
    rintro x y H Q ⟨B, μ, S, a, b, d, r, ha, hb, e, q⟩
    simp only [p2] at e
    cases h : eqS S a b with
    | none => rw [h] at e; cases e
    | some z =>
      rw [h] at e; cases e
      obtain ⟨p, p', h1, h2, s1, s2, rfl⟩ := eqS_ok r ha hb h
      rw [ok.hK]
      exact ⟨p, p', h1, h2, s1, s2, q _ _ _ (Step.refl ..) r (.bl _)⟩
  · refine OpR.imp (op_neD ok.hu) ?_
    rintro x y H Q ⟨B, μ, S, a, b, d, r, ha, hb, e, q⟩
    simp only [p2] at e
    cases h : eqS S a b with
    | none => rw [h] at e; cases e
    | some z =>
      rw [h] at e; cases e
      obtain ⟨p, p', h1, h2, s1, s2, rfl⟩ := eqS_ok r ha hb h
      rw [ok.hK]
      exact ⟨p, p', h1, h2, s1, s2, q _ _ _ (Step.refl ..) r (.bl _)⟩
  · refine OpR.imp op_lt ?_
    rintro x y H Q ⟨B, μ, S, a, b, d, r, ha, hb, e, q⟩
    simp only [p2] at e
    split at e
    · cases e
      exact ⟨_, _, den_int ha, den_int hb, q _ _ _ (Step.refl ..) r (.bl _)⟩
    · cases e
  · refine OpR.imp op_le ?_
    rintro x y H Q ⟨B, μ, S, a, b, d, r, ha, hb, e, q⟩
    simp only [p2] at e
    split at e
    · cases e
      exact ⟨_, _, den_int ha, den_int hb, q _ _ _ (Step.refl ..) r (.bl _)⟩
    · cases e
  · refine OpR.imp op_gt ?_
    rintro x y H Q ⟨B, μ, S, a, b, d, r, ha, hb, e, q⟩
    simp only [p2] at e
    split at e
    · cases e
      exact ⟨_, _, den_int ha, den_int hb, q _ _ _ (Step.refl ..) r (.bl _)⟩
    · cases e
  · refine OpR.imp op_ge ?_
    rintro x y H Q ⟨B, μ, S, a, b, d, r, ha, hb, e, q⟩
    simp only [p2] at e
    split at e
    · cases e
      exact ⟨_, _, den_int ha, den_int hb, q _ _ _ (Step.refl ..) r (.bl _)⟩
    · cases e
  · refine OpR.imp op_isN ?_
    rintro x y H Q ⟨B, μ, S, a, b, d, r, ha, hb, e, q⟩
    simp only [p2] at e
    split at e
    · cases e
      refine ⟨den_non hb, ?_⟩
      rw [den_isN ha]
      exact q _ _ _ (Step.refl ..) r (.bl _)
    · cases e
  · refine OpR.imp op_notN ?_
    rintro x y H Q ⟨B, μ, S, a, b, d, r, ha, hb, e, q⟩
    simp only [p2] at e
    split at e
    · cases e
      refine ⟨den_non hb, ?_⟩
      rw [den_isN ha]
      exact q _ _ _ (Step.refl ..) r (.bl _)
    · cases e
  · refine OpR.imp (op_in_sign.or ((op_inD ok.hu65).or ((op_in_dict (by have := ok.hu; omega)).or op_in_seq))) ?_
    rintro x y H Q ⟨B, μ, S, a, b, d, r, ha, hb, e, q⟩
    simp only [p2] at e
    cases h : inS S a b with
    | none => rw [h] at e; cases e
    | some z =>
      rw [h] at e; cases e
      have fin := q _ _ _ (Step.refl ..) r (.bl z)
      rcases inS_ok r ha hb h with ⟨c, t, h1, h2, rfl⟩ | ⟨d, ds, h1, h2, h3, h4, rfl⟩ | ⟨p, o, h1, h2, rfl⟩ | ⟨p, vs, h1, h2, h3, h4, rfl⟩
      · exact .inl ⟨c, t, h1, h2, fin⟩
      · exact .inr (.inl (by rw [ok.hK]; exact ⟨d, ds, h1, h2, h3, h4, fin⟩))
      · exact .inr (.inr (.inl ⟨p, o, h1, h2, fin⟩))
      · exact .inr (.inr (.inr (by rw [ok.hK]; exact ⟨p, vs, h1, .inr h2, h3, h4, fin⟩)))
  · refine OpR.imp (op_notIn_sign.or ((op_notInD ok.hu65).or ((op_notin_dict (by have := ok.hu; omega)).or op_notIn_seq))) ?_
    rintro x y H Q ⟨B, μ, S, a, b, d, r, ha, hb, e, q⟩
    simp only [p2] at e
    cases h : inS S a b with
    | none => rw [h] at e; cases e
    | some z =>
      rw [h] at e; cases e
      have fin := q _ _ _ (Step.refl ..) r (.bl (!z))
      rcases inS_ok r ha hb h with ⟨c, t, h1, h2, rfl⟩ | ⟨d, ds, h1, h2, h3, h4, rfl⟩ | ⟨p, o, h1, h2, rfl⟩ | ⟨p, vs, h1, h2, h3, h4, rfl⟩
      · exact .inl ⟨c, t, h1, h2, fin⟩
      · exact .inr (.inl (by rw [ok.hK]; exact ⟨d, ds, h1, h2, h3, h4, fin⟩))
      · exact .inr (.inr (.inl ⟨p, o, h1, h2, fin⟩))
      · exact .inr (.inr (.inr (by rw [ok.hK]; exact ⟨p, vs, h1, .inr h2, h3, h4, fin⟩)))
theorem ix_p2 (ok : CxOk c W T mnm k X) : IxR X (r2 W .idx) := by
  refine IxR.imp ix_seq ?_
  rintro x y H Q ⟨B, μ, S, a, b, d, r, ha, hb, e, q⟩
  simp only [p2] at e
  split at e
  · rename_i i
    have hy := den_int hb
    split at e
    · rename_i s
      split at e
      · rename_i hz
        cases h : ixC s i with
        | none => rw [h] at e; cases e
        | some z =>
          rw [h] at e; cases e
          refine .inr (.inr ⟨⟨s.toArray⟩, i, z, den_str ha, hy, ?_, by simpa using ixc_at h, ?_⟩)
          · have := sz hz
            simpa [Str.length] using this
          · exact q _ _ _ (Step.refl ..) r (.str [z])
      · cases e
    · split at e
      · rename_i xs hq
        obtain ⟨p, vs, rfl, h1, h2⟩ := seq_ok r ha hq
        obtain ⟨v, h3, h4⟩ := ix_at h2 e
        rw [ok.hK]
        rcases h1 with h1 | h1
        · exact .inl ⟨p, vs, i, v, rfl, hy, h1, h3, q _ _ _ (Step.refl ..) r h4⟩
        · exact .inr (.inl ⟨p, vs, i, v, rfl, hy, h1, h3, q _ _ _ (Step.refl ..) r h4⟩)
      · cases e
  · cases e
end LN

set_option Elab.async false
set_option linter.all false
set_option maxRecDepth 100000
set_option maxHeartbeats 1000000
namespace LN
open PySem L2
variable {W : WP} {B B' : Hp} {μ μ' : List Addr} {S S' : Store} {H H' : Hp} {c : Cn} {T : Tab} {mnm : Nat → Str} {k : Nat} {X : Cx}

/-! ### numbers in lists -/
theorem ints_of : ∀ {xs : List D} {is : List Int} {vs : List V}, intsD xs = some is → DenL W B μ xs vs → vs = is.map V.int
  | [], is, vs, e, h => by cases h; simp [intsD] at e; subst e; rfl
  | x :: xs, is, vs, e, h => by
    cases h with | cons h r =>
      cases x with
      | int i =>
        simp only [intsD] at e
        cases q : intsD xs with
        | none => rw [q] at e; cases e
        | some js =>
          rw [q] at e; cases e
          rw [den_int h, ints_of q r]; rfl
      | _ => simp [intsD] at e
theorem bls_of : ∀ {xs : List D} {is : List Bool} {vs : List V}, blsD xs = some is → DenL W B μ xs vs → vs = is.map V.bl
  | [], is, vs, e, h => by cases h; simp [blsD] at e; subst e; rfl
  | x :: xs, is, vs, e, h => by
    cases h with | cons h r =>
      cases x with
      | bl i =>
        simp only [blsD] at e
        cases q : blsD xs with
        | none => rw [q] at e; cases e
        | some js =>
          rw [q] at e; cases e
          rw [den_bl h, bls_of q r]; rfl
      | _ => simp [blsD] at e
theorem denL_ints : ∀ is : List Int, DenL W B μ (is.map D.int) (is.map V.int)
  | [] => .nil
  | i :: is => .cons (.int i) (denL_ints is)
theorem intsD_len : ∀ {xs : List D} {is : List Int}, intsD xs = some is → is.length = xs.length
  | [], is, e => by simp [intsD] at e; subst e; rfl
  | x :: xs, is, e => by
    cases x with
    | int i =>
      simp only [intsD] at e
      cases q : intsD xs with
      | none => rw [q] at e; cases e
      | some js => rw [q] at e; cases e; simp [intsD_len q]
    | _ => simp [intsD] at e
theorem maxI_mem : ∀ {is : List Int}, is ≠ [] → maxI is ∈ is ∧ ∀ y ∈ is, y ≤ maxI is
  | [], h => absurd rfl h
  | [i], _ => ⟨by simp [maxI], by simp [maxI]⟩
  | i :: j :: is, _ => by
    have ih := maxI_mem (is := j :: is) (by simp)
    simp only [maxI]
    split
    · rename_i hlt
      exact ⟨by simp, fun y hy => by
        rcases List.mem_cons.mp hy with e | hy
        · omega
        · have := ih.2 y hy; omega⟩
    · rename_i hlt
      refine ⟨List.mem_cons_of_mem _ ih.1, fun y hy => ?_⟩
      rcases List.mem_cons.mp hy with e | hy
      · omega
      · exact ih.2 y hy
theorem minI_mem : ∀ {is : List Int}, is ≠ [] → minI is ∈ is ∧ ∀ y ∈ is, minI is ≤ y
  | [], h => absurd rfl h
  | [i], _ => ⟨by simp [minI], by simp [minI]⟩
  | i :: j :: is, _ => by
    have ih := minI_mem (is := j :: is) (by simp)
    simp only [minI]
    split
    · rename_i hlt
      exact ⟨by simp, fun y hy => by
        rcases List.mem_cons.mp hy with e | hy
        · omega
        · have := ih.2 y hy; omega⟩
    · rename_i hlt
      refine ⟨List.mem_cons_of_mem _ ih.1, fun y hy => ?_⟩
      rcases List.mem_cons.mp hy with e | hy
      · omega
      · exact ih.2 y hy
theorem insI_perm (i : Int) : ∀ js : List Int, (insI i js).Perm (i :: js)
  | [] => .refl _
  | j :: js => by
    simp only [insI]
    split
    · exact .refl _
    · exact ((insI_perm i js).cons j).trans (List.Perm.swap i j js)
theorem insI_sorted (i : Int) : ∀ {js : List Int}, js.Pairwise (· ≤ ·) → (insI i js).Pairwise (· ≤ ·)
  | [], _ => by simp [insI]
  | j :: js, h => by
    simp only [insI]
    rw [List.pairwise_cons] at h
    split
    · rename_i hij
      rw [List.pairwise_cons, List.pairwise_cons]
      refine ⟨fun y hy => ?_, h⟩
      rcases List.mem_cons.mp hy with e | hy
      · omega
      · have := h.1 y hy; omega
    · rename_i hij
      rw [List.pairwise_cons]
      refine ⟨fun y hy => ?_, insI_sorted i h.2⟩
      rcases List.mem_cons.mp ((insI_perm i js).mem_iff.mp hy) with e | hy
      · omega
      · exact h.1 y hy
theorem sortI_perm : ∀ is : List Int, (sortI is).Perm is
  | [] => .refl _
  | i :: is => (insI_perm i (sortI is)).trans ((sortI_perm is).cons i)
theorem sortI_sorted : ∀ is : List Int, (sortI is).Pairwise (· ≤ ·)
  | [] => .nil
  | i :: is => insI_sorted i (sortI_sorted is)
theorem sorted_unique : ∀ {a b : List Int}, a.Perm b → a.Pairwise (· ≤ ·) → b.Pairwise (· ≤ ·) → a = b
  | [], b, p, _, _ => (List.nil_perm.mp p).symm
  | x :: a, [], p, _, _ => by have := p.length_eq; simp at this
  | x :: a, y :: b, p, ha, hb => by
    rw [List.pairwise_cons] at ha hb
    have e : x = y := by
      have h1 : x ∈ y :: b := p.mem_iff.mp (by simp)
      have h2 : y ∈ x :: a := p.mem_iff.mpr (by simp)
      rcases List.mem_cons.mp h1 with e | h1
      · exact e
      · rcases List.mem_cons.mp h2 with e | h2
        · exact e.symm
        · have := ha.1 y h2; have := hb.1 x h1; omega
    subst e
    rw [sorted_unique (List.Perm.cons_inv p) ha.2 hb.2]

/-! ### a new list -/
theorem newL_ok (r : Rel W B μ S H) {xs : List D} {vs : List V} {p : Addr} (cell : Bool) (hp : H p = none) (h : DenL W B μ xs vs) :
    ∃ B' μ', Step B μ H B' μ' (upd H p (.lst vs)) ∧ Rel W B' μ' (newL cell xs S).2 (upd H p (.lst vs)) ∧ Den W B' μ' (newL cell xs S).1 (.ref p) := by
  cases cell with
  | false =>
    obtain ⟨s1, r1⟩ := r.data (o := .lst vs) hp
    exact ⟨_, _, s1, r1, .lst upd_same (DenL.mono s1.grow s1.p _ _ h)⟩
  | true =>
    have hm : DenL W B (μ ++ [p]) xs vs := DenL.mono (Ex.refl _) ⟨[p], rfl⟩ _ _ h
    obtain ⟨s1, r1⟩ := r.newc (o := .lst vs) (c := .lst xs) hp ⟨vs, upd_same, hm⟩
    refine ⟨_, _, s1, r1, .obj ?_⟩
    show (μ ++ [p])[S.length]? = some p
    rw [← r.len]
    simp
theorem newT_ok (r : Rel W B μ S H) {xs : List D} {vs : List V} {p : Addr} (hp : H p = none) (h : DenL W B μ xs vs) :
    ∃ B', Step B μ H B' μ (upd H p (.tup vs)) ∧ Rel W B' μ S (upd H p (.tup vs)) ∧ Den W B' μ (.tup xs) (.ref p) := by
  obtain ⟨s1, r1⟩ := r.data (o := .tup vs) hp
  exact ⟨_, s1, r1, .tup (.inl (.inl upd_same)) (DenL.mono s1.grow s1.p _ _ h)⟩

/-! ### built-ins -/
def outB (cell : Bool) (nv : NV) (S : Store) : D × Store := match nv with
  | .v d => (d, S)
  | .l xs => newL cell xs S
  | .t xs => (.tup xs, S)
def rB (W : WP) (p : PB) (cell : Bool) : List V → Hp → VK → Prop := fun vs H Q => ∃ B μ S ds nv, Rel W B μ S H ∧ DenL W B μ ds vs ∧ pb p ds S = some nv ∧
  ∀ B' μ' H' v, Step B μ H B' μ' H' → Rel W B' μ' (outB cell nv S).2 H' → Den W B' μ' (outB cell nv S).1 v → Q v H'
def PB.fv : PB → Value
  | .len => .builtin "len"
  | .list => .type "list"
  | .tuple => .type "tuple"
  | .max => .builtin "max"
  | .min => .builtin "min"
  | .sum => .builtin "sum"
  | .all => .builtin "all"
  | .any => .builtin "any"
  | .int => .type "int"
  | .abs => .builtin "abs"
  | .sorted => .builtin "sorted"
  | .sortLN => .none
  | .str => .type "str"
theorem cr_never {X : Cx} {f : Value} : CallR X f (fun _ _ _ => False) := fun _ _ _ _ _ _ _ _ _ h => h.elim
theorem den_dk (j : DK) : Den W B μ (dkD j) (kV (kC j)) := by
  cases j with
  | inl i => exact .int i
  | inr s => exact .str s
theorem denL_dk : ∀ {ks : List DK} {vs : List V}, ks.length = vs.length → DenL W B μ (ks.map dkD) (((ks.map kC).zip vs).map fun kv => kV kv.1)
  | [], _, _ => .nil
  | k :: ks, [], h => by simp at h
  | k :: ks, v :: vs, h => .cons (den_dk k) (denL_dk (ks := ks) (vs := vs) (by simpa using h))
theorem cr_pb (ok : CxOk c W T mnm k X) (p : PB) (cell : Bool) (hnn : p.fv ≠ .none) : CallR X p.fv (rB W p cell) := by
  cases p with
  | len =>
    refine CallR.imp (CallR.or call_len call_lenD) ?_
    rintro vs H Q ⟨B, μ, S, ds, nv, r, h, e, q⟩
    unfold pb at e
    split at e <;> first | contradiction | skip
    · rename_i s _
      split at e
      · rename_i hz
        cases e
        cases h with | cons h r0 => cases r0 with | nil => 
          have hx := den_str h
          subst hx
          refine .inl ⟨_, s.length, rfl, ⟨by simpa [Str.length] using sz hz, by simp [Str.length]⟩, ?_⟩
          exact q _ _ _ _ (Step.refl ..) r (.int _)
      · cases e
    · rename_i a _ _
      cases hs : seqD S a with
      | none =>
        rw [hs] at e
        dsimp only at e
        split at e
        · split at e
          · rename_i ks xs hS
            cases e
            cases h with | cons h r0 => cases r0 with | nil =>
              obtain ⟨p, rfl, hm, ws, h1, h2, h3⟩ := r.get h hS
              refine .inr ⟨p, _, rfl, h1, ?_⟩
              rw [List.length_zip, List.length_map, Nat.min_eq_left (by rw [← h3.length, h2]; exact Nat.le_refl _)]
              exact q _ _ _ _ (Step.refl ..) r (.int _)
          · cases e
        · cases e
      | some xs =>
        rw [hs] at e; cases e
        cases h with | cons h r0 => cases r0 with | nil => 
          obtain ⟨p, ws, rfl, h1, h2⟩ := seq_ok r h hs
          rw [ok.hK]
          refine .inl ⟨_, xs.length, rfl, ?_, ?_⟩
          · rcases h1 with h1 | h1
            · exact .inl ⟨ws, h1, h2.length⟩
            · exact .inr ⟨ws, h1, h2.length⟩
          · exact q _ _ _ _ (Step.refl ..) r (.int _)
  | list =>
    refine CallR.imp (CallR.or call_list_of (call_list_dK ok.calm)) ?_
    rintro vs H Q ⟨B, μ, S, ds, nv, r, h, e, q⟩
    unfold pb at e
    split at e <;> first | contradiction | skip
    rename_i a _
    cases hs : seqD S a with
    | none =>
      rw [hs] at e
      dsimp only at e
      split at e
      · split at e
        · rename_i ks xs hS
          cases e
          cases h with | cons h r0 => cases r0 with | nil =>
            obtain ⟨p, rfl, hm, ws, h1, h2, h3⟩ := r.get h hS
            refine .inr ⟨p, _, rfl, h1, fun l hl => ?_⟩
            obtain ⟨B', μ', s1, r1, d1⟩ := newL_ok r cell hl (denL_dk (W := W) (B := B) (μ := μ) (ks := ks) (vs := ws) (h2.trans h3.length))
            exact q _ _ _ _ s1 r1 d1
        · cases e
      · cases e
    | some xs =>
      rw [hs] at e; cases e
      cases h with | cons h r0 => cases r0 with | nil => 
        obtain ⟨p, ws, rfl, h1, h2⟩ := seq_ok r h hs
        rw [ok.hK]
        refine .inl ⟨p, ws, rfl, h1, fun l hl => ?_⟩
        obtain ⟨B', μ', s1, r1, d1⟩ := newL_ok r cell hl h2
        exact q _ _ _ _ s1 r1 d1
  | tuple =>
    refine CallR.imp call_tuple_of ?_
    rintro vs H Q ⟨B, μ, S, ds, nv, r, h, e, q⟩
    unfold pb at e
    split at e <;> first | contradiction | skip
    · cases e
      rw [ok.hK]
      cases h with | cons h r0 => cases r0 with | nil => 
        have h' := h
        cases h' with | tup h1 h2 => 
          exact ⟨_, _, rfl, .inr ⟨ex_t r.sub h1, q _ _ _ _ (Step.refl ..) r h⟩⟩
    · rename_i a hne _
      cases hs : seqD S a with
      | none => rw [hs] at e; cases e
      | some xs =>
        rw [hs] at e; cases e
        cases h with | cons h r0 => cases r0 with | nil => 
          rw [ok.hK]
          have fin : ∀ {p : Addr} {ws : List V}, SqL W.K H p ws → DenL W B μ xs ws → ∃ (a : Addr) (ys : List V), [V.ref p] = [V.ref a] ∧ ((SqL W.K H a ys ∧ ∀ l, H l = none → Q (.ref l) (upd H l (.tup ys))) ∨ (SqT W.K H a ys ∧ Q (.ref a) H)) := fun {p ws} h1 h2 =>
            ⟨p, ws, rfl, .inl ⟨h1, fun l hl => by
              obtain ⟨B', s1, r1, d1⟩ := newT_ok r hl h2
              exact q _ _ _ _ s1 r1 d1⟩⟩
          cases a with
          | tup ys => exact absurd rfl (hne ys)
          | lst ys => cases h with | lst h1 h2 => simp [seqD] at hs; subst hs; exact fin (SqL.of (r.sub _ _ h1)) h2
          | scr ys => cases h with | scr h1 h2 => simp [seqD] at hs; subst hs; exact fin (ex_l r.sub h1) h2
          | obj i =>
            simp only [seqD] at hs
            split at hs
            · rename_i ys hq
              cases hs
              obtain ⟨a, rfl, hm, ws, h1, h2⟩ := r.get h hq
              exact fin (SqL.of h1) h2
            · cases hs
          | _ => simp [seqD] at hs
  | max =>
    refine CallR.imp (CallR.or (call_max2 ok.calm) (cr_max ok.calm)) ?_
    rintro vs H Q ⟨B, μ, S, ds, nv, r, h, e, q⟩
    unfold pb at e
    split at e <;> first | contradiction | skip
    · cases e
      cases h with | cons h r0 => cases r0 with | cons h' r0 => cases r0 with | nil => 
        have e1 := den_int h
        have e2 := den_int h'
        subst e1 e2
        exact .inl ⟨_, _, rfl, q _ _ _ _ (Step.refl ..) r (.int _)⟩
    · split at e
      · rename_i x xs hq
        cases hi : intsD (x :: xs) with
        | none => rw [hi] at e; cases e
        | some is =>
          rw [hi] at e; cases e
          cases h with | cons h r0 => cases r0 with | nil => 
            obtain ⟨p, ws, rfl, h1, h2⟩ := lst_ok r h hq
            have ew := ints_of hi h2
            subst ew
            have hl := intsD_len hi
            refine .inr ⟨p, is, rfl, by rw [ok.hK]; exact SqL.of h1, by rw [hl]; simp, fun m hm hle => ?_⟩
            have g := maxI_mem (is := is) (by intro z; rw [z] at hl; simp at hl)
            have em : m = maxI is := by have := hle _ g.1; have := g.2 _ hm; omega
            subst em
            exact q _ _ _ _ (Step.refl ..) r (.int _)
      · cases e
  | min =>
    refine CallR.imp (CallR.or (call_min2 ok.calm) (cr_min ok.calm)) ?_
    rintro vs H Q ⟨B, μ, S, ds, nv, r, h, e, q⟩
    unfold pb at e
    split at e <;> first | contradiction | skip
    · cases e
      cases h with | cons h r0 => cases r0 with | cons h' r0 => cases r0 with | nil => 
        have e1 := den_int h
        have e2 := den_int h'
        subst e1 e2
        exact .inl ⟨_, _, rfl, q _ _ _ _ (Step.refl ..) r (.int _)⟩
    · split at e
      · rename_i x xs hq
        cases hi : intsD (x :: xs) with
        | none => rw [hi] at e; cases e
        | some is =>
          rw [hi] at e; cases e
          cases h with | cons h r0 => cases r0 with | nil => 
            obtain ⟨p, ws, rfl, h1, h2⟩ := lst_ok r h hq
            have ew := ints_of hi h2
            subst ew
            have hl := intsD_len hi
            refine .inr ⟨p, is, rfl, by rw [ok.hK]; exact SqL.of h1, by rw [hl]; simp, fun m hm hle => ?_⟩
            have g := minI_mem (is := is) (by intro z; rw [z] at hl; simp at hl)
            have em : m = minI is := by have := hle _ g.1; have := g.2 _ hm; omega
            subst em
            exact q _ _ _ _ (Step.refl ..) r (.int _)
      · cases e
  | sum =>
    refine CallR.imp (cr_sum ok.calm) ?_
    rintro vs H Q ⟨B, μ, S, ds, nv, r, h, e, q⟩
    unfold pb at e
    split at e <;> first | contradiction | skip
    split at e
    · rename_i xs hq
      cases hi : intsD xs with
      | none => rw [hi] at e; cases e
      | some is =>
        rw [hi] at e; cases e
        cases h with | cons h r0 => cases r0 with | nil => 
          obtain ⟨p, ws, rfl, h1, h2⟩ := lst_ok r h hq
          have ew := ints_of hi h2
          subst ew
          exact ⟨p, is, rfl, by rw [ok.hK]; exact SqL.of h1, q _ _ _ _ (Step.refl ..) r (.int _)⟩
    · cases e
  | all =>
    refine CallR.imp (cr_all ok.calm) ?_
    rintro vs H Q ⟨B, μ, S, ds, nv, r, h, e, q⟩
    unfold pb at e
    split at e <;> first | contradiction | skip
    split at e
    · rename_i xs hq
      cases hi : blsD xs with
      | none => rw [hi] at e; cases e
      | some is =>
        rw [hi] at e; cases e
        cases h with | cons h r0 => cases r0 with | nil => 
          obtain ⟨p, ws, rfl, h1, h2⟩ := lst_ok r h hq
          have ew := bls_of hi h2
          subst ew
          exact ⟨p, is, rfl, by rw [ok.hK]; exact SqL.of h1, q _ _ _ _ (Step.refl ..) r (.bl _)⟩
    · cases e
  | any =>
    refine CallR.imp (cr_any ok.calm) ?_
    rintro vs H Q ⟨B, μ, S, ds, nv, r, h, e, q⟩
    unfold pb at e
    split at e <;> first | contradiction | skip
    split at e
    · rename_i xs hq
      cases hi : blsD xs with
      | none => rw [hi] at e; cases e
      | some is =>
        rw [hi] at e; cases e
        cases h with | cons h r0 => cases r0 with | nil => 
          obtain ⟨p, ws, rfl, h1, h2⟩ := lst_ok r h hq
          have ew := bls_of hi h2
          subst ew
          exact ⟨p, is, rfl, by rw [ok.hK]; exact SqL.of h1, q _ _ _ _ (Step.refl ..) r (.bl _)⟩
    · cases e
  | int =>
    refine CallR.imp call_int1 ?_
    rintro vs H Q ⟨B, μ, S, ds, nv, r, h, e, q⟩
    unfold pb at e
    split at e <;> first | contradiction | skip
    · cases e
      cases h with | cons h r0 => cases r0 with | nil => 
        have e1 := den_int h
        subst e1
        exact .inl ⟨_, rfl, q _ _ _ _ (Step.refl ..) r (.int _)⟩
    · cases e
      cases h with | cons h r0 => cases r0 with | nil => 
        have e1 := den_bl h
        subst e1
        exact .inr ⟨_, rfl, q _ _ _ _ (Step.refl ..) r (.int _)⟩
  | abs =>
    refine CallR.imp call_abs ?_
    rintro vs H Q ⟨B, μ, S, ds, nv, r, h, e, q⟩
    unfold pb at e
    split at e <;> first | contradiction | skip
    cases e
    cases h with | cons h r0 => cases r0 with | nil => 
      have e1 := den_int h
      subst e1
      exact ⟨_, rfl, q _ _ _ _ (Step.refl ..) r (.int _)⟩
  | sorted =>
    refine CallR.imp cr_sorted ?_
    rintro vs H Q ⟨B, μ, S, ds, nv, r, h, e, q⟩
    unfold pb at e
    split at e <;> first | contradiction | skip
    split at e
    · rename_i xs hq
      split at e
      · rename_i hlt
        cases hi : intsD xs with
        | none => rw [hi] at e; cases e
        | some is =>
          rw [hi] at e; cases e
          cases h with | cons h r0 => cases r0 with | nil => 
            obtain ⟨p, ws, rfl, h1, h2⟩ := lst_ok r h hq
            have ew := ints_of hi h2
            subst ew
            refine ⟨p, is, rfl, by rw [ok.hK]; exact SqL.of h1, by rw [intsD_len hi]; exact hlt, fun ns' l hp hs hl => ?_⟩
            have en : ns' = sortI is := sorted_unique (hp.trans (sortI_perm is).symm) hs (sortI_sorted is)
            subst en
            obtain ⟨B', μ', s1, r1, d1⟩ := newL_ok r cell hl (denL_ints (W := W) (B := B) (μ := μ) (sortI is))
            exact q _ _ _ _ s1 r1 d1
      · cases e
    · cases e
  | sortLN => exact (hnn rfl).elim
  | str =>
    refine CallR.imp cr_never ?_
    rintro vs H Q ⟨B, μ, S, ds, nv, r, h, e, q⟩
    unfold pb at e
    split at e <;> contradiction
end LN

set_option Elab.async false
set_option linter.all false
set_option maxRecDepth 100000
set_option maxHeartbeats 1000000
namespace LN
open PySem L2
variable {W : WP} {B B' : Hp} {μ μ' : List Addr} {S S' : Store} {H H' : Hp} {c : Cn} {T : Tab} {mnm : Nat → Str} {k : Nat} {X : Cx}

/-! ### what is shown of an expression -/
def SndE (c : Cn) (W : WP) (T : Tab) (mnm : Nat → Str) (k : Nat) (e : Expr) (ie : IE) : Prop := ∀ X, CxOk c W T mnm k X → PE X e (tE W (evE T ie)) ∧ PT X e (tT W (evE T ie))
def nstar : Expr → Bool
  | .Starred _ _ => false
  | _ => true
def SndL (c : Cn) (W : WP) (T : Tab) (mnm : Nat → Str) (k : Nat) (es : List Expr) (ies : List IE) : Prop := (∀ X, CxOk c W T mnm k X → PA X es (tL W (evL T ies))) ∧ es.all nstar = true
theorem star_cons {e : Expr} {es : List Expr} {env : Env} (h : nstar e = true) : starEach (e :: es) env = (false, eval e env) :: starEach es env := by
  cases e <;> first | rfl | cases h
theorem star_any {es : List Expr} {env : Env} {pos : Pos} (h : es.all nstar = true) : (backTo pos (starEach es env)).any (·.1) = false := by
  induction es with
  | nil => rfl
  | cons e es ih =>
    rw [List.all_cons, Bool.and_eq_true] at h
    rw [star_cons h.1]
    show ((false : Bool) || (backTo pos (starEach es env)).any (·.1)) = false
    rw [ih h.2]; rfl
/-- plainly tested -/
def plainT (e : Expr) : Prop := ∀ (env : Env) (whole : Sem Value), isTrue e env whole = (do let v ← whole; standAt e.pos; holding [v] (truthy v))
theorem pt_ev {e : Expr} {ev : EvF D} (h : PE X e (tE W ev)) (he : plainT e) : PT X e (tT W ev) := by
  refine PT.imp (pt_val h (he X.env)) ?_
  rintro σ H Q ⟨env, S, B, μ, b, S', r, eo, ee, q⟩
  exact ⟨env, S, B, μ, .bl b, S', r, eo, ee, fun B' μ' H' v s1 r1 d1 => ⟨b, den_bl d1, q B' μ' H' s1 r1⟩⟩
theorem snd_of {e : Expr} {ie : IE} (h : ∀ X, CxOk c W T mnm k X → PE X e (tE W (evE T ie))) (he : plainT e) : SndE c W T mnm k e ie := fun X ok => ⟨h X ok, pt_ev (h X ok) he⟩

/-! ### names and constants -/
def visB (sc : Scope) (x : Str) : Bool := match sc.names.lookup x with
  | some .local => true
  | some .cell => true
  | some .free => true
  | _ => false
theorem vis_of {sc : Scope} {x : Str} (h : visB sc x = true) : Vis sc x := by
  unfold visB at h
  split at h
  · exact .inl (by assumption)
  · exact .inr (.inl (by assumption))
  · exact .inr (.inr (by assumption))
  · cases h
def plainN (x : Str) : Bool := !(x == ("__debug__" : Str)) && !(x == ("__classdict__" : Str)) && decide (x ≠ "__name__")
theorem plainN_of {x : Str} (h : plainN x = true) : (x == ("__debug__" : Str)) = false ∧ (x == ("__classdict__" : Str)) = false ∧ x ≠ "__name__" := by
  unfold plainN at h
  rw [Bool.and_eq_true, Bool.and_eq_true, Bool.not_eq_true', Bool.not_eq_true', decide_eq_true_eq] at h
  exact ⟨h.1.1, h.1.2, h.2⟩
theorem snd_var {x : Str} {pos : Pos} {i : Nat} (hi : c.N[i]? = some x) (hv : visB c.sc x = true) (hp : plainN x = true) : SndE c W T mnm k (.Name x pos) (.var i) := by
  refine snd_of (fun X ok => ?_) fun _ _ => rfl
  obtain ⟨p1, p2, _⟩ := plainN_of hp
  refine PE.imp (pe_var (i := i) (by rw [ok.hN]; exact hi) (by rw [ok.hs]; exact vis_of hv) p1 p2) ?_
  rintro σ H Q ⟨env, S, B, μ, d, S', r, eo, ee, q⟩
  simp only [evE] at ee
  split at ee
  · rename_i d' hd
    cases ee
    obtain ⟨v, h1, h2⟩ := eo.2 i _ hd
    exact ⟨v, h1, q _ _ _ _ (Step.refl ..) r h2⟩
  · cases ee
theorem con_of {d : D} {v : V} {t : TE} {e : Expr} (h : PE X e (tC v)) (hd : ∀ B μ, Den W B μ d v) : PE X e (tE W (evE T (.con d))) := by
  refine PE.imp h ?_
  rintro σ H Q ⟨env, S, B, μ, d', S', r, eo, ee, q⟩
  simp only [evE] at ee
  cases ee
  exact q _ _ _ _ (Step.refl ..) r (hd _ _)
theorem snd_int {i : Int} {j : Nat} {pos : Pos} : SndE c W T mnm k (.Constant (.int i) j pos) (.con (.int i)) := snd_of (fun X ok => con_of (t := tC (.int i)) pe_int fun _ _ => .int i) fun _ _ => rfl
theorem snd_bl {b : Bool} {j : Nat} {pos : Pos} : SndE c W T mnm k (.Constant (.bool b) j pos) (.con (.bl b)) := snd_of (fun X ok => con_of (t := tC (.bl b)) pe_bl fun _ _ => .bl b) fun _ _ => rfl
theorem snd_non {j : Nat} {pos : Pos} : SndE c W T mnm k (.Constant .none j pos) (.con .non) := snd_of (fun X ok => con_of (t := tC .non) pe_non fun _ _ => .non) fun _ _ => rfl
theorem snd_str {s : Str} {l : List Nat} {j : Nat} {pos : Pos} (h : s = ⟨l.toArray⟩) : SndE c W T mnm k (.Constant (.str s) j pos) (.con (.str l)) := by
  subst h
  exact snd_of (fun X ok => con_of (t := tC (.str ⟨l.toArray⟩)) pe_str fun _ _ => .str l) fun _ _ => rfl
def glB (sc : Scope) (x : Str) : Bool := match sc.names.lookup x with
  | some .globalImplicit => true
  | _ => false
theorem gl_of {x : Str} (ok : CxOk c W T mnm k X) (h : glB c.sc x = true) : Gl X x := by
  unfold Gl Env.kindOf
  rw [ok.hs]
  unfold glB at h
  split at h
  · assumption
  · cases h
theorem snd_gint {x : Str} {pos : Pos} {i : Int} (hg : glB c.sc x = true) (hl : c.G.lookup x = some (.int i)) (hp : plainN x = true) : SndE c W T mnm k (.Name x pos) (.con (.int i)) := by
  refine snd_of (fun X ok => ?_) fun _ _ => rfl
  obtain ⟨t, e⟩ := ok.gl x _ hl
  exact con_of (t := tC (.int i)) (pe_glob (v := .int i) (gl_of ok hg) e ⟨t, rfl⟩ (plainN_of hp).1) fun _ _ => .int i
theorem snd_gstr {x : Str} {pos : Pos} {s : List Nat} (hg : glB c.sc x = true) (hl : c.G.lookup x = some (.str s)) (hp : plainN x = true) : SndE c W T mnm k (.Name x pos) (.con (.str s)) := by
  refine snd_of (fun X ok => ?_) fun _ _ => rfl
  obtain ⟨t, e⟩ := ok.gl x _ hl
  exact con_of (t := tC (.str ⟨s.toArray⟩)) (pe_glob (v := .str ⟨s.toArray⟩) (gl_of ok hg) e ⟨t, rfl⟩ (plainN_of hp).1) fun _ _ => .str s

/-! ### one after the other -/
theorem run2 {a b : IE} {p : P2} {σ : L2.St} {H : Hp} {Q : VK} (h : tE W (evE T (.p2 p a b)) σ H Q) : tOp (r2 W p) (tE W (evE T a)) (tE W (evE T b)) σ H Q := by
  obtain ⟨env, S, B, μ, d, S', r, eo, ee, q⟩ := h
  simp only [evE] at ee
  split at ee
  · rename_i x S1 e1
    split at ee
    · rename_i y S2 e2
      split at ee
      · rename_i z e3
        cases ee
        refine ⟨env, S, B, μ, x, S1, r, eo, e1, fun B1 μ1 H1 v s1 r1 d1 => ?_⟩
        refine ⟨env, S1, B1, μ1, y, _, r1, eo.step s1, e2, fun B2 μ2 H2 w s2 r2 d2 => ?_⟩
        exact ⟨B2, μ2, _, x, y, _, r2, Den.mono s2.grow s2.p _ _ d1, d2, e3, fun B' H' v s3 r3 d3 => q _ _ _ _ ((s1.trans s2).trans s3) r3 d3⟩
      · cases ee
    · cases ee
  · cases ee
theorem snd_bin {op : Operator} {p : P2} {a b : Expr} {ia ib : IE} {pos : Pos} (ho : ∀ X, CxOk c W T mnm k X → OpR X (binaryOp op) (r2 W p)) (ha : SndE c W T mnm k a ia) (hb : SndE c W T mnm k b ib) : SndE c W T mnm k (.BinOp a op b pos) (.p2 p ia ib) :=
  snd_of (fun X ok => PE.imp (pe_op (ho X ok) (ha X ok).1 (hb X ok).1) fun σ H Q h => run2 h) fun _ _ => rfl
def notSet : Expr → Bool
  | .Set .. => false
  | _ => true
theorem nomark_of {op : CmpOp} {b : Expr} (h : notSet b = true) : behindInMarks op b = false := by
  cases b <;> first | rfl | cases h
theorem tT_bl {ie : IE} {σ : L2.St} {H : Hp} {Q : Bool → Hp → Prop} (h : tT W (evE T ie) σ H Q) : tE W (evE T ie) σ H fun x H1 => ∃ b, x = .bl b ∧ Q b H1 := by
  obtain ⟨env, S, B, μ, b, S', r, eo, ee, q⟩ := h
  exact ⟨env, S, B, μ, .bl b, S', r, eo, ee, fun B' μ' H' v s1 r1 d1 => ⟨b, den_bl d1, q B' μ' H' s1 r1⟩⟩
theorem snd_cmp {op : CmpOp} {p : P2} {a b : Expr} {ia ib : IE} {pos : Pos} (ho : ∀ X, CxOk c W T mnm k X → OpR X (compareOp op) (r2 W p)) (hn : notSet b = true) (ha : SndE c W T mnm k a ia) (hb : SndE c W T mnm k b ib) : SndE c W T mnm k (.Compare a [op] [b] pos) (.p2 p ia ib) := fun X ok =>
  ⟨PE.imp (pe_cmpR (ho X ok) (ha X ok).1 (hb X ok).1 (nomark_of hn)) fun σ H Q h => run2 h,
   PT.imp (pt_cmpR (ho X ok) (ha X ok).1 (hb X ok).1 (nomark_of hn)) fun σ H Q h => run2 (tT_bl h)⟩
def notSlice : Expr → Bool
  | .Slice .. => false
  | _ => true
theorem plainIx_of {b : Expr} (h : notSlice b = true) : PlainIx b := fun o i => by
  cases b <;> first | rfl | cases h
theorem snd_idx {a b : Expr} {ia ib : IE} {pos : Pos} (hn : notSlice b = true) (ha : SndE c W T mnm k a ia) (hb : SndE c W T mnm k b ib) : SndE c W T mnm k (.Subscript a b pos) (.p2 .idx ia ib) :=
  snd_of (fun X ok => PE.imp (pe_ix (ix_p2 ok) (ha X ok).1 (hb X ok).1 (plainIx_of hn)) fun σ H Q h => run2 h) fun _ _ => rfl
theorem snd_neg {a : Expr} {ia : IE} {pos : Pos} (ha : SndE c W T mnm k a ia) : SndE c W T mnm k (.UnaryOp .USub a pos) (.neg ia) := by
  refine snd_of (fun X ok => PE.imp (pe_un un_neg (ha X ok).1) ?_) fun _ _ => rfl
  rintro σ H Q ⟨env, S, B, μ, d, S', r, eo, ee, q⟩
  simp only [evE] at ee
  split at ee
  · rename_i i S1 e1
    cases ee
    exact ⟨env, S, B, μ, .int i, _, r, eo, e1, fun B1 μ1 H1 v s1 r1 d1 => ⟨i, den_int d1, q _ _ _ _ s1 r1 (.int _)⟩⟩
  · cases ee
theorem run_chain {a b d : IE} {p p' : P2} {σ : L2.St} {H : Hp} {Q : VK} (h : tE W (evE T (.chain p p' a b d)) σ H Q) : tChain (r2 W p) (r2 W p') (tE W (evE T a)) (tE W (evE T b)) (tE W (evE T d)) σ H Q := by
  obtain ⟨env, S, B, μ, dd, S', r, eo, ee, q⟩ := h
  simp only [evE] at ee
  split at ee
  · rename_i x S1 e1
    split at ee
    · rename_i y S2 e2
      refine ⟨env, S, B, μ, x, S1, r, eo, e1, fun B1 μ1 H1 v s1 r1 d1 => ?_⟩
      refine ⟨env, S1, B1, μ1, y, _, r1, eo.step s1, e2, fun B2 μ2 H2 w s2 r2 d2 => ?_⟩
      split at ee
      · rename_i e3
        refine ⟨B2, μ2, _, x, y, _, r2, Den.mono s2.grow s2.p _ _ d1, d2, e3, fun B' H' z s3 r3 d3 => ⟨true, den_bl d3, ?_⟩⟩
        split at ee
        · rename_i z S3 e4
          split at ee
          · rename_i kk e5
            cases ee
            refine iteT ?_
            refine ⟨env, _, B', μ2, z, _, r3, ((eo.step s1).step s2).step s3, e4, fun B4 μ4 H4 w4 s4 r4 d4 => ?_⟩
            exact ⟨B4, μ4, _, y, z, _, r4, Den.mono s4.grow s4.p _ _ (Den.mono s3.grow s3.p _ _ d2), d4, e5, fun B5 H5 z5 s5 r5 d5 => q _ _ _ _ ((((s1.trans s2).trans s3).trans s4).trans s5) r5 d5⟩
          · cases ee
        · cases ee
      · rename_i e3
        cases ee
        refine ⟨B2, μ2, _, x, y, _, r2, Den.mono s2.grow s2.p _ _ d1, d2, e3, fun B' H' z s3 r3 d3 => ⟨false, den_bl d3, ?_⟩⟩
        refine iteF ?_
        exact q _ _ _ _ ((s1.trans s2).trans s3) r3 (.bl false)
      · cases ee
    · cases ee
  · cases ee

theorem marks2 {op op' : CmpOp} {a b : Expr} (h : notSet b = true) : lastMarks [op, op'] [a, b] = false := nomark_of h
theorem snd_chain {op op' : CmpOp} {p p' : P2} {a b d : Expr} {ia ib id : IE} {pos : Pos} (ho : ∀ X, CxOk c W T mnm k X → OpR X (compareOp op) (r2 W p)) (ho' : ∀ X, CxOk c W T mnm k X → OpR X (compareOp op') (r2 W p')) (hn : notSet d = true)
    (ha : SndE c W T mnm k a ia) (hb : SndE c W T mnm k b ib) (hd : SndE c W T mnm k d id) : SndE c W T mnm k (.Compare a [op, op'] [b, d] pos) (.chain p p' ia ib id) := fun X ok =>
  ⟨PE.imp (pe_chain (ho X ok) (ho' X ok) (ha X ok).1 (hb X ok).1 (hd X ok).1 (marks2 hn)) fun σ H Q h => run_chain h,
   PT.imp (pt_chain (ho X ok) (ho' X ok) (ha X ok).1 (hb X ok).1 (hd X ok).1 (marks2 hn)) fun σ H Q h => run_chain (tT_bl h)⟩

/-! ### and, or, not, if -/
theorem run_and {a b : IE} {σ : L2.St} {H : Hp} {Q : VK} (h : tE W (evE T (.and a b)) σ H Q) : tAndV (tE W (evE T a)) (tE W (evE T b)) σ H Q := by
  obtain ⟨env, S, B, μ, d, S', r, eo, ee, q⟩ := h
  simp only [evE] at ee
  split at ee
  · rename_i S1 e1
    refine ⟨env, S, B, μ, _, _, r, eo, e1, fun B1 μ1 H1 v s1 r1 d1 => ⟨true, den_bl d1, ?_⟩⟩
    refine iteT ?_
    split at ee
    · rename_i kk S2 e2
      cases ee
      exact ⟨env, _, B1, μ1, _, _, r1, eo.step s1, e2, fun B2 μ2 H2 w s2 r2 d2 => q _ _ _ _ (s1.trans s2) r2 d2⟩
    · cases ee
  · rename_i S1 e1
    cases ee
    refine ⟨env, S, B, μ, _, _, r, eo, e1, fun B1 μ1 H1 v s1 r1 d1 => ⟨false, den_bl d1, ?_⟩⟩
    refine iteF ?_
    exact q _ _ _ _ s1 r1 (.bl false)
  · cases ee
theorem run_or {a b : IE} {σ : L2.St} {H : Hp} {Q : VK} (h : tE W (evE T (.or a b)) σ H Q) : tOrV (tE W (evE T a)) (tE W (evE T b)) σ H Q := by
  obtain ⟨env, S, B, μ, d, S', r, eo, ee, q⟩ := h
  simp only [evE] at ee
  split at ee
  · rename_i S1 e1
    cases ee
    refine ⟨env, S, B, μ, _, _, r, eo, e1, fun B1 μ1 H1 v s1 r1 d1 => ⟨true, den_bl d1, ?_⟩⟩
    refine iteT ?_
    exact q _ _ _ _ s1 r1 (.bl true)
  · rename_i S1 e1
    refine ⟨env, S, B, μ, _, _, r, eo, e1, fun B1 μ1 H1 v s1 r1 d1 => ⟨false, den_bl d1, ?_⟩⟩
    refine iteF ?_
    split at ee
    · rename_i kk S2 e2
      cases ee
      exact ⟨env, _, B1, μ1, _, _, r1, eo.step s1, e2, fun B2 μ2 H2 w s2 r2 d2 => q _ _ _ _ (s1.trans s2) r2 d2⟩
    · cases ee
  · cases ee
theorem runT_and {a b : IE} {σ : L2.St} {H : Hp} {Q : Bool → Hp → Prop} (h : tT W (evE T (.and a b)) σ H Q) : tAnd (tT W (evE T a)) (tT W (evE T b)) σ H Q := by
  obtain ⟨env, S, B, μ, d, S', r, eo, ee, q⟩ := h
  simp only [evE] at ee
  split at ee
  · rename_i S1 e1
    refine ⟨env, S, B, μ, _, _, r, eo, e1, fun B1 μ1 H1 s1 r1 => ?_⟩
    refine iteT ?_
    split at ee
    · rename_i kk S2 e2
      cases ee
      exact ⟨env, _, B1, μ1, _, _, r1, eo.step s1, e2, fun B2 μ2 H2 s2 r2 => q _ _ _ (s1.trans s2) r2⟩
    · cases ee
  · rename_i S1 e1
    cases ee
    refine ⟨env, S, B, μ, _, _, r, eo, e1, fun B1 μ1 H1 s1 r1 => ?_⟩
    refine iteF ?_
    exact q _ _ _ s1 r1
  · cases ee
theorem runT_or {a b : IE} {σ : L2.St} {H : Hp} {Q : Bool → Hp → Prop} (h : tT W (evE T (.or a b)) σ H Q) : tOr (tT W (evE T a)) (tT W (evE T b)) σ H Q := by
  obtain ⟨env, S, B, μ, d, S', r, eo, ee, q⟩ := h
  simp only [evE] at ee
  split at ee
  · rename_i S1 e1
    cases ee
    refine ⟨env, S, B, μ, _, _, r, eo, e1, fun B1 μ1 H1 s1 r1 => ?_⟩
    refine iteT ?_
    exact q _ _ _ s1 r1
  · rename_i S1 e1
    refine ⟨env, S, B, μ, _, _, r, eo, e1, fun B1 μ1 H1 s1 r1 => ?_⟩
    refine iteF ?_
    split at ee
    · rename_i kk S2 e2
      cases ee
      exact ⟨env, _, B1, μ1, _, _, r1, eo.step s1, e2, fun B2 μ2 H2 s2 r2 => q _ _ _ (s1.trans s2) r2⟩
    · cases ee
  · cases ee
/-- a chain of and, of or: as values and as tests -/
def SndB (c : Cn) (W : WP) (T : Tab) (mnm : Nat → Str) (k : Nat) (op : BoolOp) (es : List Expr) (ie : IE) : Prop := ∀ X, CxOk c W T mnm k X → ∀ pos, PE X (.BoolOp op es pos) (tE W (evE T ie)) ∧ PW X (.BoolOp op es pos) (tT W (evE T ie))
theorem PW.imp {X : Cx} {e : Expr} {t t' : TT} (h : PW X e t) (kk : ∀ σ H Q, t' σ H Q → t σ H Q) : PW X e t' := ⟨fun wh pins s σ H Q I q => h.run wh pins s σ H Q I (kk _ _ _ q)⟩
theorem sndB_and1 {a : Expr} {ia : IE} (ha : SndE c W T mnm k a ia) : SndB c W T mnm k .And [a] ia := fun X ok pos => ⟨pe_one (ha X ok).1, pw_and1 (ha X ok).2⟩
theorem sndB_or1 {a : Expr} {ia : IE} (ha : SndE c W T mnm k a ia) : SndB c W T mnm k .Or [a] ia := fun X ok pos => ⟨pe_one (ha X ok).1, pw_or1 (ha X ok).2⟩
theorem sndB_and {a b : Expr} {r : List Expr} {ia ib : IE} (ha : SndE c W T mnm k a ia) (hb : SndB c W T mnm k .And (b :: r) ib) : SndB c W T mnm k .And (a :: b :: r) (.and ia ib) := fun X ok pos =>
  ⟨PE.imp (pe_and (ha X ok).1 (hb X ok pos).1) fun σ H Q h => run_and h, PW.imp (pw_and (ha X ok).2 (hb X ok pos).2) fun σ H Q h => runT_and h⟩
theorem sndB_or {a b : Expr} {r : List Expr} {ia ib : IE} (ha : SndE c W T mnm k a ia) (hb : SndB c W T mnm k .Or (b :: r) ib) : SndB c W T mnm k .Or (a :: b :: r) (.or ia ib) := fun X ok pos =>
  ⟨PE.imp (pe_or (ha X ok).1 (hb X ok pos).1) fun σ H Q h => run_or h, PW.imp (pw_or (ha X ok).2 (hb X ok pos).2) fun σ H Q h => runT_or h⟩
theorem snd_bool {op : BoolOp} {es : List Expr} {ie : IE} {pos : Pos} (h : SndB c W T mnm k op es ie) : SndE c W T mnm k (.BoolOp op es pos) ie := fun X ok => ⟨(h X ok pos).1, (h X ok pos).2.pt⟩
theorem snd_not {a : Expr} {ia : IE} {pos : Pos} (ha : SndE c W T mnm k a ia) : SndE c W T mnm k (.UnaryOp .Not a pos) (.not ia) := fun X ok => by
  refine ⟨PE.imp (pe_not (ha X ok).1) ?_, PT.imp (pt_not (ha X ok).2) ?_⟩
  · rintro σ H Q ⟨env, S, B, μ, d, S', r, eo, ee, q⟩
    simp only [evE] at ee
    split at ee
    · rename_i kk S1 e1
      cases ee
      exact ⟨env, S, B, μ, _, _, r, eo, e1, fun B1 μ1 H1 v s1 r1 d1 => ⟨kk, den_bl d1, q _ _ _ _ s1 r1 (.bl _)⟩⟩
    · cases ee
  · rintro σ H Q ⟨env, S, B, μ, d, S', r, eo, ee, q⟩
    simp only [evE] at ee
    split at ee
    · rename_i kk S1 e1
      cases ee
      exact ⟨env, S, B, μ, _, _, r, eo, e1, fun B1 μ1 H1 s1 r1 => q _ _ _ s1 r1⟩
    · cases ee
theorem run_ite {f a b : IE} {σ : L2.St} {H : Hp} {Q : VK} (h : tE W (evE T (.ite f a b)) σ H Q) : tIf (tT W (evE T f)) (tE W (evE T a)) (tE W (evE T b)) σ H Q := by
  obtain ⟨env, S, B, μ, d, S', r, eo, ee, q⟩ := h
  simp only [evE] at ee
  split at ee
  · rename_i S1 e1
    refine ⟨env, S, B, μ, _, _, r, eo, e1, fun B1 μ1 H1 s1 r1 => ?_⟩
    refine iteT ?_
    exact ⟨env, _, B1, μ1, _, _, r1, eo.step s1, ee, fun B2 μ2 H2 w s2 r2 d2 => q _ _ _ _ (s1.trans s2) r2 d2⟩
  · rename_i S1 e1
    refine ⟨env, S, B, μ, _, _, r, eo, e1, fun B1 μ1 H1 s1 r1 => ?_⟩
    refine iteF ?_
    exact ⟨env, _, B1, μ1, _, _, r1, eo.step s1, ee, fun B2 μ2 H2 w s2 r2 d2 => q _ _ _ _ (s1.trans s2) r2 d2⟩
  · cases ee
/-- a conditional expression as a test: isTrue goes into its branches -/
theorem pt_ifExp {X : Cx} {f a b : Expr} {pos : Pos} {tf ta tb : TT} (hf : PT X f tf) (ha : PT X a ta) (hb : PT X b tb) : PT X (.IfExp f a b pos) (fun σ H Q => tf σ H fun d H1 => if d = true then ta σ H1 Q else tb σ H1 Q) := by
  refine ⟨fun pins s σ H Q I h => ?_⟩
  show wpAny _ _ (do if ← isTrue f X.env (eval f X.env) then isTrue a X.env (eval a X.env) else isTrue b X.env (eval b X.env)) _ _ s
  refine wpAny_bind (thn (hf.run pins s σ H _ I h) fun d s1 ⟨H1, I1, q1⟩ => ?_)
  cases d with
  | true => exact ha.run pins s1 σ H1 Q I1 q1
  | false => exact hb.run pins s1 σ H1 Q I1 q1
theorem snd_ite {f a b : Expr} {jf ia ib : IE} {pos : Pos} (hf : SndE c W T mnm k f jf) (ha : SndE c W T mnm k a ia) (hb : SndE c W T mnm k b ib) : SndE c W T mnm k (.IfExp f a b pos) (.ite jf ia ib) := fun X ok => by
  refine ⟨PE.imp (pe_ifExp (hf X ok).2 (ha X ok).1 (hb X ok).1) fun σ H Q h => run_ite h, PT.imp (pt_ifExp (hf X ok).2 (ha X ok).2 (hb X ok).2) ?_⟩
  rintro σ H Q ⟨env, S, B, μ, d, S', r, eo, ee, q⟩
  simp only [evE] at ee
  split at ee
  · rename_i S1 e1
    refine ⟨env, S, B, μ, _, _, r, eo, e1, fun B1 μ1 H1 s1 r1 => ?_⟩
    refine iteT ?_
    exact ⟨env, _, B1, μ1, _, _, r1, eo.step s1, ee, fun B2 μ2 H2 s2 r2 => q _ _ _ (s1.trans s2) r2⟩
  · rename_i S1 e1
    refine ⟨env, S, B, μ, _, _, r, eo, e1, fun B1 μ1 H1 s1 r1 => ?_⟩
    refine iteF ?_
    exact ⟨env, _, B1, μ1, _, _, r1, eo.step s1, ee, fun B2 μ2 H2 s2 r2 => q _ _ _ (s1.trans s2) r2⟩
  · cases ee
end LN

set_option Elab.async false
set_option linter.all false
set_option maxRecDepth 100000
set_option maxHeartbeats 1000000
namespace LN
open PySem L2
variable {W : WP} {B B' : Hp} {μ μ' : List Addr} {S S' : Store} {H H' : Hp} {c : Cn} {T : Tab} {mnm : Nat → Str} {k : Nat} {X : Cx}

/-! ### arguments -/
theorem sndL_nil : SndL c W T mnm k [] [] := ⟨fun X ok => PA.imp pa_nil (by
  rintro σ H Q ⟨env, S, B, μ, ds, S', r, eo, ee, q⟩
  simp only [evL] at ee
  cases ee
  exact q _ _ _ _ (Step.refl ..) r .nil), rfl⟩
theorem sndL_cons {e : Expr} {es : List Expr} {ie : IE} {ies : List IE} (hn : nstar e = true) (h : SndE c W T mnm k e ie) (hs : SndL c W T mnm k es ies) : SndL c W T mnm k (e :: es) (ie :: ies) := by
  refine ⟨fun X ok => PA.imp (pa_cons (h X ok).1 (hs.1 X ok) (star_cons hn)) ?_, by rw [List.all_cons, hn, hs.2]; rfl⟩
  rintro σ H Q ⟨env, S, B, μ, ds, S', r, eo, ee, q⟩
  simp only [evL] at ee
  split at ee
  · rename_i d S1 e1
    split at ee
    · rename_i ds' S2 e2
      cases ee
      refine ⟨env, S, B, μ, d, S1, r, eo, e1, fun B1 μ1 H1 v s1 r1 d1 => ?_⟩
      exact ⟨env, S1, B1, μ1, _, _, r1, eo.step s1, e2, fun B2 μ2 H2 vs s2 r2 d2 => q _ _ _ _ (s1.trans s2) r2 (.cons (Den.mono s2.grow s2.p _ _ d1) d2)⟩
    · cases ee
  · cases ee
/-- with stars -/
def SndP (c : Cn) (W : WP) (T : Tab) (mnm : Nat → Str) (k : Nat) (es : List Expr) (st : List Bool) (ies : List IE) : Prop := ∀ X, CxOk c W T mnm k X → PA X es (tL W (evP T st ies))
theorem sndP_nil {st : List Bool} : SndP c W T mnm k [] st [] := fun X ok => PA.imp pa_nil (by
  rintro σ H Q ⟨env, S, B, μ, ds, S', r, eo, ee, q⟩
  simp only [evP] at ee
  cases ee
  exact q _ _ _ _ (Step.refl ..) r .nil)
theorem sndP_cons {e : Expr} {es : List Expr} {st : List Bool} {ie : IE} {ies : List IE} (hn : nstar e = true) (h : SndE c W T mnm k e ie) (hs : SndP c W T mnm k es st ies) : SndP c W T mnm k (e :: es) (false :: st) (ie :: ies) := by
  refine fun X ok => PA.imp (pa_cons (h X ok).1 (hs X ok) (star_cons hn)) ?_
  rintro σ H Q ⟨env, S, B, μ, ds, S', r, eo, ee, q⟩
  simp only [evP, List.headD_cons, List.tail_cons, Bool.false_eq_true, if_false] at ee
  split at ee
  · rename_i d S1 e1
    split at ee
    · rename_i ds' S2 e2
      cases ee
      refine ⟨env, S, B, μ, d, S1, r, eo, e1, fun B1 μ1 H1 v s1 r1 d1 => ?_⟩
      exact ⟨env, S1, B1, μ1, _, _, r1, eo.step s1, e2, fun B2 μ2 H2 vs s2 r2 d2 => q _ _ _ _ (s1.trans s2) r2 (.cons (Den.mono s2.grow s2.p _ _ d1) d2)⟩
    · cases ee
  · cases ee
theorem sndP_star {e : Expr} {p : Pos} {es : List Expr} {st : List Bool} {ie : IE} {ies : List IE} (h : SndE c W T mnm k e ie) (hs : SndP c W T mnm k es st ies) : SndP c W T mnm k (.Starred e p :: es) (true :: st) (ie :: ies) := by
  refine fun X ok => PA.imp (StX.pa_star (h X ok).1 (hs X ok)) ?_
  rintro σ H Q ⟨env, S, B, μ, ds, S', r, eo, ee, q⟩
  simp only [evP, List.headD_cons, List.tail_cons, if_true] at ee
  split at ee
  · rename_i d S1 e1
    split at ee
    · rename_i xs e0
      split at ee
      · rename_i ds' S2 e2
        cases ee
        refine ⟨env, S, B, μ, d, S1, r, eo, e1, fun B1 μ1 H1 v s1 r1 d1 => ?_⟩
        obtain ⟨a, vs, rfl, h1, h2⟩ := seq_ok r1 d1 e0
        refine ⟨a, vs, rfl, ?_, ?_⟩
        · rw [ok.hK]; exact h1.symm
        · exact ⟨env, S1, B1, μ1, _, _, r1, eo.step s1, e2, fun B2 μ2 H2 ws s2 r2 d2 => q _ _ _ _ (s1.trans s2) r2 ((DenL.mono s2.grow s2.p _ _ h2).append d2)⟩
      · cases ee
    · cases ee
  · cases ee

/-! ### displays -/
theorem run_disp {kd : DK2} {st : List Bool} {ies : List IE} {σ : L2.St} {H : Hp} {Q : VK} (h : tE W (evE T (.disp kd st ies)) σ H Q) :
    tL W (evP T st ies) σ H fun vs H1 => vs.length ≤ sizeLine ∧ ∀ p, H1 p = none → match kd with
      | .tup => Q (.ref p) (upd H1 p (.tup vs))
      | _ => Q (.ref p) (upd H1 p (.lst vs)) := by
  obtain ⟨env, S, B, μ, d, S', r, eo, ee, q⟩ := h
  simp only [evE] at ee
  split at ee
  · rename_i xs S1 e1
    split at ee
    · rename_i hz
      refine ⟨env, S, B, μ, xs, S1, r, eo, e1, fun B1 μ1 H1 vs s1 r1 d1 => ⟨by rw [← d1.length]; exact sz hz, fun p hp => ?_⟩⟩
      cases kd with
      | tup =>
        cases ee
        obtain ⟨B2, s2, r2, d2⟩ := newT_ok r1 hp d1
        exact q _ _ _ _ (s1.trans s2) r2 d2
      | lst =>
        cases ee
        obtain ⟨B2, μ2, s2, r2, d2⟩ := newL_ok r1 false hp d1
        exact q _ _ _ _ (s1.trans s2) r2 d2
      | cell =>
        cases ee
        obtain ⟨B2, μ2, s2, r2, d2⟩ := newL_ok r1 true hp d1
        exact q _ _ _ _ (s1.trans s2) r2 d2
    · cases ee
  · cases ee
theorem snd_tup {es : List Expr} {st : List Bool} {ies : List IE} {x1 : Nat} {pos : Pos} (h : SndP c W T mnm k es st ies) : SndE c W T mnm k (.Tuple es x1 pos) (.disp .tup st ies) :=
  snd_of (fun X ok => PE.imp (pe_tup (h X ok)) fun σ H Q q => run_disp q) fun _ _ => rfl
theorem snd_lst {es : List Expr} {st : List Bool} {ies : List IE} {pos : Pos} (cell : Bool) (h : SndP c W T mnm k es st ies) : SndE c W T mnm k (.List es pos) (.disp (if cell then .cell else .lst) st ies) := by
  refine snd_of (fun X ok => PE.imp (pe_lst (h X ok)) fun σ H Q q => ?_) fun _ _ => rfl
  have := run_disp q
  cases cell <;> exact this
theorem snd_dict {pos : Pos} : SndE c W T mnm k (.Dict [] [] pos) (.dict []) := by
  refine snd_of (fun X ok => PE.imp pe_dnewK ?_) fun _ _ => rfl
  rintro σ H Q ⟨env, S, B, μ, d, S', r, eo, ee, q⟩ p hp
  simp only [evE] at ee
  cases ee
  obtain ⟨s1, r1⟩ := r.newc (o := .dK []) (c := .dct [] []) hp ⟨[], by rw [upd_same]; rfl, rfl, .nil⟩
  refine q _ _ _ _ s1 r1 (.obj ?_)
  rw [← r.len]; simp

/-! ### built-ins by name -/
theorem run_pb {p : PB} {cell : Bool} {ies : List IE} {σ : L2.St} {H : Hp} {Q : VK} (h : tE W (evE T (.pb p cell ies)) σ H Q) : tCB (rB W p cell) (tL W (evL T ies)) σ H Q := by
  obtain ⟨env, S, B, μ, d, S', r, eo, ee, q⟩ := h
  simp only [evE] at ee
  split at ee
  · rename_i ds S1 e1
    refine ⟨env, S, B, μ, ds, S1, r, eo, e1, fun B1 μ1 H1 vs s1 r1 d1 => ?_⟩
    have key : ∃ nv, pb p ds S1 = some nv ∧ outB cell nv S1 = (d, S') := by
      split at ee
      · rename_i e2; exact ⟨_, e2, Option.some.inj ee⟩
      · rename_i e2; exact ⟨_, e2, Option.some.inj ee⟩
      · rename_i e2; exact ⟨_, e2, Option.some.inj ee⟩
      · cases ee
    obtain ⟨nv, e2, e3⟩ := key
    refine ⟨B1, μ1, S1, ds, nv, r1, d1, e2, fun B2 μ2 H2 v s2 r2 d2 => ?_⟩
    rw [e3] at r2 d2
    exact q _ _ _ _ (s1.trans s2) r2 d2
  · cases ee
theorem snd_pbB {x : Str} {p : PB} {cell : Bool} {id : String} {e : Expr} {es : List Expr} {ies : List IE} {p1 pos : Pos} (hf : p.fv = .builtin id) (hg : glB c.sc x = true) (hl : c.G.lookup x = some .bn) (hp : plainN x = true) (hv : bootBuiltins x = some (.builtin id))
    (ha : SndL c W T mnm k (e :: es) ies) : SndE c W T mnm k (.Call (.Name x p1) (e :: es) [] pos) (.pb p cell ies) := by
  refine snd_of (fun X ok => ?_) fun _ _ => rfl
  have hs := ha.2
  rw [List.all_cons, Bool.and_eq_true] at hs
  have hc := cr_pb ok p cell (by rw [hf]; intro z; cases z)
  rw [hf] at hc
  exact PE.imp (pe_callB hc (gl_of ok hg) (ok.gl x _ hl) hv (ha.1 X ok) (plainN_of hp).2.2 (plainN_of hp).1 (star_cons hs.1) (star_any hs.2)) fun σ H Q q => run_pb q
theorem snd_pbT {x : Str} {p : PB} {cell : Bool} {id : String} {e : Expr} {es : List Expr} {ies : List IE} {p1 pos : Pos} (hf : p.fv = .type id) (hg : glB c.sc x = true) (hl : c.G.lookup x = some .bn) (hp : plainN x = true) (hv : bootBuiltins x = some (.type id))
    (ha : SndL c W T mnm k (e :: es) ies) : SndE c W T mnm k (.Call (.Name x p1) (e :: es) [] pos) (.pb p cell ies) := by
  refine snd_of (fun X ok => ?_) fun _ _ => rfl
  have hs := ha.2
  rw [List.all_cons, Bool.and_eq_true] at hs
  have hc := cr_pb ok p cell (by rw [hf]; intro z; cases z)
  rw [hf] at hc
  exact PE.imp (pe_callTy hc (gl_of ok hg) (ok.gl x _ hl) hv (ha.1 X ok) (plainN_of hp).2.2 (plainN_of hp).1 (star_cons hs.1) (star_any hs.2)) fun σ H Q q => run_pb q

/-! ### defs of the text -/
theorem run_call {f : Nat} {ies : List IE} {σ : L2.St} {H : Hp} {Q : VK} {E : XK} (h : tE W (evE T (.call f ies)) σ H Q) : tCall (spS W (T.fn f)) [] E (tL W (evL T ies)) σ H Q := by
  obtain ⟨env, S, B, μ, d, S', r, eo, ee, q⟩ := h
  simp only [evE] at ee
  split at ee
  · rename_i ds S1 e1
    refine ⟨env, S, B, μ, ds, S1, r, eo, e1, fun B1 μ1 H1 vs s1 r1 d1 => ?_⟩
    show spS W (T.fn f) (vs ++ []) H1 Q E
    rw [List.append_nil]
    exact ⟨B1, μ1, S1, ds, d, S', r1, d1, ee, fun B2 μ2 H2 v s2 r2 d2 => q _ _ _ _ (s1.trans s2) r2 d2⟩
  · cases ee
theorem snd_call {x : Str} {f np : Nat} {e : Expr} {es : List Expr} {ies : List IE} {p1 pos : Pos} (hg : glB c.sc x = true) (hl : c.G.lookup x = some (.fn f np)) (hp : plainN x = true)
    (ha : SndL c W T mnm k (e :: es) ies) : SndE c W T mnm k (.Call (.Name x p1) (e :: es) [] pos) (.call f ies) := by
  refine snd_of (fun X ok => ?_) fun _ _ => rfl
  obtain ⟨a, hm, hk, fd, ps, hps, hb, F⟩ := ok.gl x _ hl
  have hs := ha.2
  rw [List.all_cons, Bool.and_eq_true] at hs
  exact PE.imp (pe_call F ok.r0 (gl_of ok hg) hm hk hb .nil pass0 (ha.1 X ok) (plainN_of hp).1 (star_cons hs.1) (star_any hs.2)) fun σ H Q q => run_call q
theorem snd_call0 {x : Str} {f np : Nat} {p1 pos : Pos} (hg : glB c.sc x = true) (hl : c.G.lookup x = some (.fn f np)) (hp : plainN x = true) : SndE c W T mnm k (.Call (.Name x p1) [] [] pos) (.call f []) := by
  refine snd_of (fun X ok => ?_) fun _ _ => rfl
  obtain ⟨a, hm, hk, fd, ps, hps, hb, F⟩ := ok.gl x _ hl
  refine PE.imp (pe_call0 F ok.r0 (gl_of ok hg) hm hk hb .nil pass0 (plainN_of hp).1) fun σ H Q q => ?_
  obtain ⟨env, S, B, μ, d, S', r, eo, ee, q⟩ := q
  simp only [evE, evL] at ee
  exact ⟨B, μ, S, [], d, S', r, .nil, ee, q⟩

/-! ### instances -/
theorem run_make {cc f : Nat} {fr : Bool} {ies : List IE} {σ : L2.St} {H : Hp} {Q : VK} {E : XK} (h : tE W (evE T (.make cc f fr ies)) σ H Q) : tMake (W.cls cc) (spS W (T.fn f)) [] E (tL W (evL T ies)) σ H Q := by
  obtain ⟨env, S, B, μ, d, S', r, eo, ee, q⟩ := h
  simp only [evE] at ee
  split at ee
  · rename_i ds S1 e1
    refine ⟨env, S, B, μ, ds, S1, r, eo, e1, fun B1 μ1 H1 vs s1 r1 d1 x dx hx hdx hne => ?_⟩
    show spS W (T.fn f) (.ref x :: (vs ++ [])) _ _ E
    rw [List.append_nil]
    have hx2 : (upd H1 dx (.own x)) x = none := by rw [upd_ne (Ne.symm hne)]; exact hx
    have hcell : ∀ (μ0 : List Addr), COk W B1 μ0 (upd (upd H1 dx (.own x)) x (.ins (W.cls cc) dx [])) x (.ins cc [] []) := fun μ0 => ⟨dx, [], by rw [upd_same]; rfl, rfl, .nil⟩
    split at ee
    · split at ee
      · rename_i hpl
        split at ee
        · rename_i S2 e2
          split at ee
          · rename_i dd e3
            cases ee
            obtain ⟨t1, q1⟩ := r1.empty.loose (o := .own x) hdx
            obtain ⟨t2, q2⟩ := q1.newc (o := .ins (W.cls cc) dx []) (c := .ins cc [] []) hx2 (hcell _)
            refine ⟨B1, [x], [.ins cc [] []], .obj 0 :: ds, .non, S2, q2, .cons (.obj rfl) (denL_pure _ _ hpl d1), e2, fun B3 μ3 H3 v s3 r3 d3 => ⟨den_non d3, ?_⟩⟩
            have hex : Ex H1 (upd (upd H1 dx (.own x)) x (.ins (W.cls cc) dx [])) := (Ex.new hdx).trans (Ex.new hx2)
            obtain ⟨s4, r4⟩ := pure_back r1 hex (fun a ha => by simp at ha; subst ha; exact fresh_of hx) s3 r3
            have d4 : Den W (fz B3 H3 (μ3.drop 0)) [] d (.ref x) := by
              refine frz_ok r3 (m := 0) (.obj ?_) e3
              exact Pre.at s3.p rfl
            exact q _ _ _ _ (s1.trans s4) r4 (den_nil d4)
          · cases ee
        · cases ee
      · cases ee
    · split at ee
      · rename_i S2 e2
        cases ee
        obtain ⟨t1, q1⟩ := r1.loose (o := .own x) hdx
        obtain ⟨t2, q2⟩ := q1.newc (o := .ins (W.cls cc) dx []) (c := .ins cc [] []) hx2 (hcell _)
        have hix : (μ1 ++ [x])[S1.length]? = some x := by rw [← r1.len]; simp
        refine ⟨B1, μ1 ++ [x], S1 ++ [.ins cc [] []], .obj S1.length :: ds, .non, _, q2, .cons (.obj hix) (DenL.mono (Ex.refl _) ⟨[x], rfl⟩ _ _ d1), e2, fun B3 μ3 H3 v s3 r3 d3 => ⟨den_non d3, ?_⟩⟩
        exact q _ _ _ _ (((s1.trans t1).trans t2).trans s3) r3 (.obj (Pre.at s3.p hix))
      · cases ee
  · cases ee
theorem snd_make {x : Str} {cc f np : Nat} {fz : Bool} {e : Expr} {es : List Expr} {ies : List IE} {p1 pos : Pos} (hg : glB c.sc x = true) (hl : c.G.lookup x = some (.cls cc f np)) (hp : plainN x = true)
    (ha : SndL c W T mnm k (e :: es) ies) : SndE c W T mnm k (.Call (.Name x p1) (e :: es) [] pos) (.make cc f fz ies) := by
  refine snd_of (fun X ok => ?_) fun _ _ => rfl
  obtain ⟨hm, a, M, fd, ps, hps, hb, F⟩ := ok.gl x _ hl
  have hs := ha.2
  rw [List.all_cons, Bool.and_eq_true] at hs
  exact PE.imp (pe_make M F ok.room (gl_of ok hg) hm hb .nil pass0 (ha.1 X ok) (plainN_of hp).1 (star_cons hs.1) (star_any hs.2)) fun σ H Q q => run_make q
theorem snd_make0 {x : Str} {cc f np : Nat} {fz : Bool} {p1 pos : Pos} (hg : glB c.sc x = true) (hl : c.G.lookup x = some (.cls cc f np)) (hp : plainN x = true) : SndE c W T mnm k (.Call (.Name x p1) [] [] pos) (.make cc f fz []) := by
  refine snd_of (fun X ok => ?_) fun _ _ => rfl
  obtain ⟨hm, a, M, fd, ps, hps, hb, F⟩ := ok.gl x _ hl
  refine PE.imp (pe_make0 M F ok.room (gl_of ok hg) hm hb .nil pass0 (plainN_of hp).1) fun σ H Q q => ?_
  obtain ⟨env, S, B, μ, d, S', r, eo, ee, q1⟩ := run_make (E := E0) q
  simp only [evL] at ee
  cases ee
  exact q1 _ _ _ _ (Step.refl ..) r .nil
/-- an attribute's value -/
theorem fldL_ok (hinj : ∀ f g, W.fnm f = W.fnm g → f = g) : ∀ {ks : List Nat} {xs : List D} {vs : List V} {f : Nat} {d : D}, DenL W B μ xs vs → fldL ks xs f = some d → ∃ v, ((ks.map W.fnm).zip vs).lookup (W.fnm f) = some v ∧ Den W B μ d v
  | [], _, _, _, _, _, e => by simp [fldL] at e
  | _ :: _, [], _, _, _, _, e => by simp [fldL] at e
  | k :: ks, x :: xs, _, f, d, h, e => by
    cases h with | cons h r =>
      simp only [fldL] at e
      split at e
      · rename_i q
        cases e
        subst q
        exact ⟨_, by simp, h⟩
      · rename_i q
        obtain ⟨v, h1, h2⟩ := fldL_ok hinj r e
        refine ⟨v, ?_, h2⟩
        simp only [List.map_cons, List.zip_cons_cons, List.lookup_cons]
        have : (W.fnm f == W.fnm k) = false := by
          rw [beq_eq_false_iff_ne]
          exact fun z => q (hinj _ _ z).symm
        rw [this]
        exact h1
theorem ins_at (r : Rel W B μ S H) {d : D} {v : V} {cc f : Nat} {x : D} (hinj : ∀ f g, W.fnm f = W.fnm g → f = g) (h : Den W B μ d v) (e : clsD S d = some cc) (ef : fldD S f d = some x) :
    ∃ a dx fs w, v = .ref a ∧ H a = some (.ins (W.cls cc) dx fs) ∧ fs.lookup (W.fnm f) = some w ∧ Den W B μ x w := by
  cases d with
  | ins c' ks xs =>
    simp only [clsD] at e
    cases e
    simp only [fldD] at ef
    cases h with | ins h1 hl h2 =>
      obtain ⟨w, g1, g2⟩ := fldL_ok hinj h2 ef
      exact ⟨_, _, _, w, rfl, r.sub _ _ h1, g1, g2⟩
  | obj i =>
    simp only [clsD] at e
    split at e
    · rename_i c' ks xs q
      cases e
      simp only [fldD, q] at ef
      obtain ⟨a, rfl, hm, dx, vs, h1, hl, h2⟩ := r.get h q
      obtain ⟨w, g1, g2⟩ := fldL_ok hinj h2 ef
      exact ⟨_, _, _, w, rfl, h1, g1, g2⟩
    · cases e
  | _ => simp [clsD] at e
/-- what is no call of super -/
def noSuper : Expr → Bool
  | .Call (.Name id _) [] [] _ => id != ("super" : Str)
  | _ => true
theorem base_of {o : Expr} {attr : Str} {env : Env} {whole : Sem Value} (h : noSuper o = true) : attributeBase o attr env whole = whole := by
  unfold attributeBase
  split
  · rename_i id p1 pos
    have h : (id != ("super" : Str)) = true := h
    rw [if_pos (by rw [h]; rfl)]
  · rfl
theorem snd_attr {o : Expr} {io : IE} {f : Nat} {attr : Str} {pos : Pos} (hn : noSuper o = true) (hf : W.fnm f = attr) (ho : SndE c W T mnm k o io) : SndE c W T mnm k (.Attribute o attr pos) (.attr f io) := by
  refine snd_of (fun X ok => PE.imp (pe_fld (f := attr) (ho X ok).1 (base_of hn)) ?_) fun _ _ => rfl
  rintro σ H Q ⟨env, S, B, μ, d, S', r, eo, ee, q⟩
  simp only [evE] at ee
  split at ee
  · rename_i x S1 e1
    split at ee
    · rename_i cc e2
      split at ee
      · rename_i hc
        rw [Bool.and_eq_true] at hc
        split at ee
        · rename_i y e3
          cases ee
          refine ⟨env, S, B, μ, x, _, r, eo, e1, fun B1 μ1 H1 v s1 r1 d1 => ?_⟩
          obtain ⟨a, dx, fs, w, e5, h1, h2, h3⟩ := ins_at r1 ok.kk.inj d1 e2 e3
          subst hf
          exact ⟨a, _, dx, fs, w, e5, h1, ok.hK ▸ ok.kk.cls _ hc.1, ok.hK ▸ ok.kk.fld _ _ hc.2, h2, q _ _ _ _ s1 r1 h3⟩
        · cases ee
      · cases ee
    · cases ee
  · cases ee
end LN

set_option Elab.async false
set_option linter.all false
set_option maxRecDepth 100000
set_option maxHeartbeats 1000000
namespace LN
open PySem L2
variable {W : WP} {B B' : Hp} {μ μ' : List Addr} {S S' : Store} {H H' : Hp} {c : Cn} {T : Tab} {mnm : Nat → Str} {k : Nat} {X : Cx}

/-! ### methods of built-in types -/
def rM (W : WP) (p : PM) : V → List V → Hp → VK → Prop := fun x vs H Q => ∃ B μ S d ds res S', Rel W B μ S H ∧ Den W B μ d x ∧ DenL W B μ ds vs ∧ pm p d ds S = some (res, S') ∧
  ∀ B' H' v, Step B μ H B' μ H' → Rel W B' μ S' H' → Den W B' μ res v → Q v H'
theorem MtR.imp {X : Cx} {id : String} {r r' : V → List V → Hp → VK → Prop} (h : MtR X id r) (kk : ∀ x xs H Q, r' x xs H Q → r x xs H Q) : MtR X id r' := fun pins s σ H x xs v us Q I rx rs q => h pins s σ H x xs v us Q I rx rs (kk _ _ _ _ q)
theorem denL_dropLast {xs : List D} {vs : List V} (h : DenL W B μ xs vs) : DenL W B μ xs.dropLast vs.dropLast := by
  rw [List.dropLast_eq_take, List.dropLast_eq_take, h.length]
  exact h.take _
theorem denL_erase : ∀ {xs : List D} {vs : List V} (i : Nat), DenL W B μ xs vs → DenL W B μ (xs.eraseIdx i) (vs.eraseIdx i)
  | [], _, _, h => by cases h; exact .nil
  | _ :: _, _, 0, h => by cases h with | cons h r => exact r
  | _ :: _, _, i + 1, h => by cases h with | cons h r => exact .cons h (denL_erase i r)
theorem denL_one {y : D} {vs : List V} (h : DenL W B μ [y] vs) : ∃ v, vs = [v] ∧ Den W B μ y v := by
  cases h with | cons h r => cases r with | nil => exact ⟨_, rfl, h⟩
theorem m_append : MtR X "list.append" (rM W .append) := by
  refine MtR.imp mt_append ?_
  rintro x vs H Q ⟨B, μ, S, d, ds, res, S', r, hd, hs, e, q⟩
  cases d with
  | obj i =>
    cases ds with
    | nil => simp [pm] at e
    | cons y ys =>
      cases ys with
      | cons _ _ => simp [pm] at e
      | nil =>
        simp only [pm] at e
        split at e
        · rename_i xs hS
          split at e
          · rename_i hlt
            cases e
            obtain ⟨vy, rfl, hy⟩ := denL_one hs
            obtain ⟨a, rfl, hm, ws, h1, h2⟩ := r.get hd hS
            obtain ⟨s1, r1⟩ := r.write (o := .lst (ws ++ [_])) (c := .lst (xs ++ [y])) hm ⟨_, upd_same, h2.append (.cons hy .nil)⟩
            exact ⟨a, ws, _, rfl, rfl, h1, by rw [← h2.length]; exact Nat.lt_of_lt_of_le hlt (by decide), q _ _ _ s1 r1 .non⟩
          · cases e
        · cases e
  | _ => simp [pm] at e
theorem m_extend : MtR X "list.extend" (rM W .extend) := by
  refine MtR.imp mt_extend ?_
  rintro x vs H Q ⟨B, μ, S, d, ds, res, S', r, hd, hs, e, q⟩
  cases d with
  | obj i =>
    cases ds with
    | nil => simp [pm] at e
    | cons y ys =>
      cases ys with
      | cons _ _ => simp [pm] at e
      | nil =>
        simp only [pm] at e
        split at e
        · rename_i xs zs hS hz
          split at e
          · rename_i hlt
            cases e
            obtain ⟨vy, rfl, hy⟩ := denL_one hs
            obtain ⟨a, rfl, hm, ws, h1, h2⟩ := r.get hd hS
            obtain ⟨b, us, rfl, g1, g2⟩ := lst_ok r hy hz
            obtain ⟨s1, r1⟩ := r.write (o := .lst (ws ++ us)) (c := .lst (xs ++ zs)) hm ⟨_, upd_same, h2.append g2⟩
            exact ⟨a, b, ws, us, rfl, rfl, h1, g1, by rw [← h2.length, ← g2.length]; exact sz hlt, q _ _ _ s1 r1 .non⟩
          · cases e
        · cases e
  | _ => simp [pm] at e
theorem m_pop : MtR X "list.pop" (fun x vs H Q => rM W .pop x vs H Q ∨ rM W .popAt x vs H Q) := by
  refine MtR.imp (MtR.or mt_pop mt_popAt) ?_
  rintro x vs H Q (h | h)
  · obtain ⟨B, μ, S, d, ds, res, S', r, hd, hs, e, q⟩ := h
    cases d with
    | obj i =>
      cases ds with
      | cons _ _ => simp [pm] at e
      | nil =>
        simp only [pm] at e
        split at e
        · rename_i xs hS
          split at e
          · rename_i y hy
            cases e
            cases hs
            obtain ⟨a, rfl, hm, ws, h1, h2⟩ := r.get hd hS
            obtain ⟨v, g1, g2⟩ := h2.at hy
            obtain ⟨s1, r1⟩ := r.write (o := .lst ws.dropLast) (c := .lst xs.dropLast) hm ⟨_, upd_same, denL_dropLast h2⟩
            exact .inl ⟨a, ws, v, rfl, rfl, h1, by rw [← h2.length]; exact g1, q _ _ _ s1 r1 g2⟩
          · cases e
        · cases e
    | _ => simp [pm] at e
  · obtain ⟨B, μ, S, d, ds, res, S', r, hd, hs, e, q⟩ := h
    cases d with
    | obj i =>
      cases ds with
      | nil => simp [pm] at e
      | cons y ys =>
        cases y with
        | int j =>
          cases ys with
          | cons _ _ => simp [pm] at e
          | nil =>
            simp only [pm] at e
            split at e
            · rename_i xs hS
              split at e
              · rename_i hb
                split at e
                · rename_i z hz
                  cases e
                  obtain ⟨vy, rfl, hy⟩ := denL_one hs
                  have ej := den_int hy
                  subst ej
                  obtain ⟨a, rfl, hm, ws, h1, h2⟩ := r.get hd hS
                  obtain ⟨v, g1, g2⟩ := h2.at hz
                  obtain ⟨s1, r1⟩ := r.write (o := .lst (ws.eraseIdx j.toNat)) (c := .lst (xs.eraseIdx j.toNat)) hm ⟨_, upd_same, denL_erase _ h2⟩
                  refine .inr ⟨a, ws, j, j.toNat, v, rfl, rfl, h1, by omega, by omega, ?_, g1, q _ _ _ s1 r1 g2⟩
                  have e1 : atI ws j = some v := by
                    have := atI_nat (j := j.toNat) g1
                    rwa [show ((j.toNat : Nat) : Int) = j by omega] at this
                  obtain ⟨jj, k1, k2, k3, _⟩ := atI_get e1
                  have : ixN ws.length j = some j.toNat := by
                    unfold ixN
                    rw [if_pos (by omega), if_pos (by have := h2.length; omega)]
                  exact (ixN_seq this).1
                · cases e
              · cases e
            · cases e
        | _ => simp [pm] at e
    | _ => simp [pm] at e
theorem dp_ref {x : V} {ps : List PyData} (h : Dp W.K H x (.list ps)) : ∃ a, x = .ref a := by cases h; exact ⟨_, rfl⟩
theorem m_index (ok : CxOk c W T mnm k X) : MtR X "list.index" (rM W .index) := by
  refine MtR.imp (mt_indexD ok.hu65) ?_
  rintro x vs H Q ⟨B, μ, S, d, ds, res, S', r, hd, hs, e, q⟩
  unfold pm at e
  split at e <;> first | contradiction | skip
  rename_i b _
  split at e
  · rename_i ps p h1 h2
    split at e
    · rename_i hz
      split at e
      · rename_i j hj
        cases e
        obtain ⟨vy, rfl, hy⟩ := denL_one hs
        have hz : (SeqAt.shaped (.list ps) && SeqAt.shaped p) = true := hz
        rw [Bool.and_eq_true] at hz
        have k1 := pyS_ok r hd h1
        obtain ⟨a, rfl⟩ := dp_ref k1
        rw [List.findIdx?_eq_some_iff_getElem] at hj
        obtain ⟨hlt, g1, g2⟩ := hj
        refine ⟨a, _, p, ps, j, ps[j], rfl, rfl, ok.hK ▸ k1, ok.hK ▸ pyS_ok r hy h2, hz.1, hz.2, by simp [hlt], g1, fun m z' hm hz' => ?_, q _ _ _ (Step.refl ..) r (.int _)⟩
        have := g2 m hm
        obtain ⟨hl, e1⟩ := List.getElem?_eq_some_iff.mp hz'
        rw [← e1]
        simpa using this
      · cases e
    · cases e
  · cases e
theorem recv_ty (r : Rel W B μ S H) {p : PM} {d : D} {v : V} (h : Den W B μ d v) (e : recvOk p d S = true) : tyV W.K "list" v H := by
  unfold recvOk at e
  split at e
  · rename_i xs hx
    obtain ⟨a, vs, rfl, h1, h2⟩ := lst_ok r h hx
    exact .inl ⟨rfl, vs, SqL.of h1⟩
  · cases e
theorem run_pm {p : PM} {io : IE} {ies : List IE} {σ : L2.St} {H : Hp} {Q : VK} (h : tE W (evE T (.pm p io ies)) σ H Q) : tBM W.K "list" (rM W p) (tE W (evE T io)) (tL W (evL T ies)) σ H Q := by
  obtain ⟨env, S, B, μ, d, S', r, eo, ee, q⟩ := h
  simp only [evE] at ee
  split at ee
  · rename_i x S1 e1
    split at ee
    · rename_i hr
      split at ee
      · rename_i ds S2 e2
        refine ⟨env, S, B, μ, x, S1, r, eo, e1, fun B1 μ1 H1 v s1 r1 d1 => ⟨recv_ty r1 d1 hr, ?_⟩⟩
        refine ⟨env, S1, B1, μ1, ds, S2, r1, eo.step s1, e2, fun B2 μ2 H2 vs s2 r2 d2 => ?_⟩
        exact ⟨B2, μ2, S2, x, ds, d, S', r2, Den.mono s2.grow s2.p _ _ d1, d2, ee, fun B3 H3 w s3 r3 d3 => q _ _ _ _ ((s1.trans s2).trans s3) r3 d3⟩
      · cases ee
    · cases ee
  · cases ee
theorem few_of {es : List Expr} {env : Env} {pos : Pos} (h : es.all nstar = true) (hl : es.length < 20) : ((backTo pos (starEach es env)).all (fun x => !x.1) && (backToKw pos (keywordEach [] env)).all (fun x => x.1.isSome)
      && decide (es.length + ([] : List Keyword).length + (if ([] : List Keyword).isEmpty then 0 else 1) < 30)) = true := by
  have h1 : (backTo pos (starEach es env)).all (fun x => !x.1) = true := by
    have := star_any (env := env) (pos := pos) h
    rw [List.all_eq_true]
    intro x hx
    rw [List.any_eq_false] at this
    have := this x hx
    simpa using this
  rw [h1]
  simp [keywordEach, backToKw]
  omega
theorem snd_pm {o e : Expr} {es : List Expr} {io : IE} {ies : List IE} {p : PM} {name : Str} {id : String} {apos pos : Pos} (slot : Slot "list" name id) (hty : typeOf (.builtin id) = pure (.type "method_descriptor")) (hm : ∀ X, CxOk c W T mnm k X → MtR X id (rM W p))
    (hn : noSuper o = true) (hl : (apos.endLine == pos.line) = true) (hlen : (e :: es).length < 20) (ho : SndE c W T mnm k o io) (ha : SndL c W T mnm k (e :: es) ies) : SndE c W T mnm k (.Call (.Attribute o name apos) (e :: es) [] pos) (.pm p io ies) := by
  refine snd_of (fun X ok => ?_) fun _ _ => rfl
  have hs := ha.2
  have hs2 := ha.2
  rw [List.all_cons, Bool.and_eq_true] at hs
  have := pe_bm (X := X) (r := rM W p) PySem.F.plainAttrs_list slot hty (hm X ok) (ho X ok).1 (ha.1 X ok) (base_of hn) (few_of hs2 hlen) hl (star_cons hs.1) (star_any hs.2)
  rw [ok.hK] at this
  exact PE.imp this fun σ H Q q => run_pm q
theorem snd_pm0 {o : Expr} {io : IE} {p : PM} {name : Str} {id : String} {apos pos : Pos} (slot : Slot "list" name id) (hty : typeOf (.builtin id) = pure (.type "method_descriptor")) (hm : ∀ X, CxOk c W T mnm k X → MtR X id (rM W p))
    (hn : noSuper o = true) (hl : (apos.endLine == pos.line) = true) (ho : SndE c W T mnm k o io) : SndE c W T mnm k (.Call (.Attribute o name apos) [] [] pos) (.pm p io []) := by
  refine snd_of (fun X ok => ?_) fun _ _ => rfl
  have := pe_bm0 (X := X) (r := rM W p) PySem.F.plainAttrs_list slot hty (hm X ok) (ho X ok).1 (base_of hn) hl
  rw [ok.hK] at this
  refine PE.imp this fun σ H Q q => ?_
  obtain ⟨env, S, B, μ, d, S', r, eo, ee, q1⟩ := run_pm q
  refine ⟨env, S, B, μ, d, S', r, eo, ee, fun B1 μ1 H1 v s1 r1 d1 => ?_⟩
  obtain ⟨t1, q2⟩ := q1 B1 μ1 H1 v s1 r1 d1
  obtain ⟨env2, S2, B2, μ2, ds2, S3, r2, eo2, ee2, q3⟩ := q2
  simp only [evL] at ee2
  cases ee2
  exact ⟨t1, q3 _ _ _ _ (Step.refl ..) r2 .nil⟩

/-! ### own methods -/
theorem few2 {es : List Expr} {env : Env} {pos : Pos} {n : Nat} (h : es.all nstar = true) (hl : n < 20) : methodCallForm n (backTo pos (starEach es env)) (backToKw pos (keywordEach [] env)) = true := by
  have h1 : (backTo pos (starEach es env)).all (fun x => !x.1) = true := by
    have := star_any (env := env) (pos := pos) h
    rw [List.all_eq_true]
    intro x hx
    rw [List.any_eq_false] at this
    have := this x hx
    simpa using this
  unfold methodCallForm
  rw [h1]
  simp [keywordEach, backToKw]
  omega
theorem ht_of {o : Expr} {m : Str} {apos pos : Pos} {es : List Expr} {env : Env} (hn : noSuper o = true) (hl : (apos.endLine == pos.line) = true) (hs : es.all nstar = true) (hlen : es.length < 20) :
    eval (.Call (.Attribute o m apos) es [] pos) env = (do
      let ov ← eval o env
      standAt apos.atName
      let (f, first) ← holding [ov] (getMethod ov m (do return (← importBound o env).getD true))
      callWith pos f first (backTo pos (starEach es env)) (backToKw pos (keywordEach [] env))) := by
  have e1 : eval (.Call (.Attribute o m apos) es [] pos) env = (do
      let ov ← attributeBase o m env (eval o env)
      standAt apos.atName
      methodCall o m apos pos env ov (es.length + ([] : List Keyword).length) (backTo pos (starEach es env)) (backToKw pos (keywordEach [] env))) := rfl
  rw [e1, base_of hn]
  have e2 := few2 (es := es) (env := env) (pos := pos) (n := es.length + ([] : List Keyword).length) hs (by simpa using hlen)
  unfold methodCall calleeOf methodCallPos
  simp only [e2, hl, if_true, Bool.not_true, Bool.false_or, pure_bind]
theorem no_field (hk : KOk W T mnm k X) {m : Nat} : ∀ (ks : List Nat) (vs : List V), ((ks.map W.fnm).zip vs).lookup (mnm m) = none
  | [], _ => rfl
  | _ :: _, [] => rfl
  | f :: ks, v :: vs => by
    simp only [List.map_cons, List.zip_cons_cons, List.lookup_cons]
    have : (mnm m == W.fnm f) = false := by
      rw [beq_eq_false_iff_ne]
      exact fun z => hk.nmf m f z.symm
    rw [this]
    exact no_field hk ks vs
theorem cls_at (r : Rel W B μ S H) (hk : KOk W T mnm k X) {m : Nat} {d : D} {v : V} {cc : Nat} (h : Den W B μ d v) (e : clsD S d = some cc) : ∃ a dx fs, v = .ref a ∧ H a = some (.ins (W.cls cc) dx fs) ∧ fs.lookup (mnm m) = none := by
  cases d with
  | ins c' ks xs =>
    simp only [clsD] at e
    cases e
    cases h with | ins h1 hl h2 => exact ⟨_, _, _, rfl, r.sub _ _ h1, no_field hk _ _⟩
  | obj i =>
    simp only [clsD] at e
    split at e
    · rename_i c' ks xs q
      cases e
      obtain ⟨a, rfl, hm, dx, vs, h1, hl, h2⟩ := r.get h q
      exact ⟨_, _, _, rfl, h1, no_field hk _ _⟩
    · cases e
  | _ => simp [clsD] at e
/-- a method's call, whatever the class is -/
def tMA (k : Nat) (X : Cx) (m : Str) (to : TE) (t : TA) : TE := fun σ H Q => to σ H fun x H1 => ∃ a C dx fs f fd ps sp, x = .ref a ∧ H1 a = some (.ins C dx fs) ∧ fs.lookup m = none ∧ Cls X.K C ∧ Meth X.K C m f ∧ Binds X.K fd ps [] ∧ FnOk X.prog X.w X.K X.mg X.base CX0 k f fd ps sp ∧
      t σ H1 fun vs H2 => sp (x :: vs) H2 Q E0
theorem pe_methAny {o e : Expr} {to : TE} {m : Str} {es : List Expr} {t : TA} {apos pos : Pos} (hr : Room k X.A) (he : PE X o to) (ha : PA X (e :: es) t) (hn : noSuper o = true) (hl : (apos.endLine == pos.line) = true) (hs : (e :: es).all nstar = true) (hlen : (e :: es).length < 20) :
    PE X (.Call (.Attribute o m apos) (e :: es) [] pos) (tMA k X m to t) := by
  refine ⟨fun pins s σ H Q I h => ?_⟩
  refine PySem.W.methodCall_KW (thn (he.run pins s σ H _ I h) fun u s1 ⟨x, H1, I1, rx, a, C, dx, fs, f, fd, ps, sp, ex, ea, l, hc, hm, hb, F, q⟩ => ?_) (ht_of hn hl hs hlen)
  subst ex
  obtain rfl : u = Value.ref a := rx
  refine getmeth_ok I1 ea hc hm l ?_
  rw [List.all_cons, Bool.and_eq_true] at hs
  refine PySem.W.callWith_K (first := [.ref a]) (h₀ := X.base) I.ok.mod.kin hm.kp (thn (ha.run pos pins s1 σ H1 _ I1 q) fun us s2 ⟨vs, H2, I2, r, q2⟩ => ⟨I2.kIn, ?_⟩) (star_cons hs.1) (star_any hs.2)
  exact run_fn (us := .ref a :: us) (vs := .ref a :: vs) F hr hb .nil pass0 I2 (.cons rfl r) (by rw [List.append_nil]; exact q2)
theorem pe_methAny0 {o : Expr} {to : TE} {m : Str} {apos pos : Pos} (hr : Room k X.A) (he : PE X o to) (hn : noSuper o = true) (hl : (apos.endLine == pos.line) = true) :
    PE X (.Call (.Attribute o m apos) [] [] pos) (tMA k X m to tNil) := by
  refine ⟨fun pins s σ H Q I h => ?_⟩
  refine PySem.W.methodCall_KW (thn (he.run pins s σ H _ I h) fun u s1 ⟨x, H1, I1, rx, a, C, dx, fs, f, fd, ps, sp, ex, ea, l, hc, hm, hb, F, q⟩ => ?_) (ht_of hn hl rfl (by simp))
  subst ex
  obtain rfl : u = Value.ref a := rx
  refine getmeth_ok I1 ea hc hm l ?_
  exact PySem.W.callWith_K0 (first := [.ref a]) I1.kIn hm.kp (run_fn (us := [.ref a]) (vs := [.ref a]) F hr hb .nil pass0 I1 (.cons rfl .nil) (by rw [List.append_nil]; exact q))
theorem run_meth (ok : CxOk c W T mnm k X) {m : Nat} {io : IE} {ies : List IE} {σ : L2.St} {H : Hp} {Q : VK} (h : tE W (evE T (.meth m io ies)) σ H Q) : tMA k X (mnm m) (tE W (evE T io)) (tL W (evL T ies)) σ H Q := by
  obtain ⟨env, S, B, μ, d, S', r, eo, ee, q⟩ := h
  simp only [evE] at ee
  split at ee
  · rename_i x S1 e1
    split at ee
    · rename_i cc e2
      split at ee
      · rename_i hc
        split at ee
        · rename_i f e3
          split at ee
          · rename_i ds S2 e4
            refine ⟨env, S, B, μ, x, S1, r, eo, e1, fun B1 μ1 H1 v s1 r1 d1 => ?_⟩
            obtain ⟨a, dx, fs, rfl, h1, h2⟩ := cls_at (m := m) r1 ok.kk d1 e2
            obtain ⟨fa, np, hm, fd, ps, hps, hb, F⟩ := ok.kk.mth _ _ _ e3
            refine ⟨a, _, dx, fs, fa, fd, ps, _, rfl, h1, h2, ok.kk.cls _ hc, hm, hb, F, ?_⟩
            refine ⟨env, S1, B1, μ1, ds, S2, r1, eo.step s1, e4, fun B2 μ2 H2 vs s2 r2 d2 => ?_⟩
            exact ⟨B2, μ2, S2, x :: ds, d, S', r2, .cons (Den.mono s2.grow s2.p _ _ d1) d2, ee, fun B3 μ3 H3 w s3 r3 d3 => q _ _ _ _ ((s1.trans s2).trans s3) r3 d3⟩
          · cases ee
        · cases ee
      · cases ee
    · cases ee
  · cases ee
theorem snd_meth {o e : Expr} {es : List Expr} {io : IE} {ies : List IE} {m : Nat} {name : Str} {apos pos : Pos} (hm : mnm m = name) (hn : noSuper o = true) (hl : (apos.endLine == pos.line) = true) (hlen : (e :: es).length < 20) (ho : SndE c W T mnm k o io) (ha : SndL c W T mnm k (e :: es) ies) :
    SndE c W T mnm k (.Call (.Attribute o name apos) (e :: es) [] pos) (.meth m io ies) := by
  subst hm
  exact snd_of (fun X ok => PE.imp (pe_methAny ok.r0 (ho X ok).1 (ha.1 X ok) hn hl ha.2 hlen) fun σ H Q q => run_meth ok q) fun _ _ => rfl
theorem snd_meth0 {o : Expr} {io : IE} {m : Nat} {name : Str} {apos pos : Pos} (hm : mnm m = name) (hn : noSuper o = true) (hl : (apos.endLine == pos.line) = true) (ho : SndE c W T mnm k o io) :
    SndE c W T mnm k (.Call (.Attribute o name apos) [] [] pos) (.meth m io []) := by
  subst hm
  refine snd_of (fun X ok => PE.imp (pe_methAny0 ok.r0 (ho X ok).1 hn hl) fun σ H Q q => ?_) fun _ _ => rfl
  obtain ⟨env, S, B, μ, d, S', r, eo, ee, q1⟩ := run_meth ok q
  refine ⟨env, S, B, μ, d, S', r, eo, ee, fun B1 μ1 H1 v s1 r1 d1 => ?_⟩
  obtain ⟨a, C, dx, fs, f, fd, ps, sp, k1, k2, k3, k4, k5, k6, k7, q2⟩ := q1 B1 μ1 H1 v s1 r1 d1
  refine ⟨a, C, dx, fs, f, fd, ps, sp, k1, k2, k3, k4, k5, k6, k7, ?_⟩
  obtain ⟨env2, S2, B2, μ2, ds2, S3, r2, eo2, ee2, q3⟩ := q2
  simp only [evL] at ee2
  cases ee2
  exact q3 _ _ _ _ (Step.refl ..) r2 .nil

/-! ### slices -/
def tO (W : WP) (ev : EvF (Option Int)) : TO := fun σ H Q => ∃ env S B μ o S', Rel W B μ S H ∧ EnvOk W B μ env σ ∧ ev env S = some (o, S') ∧
  ∀ B' μ' H', Step B μ H B' μ' H' → Rel W B' μ' S' H' → Q o H'
def SndO (c : Cn) (W : WP) (T : Tab) (mnm : Nat → Str) (k : Nat) (e : Option Expr) (ie : Option IE) : Prop := ∀ X, CxOk c W T mnm k X → PO X e (tO W (evO T ie))
theorem PO.imp {X : Cx} {e : Option Expr} {t t' : TO} (h : PO X e t) (kk : ∀ σ H Q, t' σ H Q → t σ H Q) : PO X e t' := ⟨fun pins s σ H Q I q => h.run pins s σ H Q I (kk _ _ _ q)⟩
theorem sndO_none : SndO c W T mnm k none none := fun X ok => PO.imp po_none (by
  rintro σ H Q ⟨env, S, B, μ, o, S', r, eo, ee, q⟩
  simp only [evO] at ee
  cases ee
  exact q _ _ _ (Step.refl ..) r)
theorem sndO_some {e : Expr} {ie : IE} (h : SndE c W T mnm k e ie) : SndO c W T mnm k (some e) (some ie) := fun X ok => PO.imp (po_some (h X ok).1) (by
  rintro σ H Q ⟨env, S, B, μ, o, S', r, eo, ee, q⟩
  simp only [evO] at ee
  split at ee
  · rename_i i S1 e1
    cases ee
    exact ⟨env, S, B, μ, .int i, _, r, eo, e1, fun B1 μ1 H1 v s1 r1 d1 => ⟨i, den_int d1, q _ _ _ s1 r1⟩⟩
  · cases ee)
theorem cutD_ok {xs : List D} {vs : List V} {lo hi : Option Int} (h : DenL W B μ xs vs) : DenL W B μ (cutD xs lo hi) (cutV vs lo hi) := by
  unfold cutD cutV
  rw [h.length]
  exact (h.drop _).take _
theorem snd_slice {a : Expr} {lo hi : Option Expr} {ia : IE} {il ih : Option IE} {cell : Bool} {p2 pos : Pos} (ha : SndE c W T mnm k a ia) (hl : SndO c W T mnm k lo il) (hh : SndO c W T mnm k hi ih) : SndE c W T mnm k (.Subscript a (.Slice lo hi none p2) pos) (.slice ia il ih cell) := by
  refine snd_of (fun X ok => PE.imp (pe_slice (SlR.or sl_list (SlR.or sl_tup sl_str)) (ha X ok).1 (hl X ok) (hh X ok)) ?_) fun _ _ => rfl
  rintro σ H Q ⟨env, S, B, μ, d, S', r, eo, ee, q⟩
  simp only [evE] at ee
  split at ee
  · rename_i x S1 e1
    split at ee
    · rename_i l S2 e2
      split at ee
      · rename_i h S3 e3
        refine ⟨env, S, B, μ, x, S1, r, eo, e1, fun B1 μ1 H1 v s1 r1 d1 => ?_⟩
        refine ⟨env, S1, B1, μ1, l, S2, r1, eo.step s1, e2, fun B2 μ2 H2 s2 r2 => ?_⟩
        refine ⟨env, S2, B2, μ2, h, S3, r2, (eo.step s1).step s2, e3, fun B3 μ3 H3 s3 r3 => ?_⟩
        have d3 : Den W B3 μ3 x v := Den.mono s3.grow s3.p _ _ (Den.mono s2.grow s2.p _ _ d1)
        have st := (s1.trans s2).trans s3
        rw [ok.hK]
        split at ee
        · rename_i s
          split at ee
          · rename_i hz
            cases ee
            refine .inr (.inr ⟨_, den_str d3, by simpa [Str.length] using sz hz, q _ _ _ _ st r3 ?_⟩)
            have : cutS ⟨s.toArray⟩ l h = ⟨(cutD s l h).toArray⟩ := by
              unfold cutS cutD
              simp [Str.length]
            rw [this]
            exact .str _
          · cases ee
        · rename_i xs
          split at ee
          · cases ee
          · rename_i hw
            cases ee
            cases d3 with | tup h1 h2 =>
              refine .inr (.inl ⟨_, _, rfl, ex_t r3.sub h1, by rw [← h2.length]; exact hw, fun p hp => ?_⟩)
              obtain ⟨B4, s4, r4, d4⟩ := newT_ok r3 hp (cutD_ok (lo := l) (hi := h) h2)
              exact q _ _ _ _ (st.trans s4) r4 d4
        · split at ee
          · rename_i xs e4
            have ee := Option.some.inj ee
            obtain ⟨p, vs, rfl, h1, h2⟩ := lst_ok r3 d3 e4
            refine .inl ⟨p, vs, rfl, SqL.of h1, fun p hp => ?_⟩
            obtain ⟨B4, μ4, s4, r4, d4⟩ := newL_ok r3 cell hp (cutD_ok (lo := l) (hi := h) h2)
            rw [ee] at r4 d4
            exact q _ _ _ _ (st.trans s4) r4 d4
          · cases ee
      · cases ee
    · cases ee
  · cases ee
end LN

set_option Elab.async false
set_option linter.all false
set_option maxRecDepth 100000
set_option maxHeartbeats 1000000
namespace LN
open PySem L2
variable {W : WP} {B B' : Hp} {μ μ' : List Addr} {S S' : Store} {H H' : Hp} {c : Cn} {T : Tab} {mnm : Nat → Str} {k : Nat} {X : Cx}

/-! ### isinstance -/
def TyS.v (W : WP) : TyS → V
  | .bt b => .ty b.nm
  | .cls c => .ref (W.cls c)
def TyS.u (W : WP) : TyS → Value
  | .bt b => .type b.nm
  | .cls c => .ref (W.cls c)
theorem TyS.rel (t : TyS) : ClsV (t.v W) (t.u W) := by cases t <;> constructor
def tagV (W : WP) : Tag → Value
  | .non => .type "NoneType"
  | .bl => .type "bool"
  | .b t => .type t.nm
  | .ins c => .ref (W.cls c)
theorem kit_bt (K : PySem.W.Frag) (g : Tag) (b : BTy) (hg : ∀ c, g ≠ .ins c) : PySem.W.kitOne K (tagV W g) (.type b.nm) = some (isiB g b) := by
  cases g with
  | ins c => exact absurd rfl (hg c)
  | non => cases b <;> exact kit_ty (a := "NoneType") (by decide +kernel)
  | bl => cases b <;> exact kit_ty (a := "bool") (by decide +kernel)
  | b t => cases t <;> cases b <;> exact kit_ty (by decide +kernel)
theorem tag_ty (ok : CxOk c W T mnm k X) (r : Rel W B μ S H) {d : D} {v : V} {g : Tag} (h : Den W B μ d v) (e : tagD S d = some g) (hi : ∀ c, g = .ins c → T.ic c = true) : TyX X.K H v (tagV W g) := by
  have insT : ∀ {a dx : Addr} {cc : Nat} {fs : List (Str × V)}, H a = some (.ins (W.cls cc) dx fs) → T.ic cc = true → TyX X.K H (.ref a) (tagV W (.ins cc)) := fun {a dx cc fs} h1 h2 => by
    obtain ⟨k0, k1, k2, k3, k4⟩ := ok.kk.ins cc h2
    exact .base (.ins h1 k0 k1 k2 k3 k4)
  cases d with
  | non => cases h; simp only [tagD] at e; cases e; exact .base .non
  | bl b => cases h; simp only [tagD] at e; cases e; exact .base (.bl _)
  | int i => cases h; simp only [tagD] at e; cases e; exact .base (.int _)
  | str s => cases h; simp only [tagD] at e; cases e; exact .base (.str _)
  | tup xs =>
    simp only [tagD] at e; cases e
    cases h with | tup h1 h2 =>
      rcases ex_t r.sub h1 with (h1 | ⟨o, h1⟩) | ⟨o, its, n, h1, hc, _⟩
      · exact .base (.tup h1)
      · exact .fTuple h1
      · rw [← ok.hK] at h1; exact .kTuple h1 hc
  | lst xs => simp only [tagD] at e; cases e; cases h with | lst h1 h2 => exact .base (.lst (r.sub _ _ h1))
  | scr xs =>
    simp only [tagD] at e; cases e
    cases h with | scr h1 h2 =>
      rcases ex_l r.sub h1 with (h1 | ⟨o, h1⟩) | ⟨o, its, n, h1, hc, _⟩
      · exact .base (.lst h1)
      · exact .base (.frz h1)
      · rw [← ok.hK] at h1; exact .kList h1 hc
  | ins cc ks xs => simp only [tagD] at e; cases e; cases h with | ins h1 hl h2 => exact insT (r.sub _ _ h1) (hi _ rfl)
  | obj i =>
    simp only [tagD] at e
    split at e
    · rename_i xs hS
      cases e
      obtain ⟨a, rfl, hm, vs, h1, h2⟩ := r.get h hS
      exact .base (.lst h1)
    · rename_i ks xs hS
      cases e
      obtain ⟨a, rfl, hm, vs, h1, hl, h2⟩ := r.get h hS
      exact .base (.dK h1)
    · rename_i cc ks xs hS
      cases e
      obtain ⟨a, rfl, hm, dx, vs, h1, hl, h2⟩ := r.get h hS
      exact insT h1 (hi _ rfl)
    · cases e
theorem isi1_ok (ok : CxOk c W T mnm k X) {t : TyS} {g : Tag} {b : Bool} (e : isi1 T t g = some b) : PySem.W.kitOne X.K (tagV W g) (t.u W) = some b ∧ ∀ c, g = .ins c → T.ic c = true := by
  cases t with
  | bt t =>
    cases g with
    | ins cc =>
      simp only [isi1] at e
      split at e
      · rename_i hc
        cases e
        exact ⟨((ok.kk.kit cc hc).2 t).2, fun c h => by cases h; exact hc⟩
      · cases e
    | non => simp only [isi1] at e; cases e; exact ⟨kit_bt _ _ t (fun _ h => by cases h), fun c h => by cases h⟩
    | bl => simp only [isi1] at e; cases e; exact ⟨kit_bt _ _ t (fun _ h => by cases h), fun c h => by cases h⟩
    | b t' => simp only [isi1] at e; cases e; exact ⟨kit_bt _ _ t (fun _ h => by cases h), fun c h => by cases h⟩
  | cls cc =>
    cases g with
    | ins c' =>
      simp only [isi1] at e
      split at e
      · rename_i hc
        rw [Bool.and_eq_true] at hc
        cases e
        exact ⟨ok.kk.kit2 c' cc hc.2 hc.1, fun c h => by cases h; exact hc.2⟩
      · cases e
    | non =>
      simp only [isi1] at e
      split at e
      · rename_i hc; cases e; exact ⟨(ok.kk.kit cc hc).1, fun c h => by cases h⟩
      · cases e
    | bl =>
      simp only [isi1] at e
      split at e
      · rename_i hc; cases e; exact ⟨((ok.kk.kit cc hc).2 .bool).1, fun c h => by cases h⟩
      · cases e
    | b t' =>
      simp only [isi1] at e
      split at e
      · rename_i hc; cases e; exact ⟨((ok.kk.kit cc hc).2 t').1, fun c h => by cases h⟩
      · cases e
theorem isiL_ok (ok : CxOk c W T mnm k X) {g : Tag} : ∀ {ts : List TyS} {b : Bool}, isiL T g ts = some b → PySem.W.kitAny X.K (tagV W g) (ts.map (TyS.u W)) = some b ∧ (ts ≠ [] → ∀ c, g = .ins c → T.ic c = true)
  | [], b, e => by simp only [isiL] at e; cases e; exact ⟨rfl, fun h => absurd rfl h⟩
  | t :: ts, b, e => by
    simp only [isiL] at e
    split at e
    · rename_i h
      cases e
      have := isi1_ok ok h
      exact ⟨kitAny_cons (r := true) this.1 (fun z => by cases z) fun _ => rfl, fun _ => this.2⟩
    · rename_i h
      have := isi1_ok ok h
      have ih := isiL_ok ok e
      exact ⟨kitAny_cons this.1 (fun _ => ih.1) (fun z => by cases z), fun _ => this.2⟩
    · cases e
/-- an expression that is a class -/
def SndT (c : Cn) (W : WP) (T : Tab) (mnm : Nat → Str) (k : Nat) (e : Expr) (t : TyS) : Prop := (∀ X, CxOk c W T mnm k X → PE X e (tC (t.v W))) ∧ nstar e = true
theorem sndT_bt {x : Str} {b : BTy} {pos : Pos} (hg : glB c.sc x = true) (hl : c.G.lookup x = some .bn) (hp : plainN x = true) (hv : bootBuiltins x = some (.type b.nm)) : SndT c W T mnm k (.Name x pos) (.bt b) :=
  ⟨fun X ok => pe_bltn (v := .ty b.nm) (gl_of ok hg) (ok.gl x _ hl) hv rfl (plainN_of hp).2.2 (plainN_of hp).1, rfl⟩
theorem sndT_cls {x : Str} {cc f np : Nat} {pos : Pos} (hg : glB c.sc x = true) (hl : c.G.lookup x = some (.cls cc f np)) (hp : plainN x = true) : SndT c W T mnm k (.Name x pos) (.cls cc) :=
  ⟨fun X ok => pe_glob (v := .ref (W.cls cc)) (gl_of ok hg) (ok.gl x _ hl).1 rfl (plainN_of hp).1, rfl⟩
def SndTs (c : Cn) (W : WP) (T : Tab) (mnm : Nat → Str) (k : Nat) (es : List Expr) (ts : List TyS) : Prop := (∀ X, CxOk c W T mnm k X → PA X es (fun _ H Q => Q (ts.map (TyS.v W)) H)) ∧ es.all nstar = true
theorem sndTs_nil : SndTs c W T mnm k [] [] := ⟨fun X ok => pa_nil, rfl⟩
theorem sndTs_cons {e : Expr} {es : List Expr} {t : TyS} {ts : List TyS} (h : SndT c W T mnm k e t) (hs : SndTs c W T mnm k es ts) : SndTs c W T mnm k (e :: es) (t :: ts) :=
  ⟨fun X ok => PA.imp (pa_cons (h.1 X ok) (hs.1 X ok) (star_cons h.2)) fun σ H Q q => q, by rw [List.all_cons, h.2, hs.2]; rfl⟩
theorem clsVs : ∀ ts : List TyS, Paired ClsV (ts.map (TyS.v W)) (ts.map (TyS.u W))
  | [] => .nil
  | t :: ts => .cons t.rel (clsVs ts)
theorem isi_common {ts : List TyS} {ia : IE} {σ : L2.St} {H : Hp} {Q : VK} (h : tE W (evE T (.isi ts ia)) σ H Q) : tE W (evE T ia) σ H fun x H1 => ∃ B μ S d g b, Rel W B μ S H1 ∧ Den W B μ d x ∧ tagD S d = some g ∧ isiL T g ts = some b ∧
    (∀ B' μ' H' v, Step B μ H1 B' μ' H' → Rel W B' μ' S H' → Den W B' μ' (.bl b) v → Q v H') := by
  obtain ⟨env, S, B, μ, d, S', r, eo, ee, q⟩ := h
  simp only [evE] at ee
  split at ee
  · rename_i x S1 e1
    split at ee
    · rename_i g e2
      split at ee
      · rename_i b e3
        cases ee
        exact ⟨env, S, B, μ, x, _, r, eo, e1, fun B1 μ1 H1 v s1 r1 d1 => ⟨B1, μ1, _, x, g, b, r1, d1, e2, e3, fun B2 μ2 H2 w s2 r2 d2 => q _ _ _ _ (s1.trans s2) r2 d2⟩⟩
      · cases ee
    · cases ee
  · cases ee
theorem snd_isi1 {a e : Expr} {ia : IE} {t : TyS} {p1 pos : Pos} (hg : glB c.sc "isinstance" = true) (hl : c.G.lookup ("isinstance" : Str) = some .bn) (hn : nstar a = true) (ha : SndE c W T mnm k a ia) (ht : SndT c W T mnm k e t) :
    SndE c W T mnm k (.Call (.Name "isinstance" p1) [a, e] [] pos) (.isi [t] ia) := by
  refine snd_of (fun X ok => PE.imp (pe_callB call_isi (gl_of ok hg) (ok.gl _ _ hl) (by decide +kernel) (pa_cons (ha X ok).1 (pa_cons (ht.1 X ok) pa_nil (star_cons ht.2)) (star_cons hn)) (by decide) (by decide) (star_cons hn) (star_any (by simp [ht.2]))) ?_) fun _ _ => rfl
  intro σ H Q h
  obtain ⟨env, S, B, μ, d, S', r, eo, ee, q⟩ := isi_common h
  refine ⟨env, S, B, μ, d, S', r, eo, ee, fun B1 μ1 H1 v s1 r1 d1 => ?_⟩
  obtain ⟨B2, μ2, S2, d2, g, b, r2, dd, e2, e3, q2⟩ := q _ _ _ _ s1 r1 d1
  have e4 : isi1 T t g = some b := by
    simp only [isiL] at e3
    split at e3 <;> first | (cases e3; assumption) | skip
    cases e3
  have i1 := isi1_ok ok e4
  exact ⟨_, _, _, _, b, rfl, t.rel, tag_ty ok r2 dd e2 i1.2, i1.1, q2 _ _ _ _ (Step.refl ..) r2 (.bl b)⟩
theorem snd_isiT {a : Expr} {es : List Expr} {ia : IE} {ts : List TyS} {p1 p2 pos : Pos} {kk : Nat} (hg : glB c.sc "isinstance" = true) (hl : c.G.lookup ("isinstance" : Str) = some .bn) (hn : nstar a = true) (h0 : ts ≠ []) (hz : ts.length < 100) (ha : SndE c W T mnm k a ia) (ht : SndTs c W T mnm k es ts) :
    SndE c W T mnm k (.Call (.Name "isinstance" p1) [a, .Tuple es kk p2] [] pos) (.isi ts ia) := by
  refine snd_of (fun X ok => PE.imp (pe_callB call_isiT (gl_of ok hg) (ok.gl _ _ hl) (by decide +kernel) (pa_cons (ha X ok).1 (pa_cons (pe_tup (ht.1 X ok)) pa_nil (star_cons rfl)) (star_cons hn)) (by decide) (by decide) (star_cons hn) (star_any rfl)) ?_) fun _ _ => rfl
  intro σ H Q h
  obtain ⟨env, S, B, μ, d, S', r, eo, ee, q⟩ := isi_common h
  refine ⟨env, S, B, μ, d, S', r, eo, ee, fun B1 μ1 H1 v s1 r1 d1 => ?_⟩
  obtain ⟨B2, μ2, S2, d2, g, b, r2, dd, e2, e3, q2⟩ := q _ _ _ _ s1 r1 d1
  have i1 := isiL_ok ok e3
  refine ⟨by rw [List.length_map]; exact Nat.le_trans (Nat.le_of_lt hz) (by decide), fun p hp => ?_⟩
  obtain ⟨s3, r3⟩ := r2.data (o := .tup (ts.map (TyS.v W))) hp
  exact ⟨_, p, _, _, _, b, rfl, upd_same, clsVs ts, tag_ty ok r3 (Den.mono s3.grow s3.p _ _ dd) e2 (i1.2 h0), i1.1, q2 _ _ _ _ s3 r3 (.bl b)⟩

/-! ### targets -/
def OffSl (sl : List Nat) (σ σ' : L2.St) : Prop := σ'.length = σ.length ∧ ∀ j, j ∉ sl → σ'[j]? = σ[j]?
theorem OffSl.refl (sl : List Nat) (σ : L2.St) : OffSl sl σ σ := ⟨rfl, fun _ _ => rfl⟩
theorem OffSl.trans {a b : List Nat} {σ σ1 σ2 : L2.St} (h : OffSl a σ σ1) (g : OffSl b σ1 σ2) : OffSl (a ++ b) σ σ2 :=
  ⟨g.1.trans h.1, fun j hj => (g.2 j fun z => hj (List.mem_append_right _ z)).trans (h.2 j fun z => hj (List.mem_append_left _ z))⟩
/-- a value stored at a target -/
def tG (W : WP) (t : Tg) : TG := fun v σ H Q => ∃ B μ S env d env', Rel W B μ S H ∧ EnvOk W B μ env σ ∧ Den W B μ d v ∧ setT S t d env = some env' ∧
  ∀ σ', EnvOk W B μ env' σ' → OffSl (slots t) σ σ' → Q σ' H
def tGs (W : WP) (ts : List Tg) : TGs := fun vs σ H Q => ∃ B μ S env ds env', Rel W B μ S H ∧ EnvOk W B μ env σ ∧ DenL W B μ ds vs ∧ setTs S ts ds env = some env' ∧
  ∀ σ', EnvOk W B μ env' σ' → OffSl (slotsL ts) σ σ' → Q σ' H
def SndG (c : Cn) (W : WP) (T : Tab) (mnm : Nat → Str) (k : Nat) (e : Expr) (t : Tg) : Prop := (∀ X, CxOk c W T mnm k X → PG X e (tG W t)) ∧ nstar e = true
def SndGs (c : Cn) (W : WP) (T : Tab) (mnm : Nat → Str) (k : Nat) (es : List Expr) (ts : List Tg) : Prop := (∀ X, CxOk c W T mnm k X → PGs X es (tGs W ts)) ∧ es.all nstar = true ∧ ts.length = es.length
theorem PG.imp {X : Cx} {e : Expr} {t t' : TG} (h : PG X e t) (kk : ∀ v σ H Q, t' v σ H Q → t v σ H Q) : PG X e t' := ⟨fun pins s σ H v u Q I r q => h.run pins s σ H v u Q I r (kk _ _ _ _ q)⟩
theorem PGs.imp {X : Cx} {e : List Expr} {t t' : TGs} (h : PGs X e t) (kk : ∀ v σ H Q, t' v σ H Q → t v σ H Q) : PGs X e t' := ⟨fun pins s σ H v u Q I r q => h.run pins s σ H v u Q I r (kk _ _ _ _ q)⟩
theorem PG.or {X : Cx} {e : Expr} {t t' : TG} (h : PG X e t) (h' : PG X e t') : PG X e (fun v σ H Q => t v σ H Q ∨ t' v σ H Q) :=
  ⟨fun pins s σ H v u Q I r q => q.elim (h.run pins s σ H v u Q I r) (h'.run pins s σ H v u Q I r)⟩
/-- a name that is stored -/
def locB (c : Cn) (x : Str) : Bool := match c.sc.names.lookup x with
  | some .local => true
  | some .cell => match c.blk with
    | none => true
    | some s => s.names.lookup x == some .cell
  | _ => false
theorem loc_of {x : Str} (ok : CxOk c W T mnm k X) (h : locB c x = true) : Loc X.env.scope x ∧ (X.fn x = true ∨ X.env.scope.names.lookup x = some .local) := by
  unfold locB at h
  rw [ok.hs]
  split at h
  · rename_i e; exact ⟨.inl e, .inr e⟩
  · rename_i e
    refine ⟨.inr e, .inl (ok.hb x ?_)⟩
    split at h
    · rename_i e2; simp [e2]
    · rename_i s e2; try simp only [e2]
      exact h
  · cases h
theorem sndG_nm {x : Str} {i : Nat} {pos : Pos} (hi : c.N[i]? = some x) (hx : locB c x = true) : SndG c W T mnm k (.Name x pos) (.nm i) := by
  refine ⟨fun X ok => PG.imp (pg_name (i := i) (by rw [ok.hN]; exact ok.nd) (by rw [ok.hN]; exact hi) (loc_of ok hx).1 (loc_of ok hx).2) ?_, rfl⟩
  rintro v σ H Q ⟨B, μ, S, env, d, env', r, eo, hd, e, q⟩
  simp only [setT] at e
  cases e
  exact q _ (eo.set hd) ⟨by simp, fun j hj => by rw [List.getElem?_set_ne]; simp [slots] at hj; exact Ne.symm hj⟩
theorem sndGs_nil : SndGs c W T mnm k [] [] := ⟨fun X ok => PGs.imp pgs_nil (by
  rintro v σ H Q ⟨B, μ, S, env, ds, env', r, eo, hd, e, q⟩
  cases ds with
  | nil => cases hd; simp only [setTs] at e; cases e; exact ⟨rfl, q _ eo (OffSl.refl ..)⟩
  | cons _ _ => simp [setTs] at e), rfl, rfl⟩
theorem astar_cons {e : Expr} {es : List Expr} {env : Env} (h : nstar e = true) : (assignEach (e :: es) env).map (·.2) = assign e env :: (assignEach es env).map (·.2) := by
  cases e <;> first | rfl | cases h
theorem sndGs_cons {e : Expr} {es : List Expr} {t : Tg} {ts : List Tg} (h : SndG c W T mnm k e t) (hs : SndGs c W T mnm k es ts) : SndGs c W T mnm k (e :: es) (t :: ts) := by
  refine ⟨fun X ok => PGs.imp (pgs_cons (h.1 X ok) (hs.1 X ok) (astar_cons h.2)) ?_, by rw [List.all_cons, h.2, hs.2.1]; rfl, by simp [hs.2.2]⟩
  rintro v σ H Q ⟨B, μ, S, env, ds, env', r, eo, hd, e, q⟩
  cases ds with
  | nil => simp [setTs] at e
  | cons d ds =>
    simp only [setTs] at e
    split at e
    · rename_i env1 e1
      cases hd with | cons h1 h2 =>
        refine ⟨_, _, rfl, B, μ, S, env, d, env1, r, eo, h1, e1, fun σ1 eo1 o1 => ?_⟩
        exact ⟨B, μ, S, env1, ds, env', r, eo1, h2, e, fun σ2 eo2 o2 => q _ eo2 (o1.trans o2)⟩
    · cases e
theorem alen {es : List Expr} {env : Env} (h : es.all nstar = true) : (assignEach es env).length = es.length ∧ (assignEach es env).findIdx? (·.1) = none := by
  induction es with
  | nil => exact ⟨rfl, rfl⟩
  | cons e es ih =>
    rw [List.all_cons, Bool.and_eq_true] at h
    obtain ⟨i1, i2⟩ := ih h.2
    have hc : assignEach (e :: es) env = (false, assign e env) :: assignEach es env := by
      cases e <;> first | rfl | cases h.1
    rw [hc]
    exact ⟨by simp [i1], by rw [List.findIdx?_cons]; simp [i2]⟩
theorem setTs_len {S : Store} : ∀ {ts : List Tg} {ds : List D} {env env' : DEnv}, setTs S ts ds env = some env' → ds.length = ts.length
  | [], [], _, _, _ => rfl
  | [], _ :: _, _, _, e => by simp [setTs] at e
  | _ :: _, [], _, _, e => by simp [setTs] at e
  | t :: ts, d :: ds, env, env', e => by
    simp only [setTs] at e
    split at e
    · simp [setTs_len e]
    · cases e
theorem sndG_tup {es : List Expr} {ts : List Tg} {kk : Nat} {pos : Pos} (h : SndGs c W T mnm k es ts) : SndG c W T mnm k (.Tuple es kk pos) (.tup ts) := by
  refine ⟨fun X ok => PG.imp (PG.or (pg_tup ok.calm (h.1 X ok) (alen h.2.1).1 (alen h.2.1).2) (pg_unl ok.calm (h.1 X ok) (alen h.2.1).1 (alen h.2.1).2)) ?_, rfl⟩
  rintro v σ H Q ⟨B, μ, S, env, d, env', r, eo, hd, e, q⟩
  simp only [setT] at e
  split at e
  · rename_i xs hx
    obtain ⟨a, vs, rfl, h1, h2⟩ := seq_ok r hd hx
    have hl : vs.length = es.length := by rw [← h2.length, setTs_len e, h.2.2]
    have fin : tGs W ts vs σ H Q := ⟨B, μ, S, env, xs, env', r, eo, h2, e, fun σ' eo' o' => q _ eo' (by simpa [slots] using o')⟩
    rcases h1 with h1 | h1
    · exact .inr ⟨a, vs, rfl, by rw [ok.hK]; exact h1, hl, fin⟩
    · exact .inl ⟨a, vs, rfl, by rw [ok.hK]; exact h1, hl, fin⟩
  · cases e
end LN

set_option Elab.async false
set_option linter.all false
set_option maxRecDepth 100000
set_option maxHeartbeats 1000000
namespace LN
open PySem L2
variable {W : WP} {B B' : Hp} {μ μ' : List Addr} {S S' : Store} {H H' : Hp} {c : Cn} {T : Tab} {mnm : Nat → Str} {k : Nat} {X : Cx}

/-! ### what is walked -/
def cur (s : Src) (S : Store) : Option (List D) := match s with
  | .items xs => some xs
  | .cell i => match S[i]? with
    | some (.lst xs) => some xs
    | _ => none
def SrcOk (W : WP) (B : Hp) (μ : List Addr) (s : Src) (J : It) : Prop := ∀ B1 μ1 S1 H1 xs, Ex B B1 → Pre μ μ1 → Rel W B1 μ1 S1 H1 → cur s S1 = some xs → ∀ i : Nat,
  (∀ x, xs[i]? = some x → J.go i H1 ∧ ∀ v H2, J.yld i H1 v H2 → ∃ B2, Step B1 μ1 H1 B2 μ1 H2 ∧ Rel W B2 μ1 S1 H2 ∧ Den W B2 μ1 x v) ∧ (xs[i]? = none → J.stop i H1)
def tI (W : WP) (kd : Nat) (ev : EvF (List D)) : TI := fun σ H R => ∃ env S B μ ds S' s, Rel W B μ S H ∧ EnvOk W B μ env σ ∧ ev env S = some (ds, S') ∧ srcD kd ds S' = some s ∧
  ∀ B' μ' H' J, Step B μ H B' μ' H' → Rel W B' μ' S' H' → SrcOk W B' μ' s J → R J H'
def SndI (c : Cn) (W : WP) (T : Tab) (mnm : Nat → Str) (k : Nat) (tg e : Expr) (kd : Nat) (ies : List IE) : Prop := (∀ X, CxOk c W T mnm k X → PI X tg e (tI W kd (evL T ies))) ∧ notSet e = true
theorem fold_of {e : Expr} {env : Env} (h : notSet e = true) (x : Value) : foldedSetIterable e env x = pure x := by
  cases e <;> first | rfl | cases h
theorem src_list (h : ∀ B1 μ1 S1 H1 xs, Ex B B1 → Pre μ μ1 → Rel W B1 μ1 S1 H1 → cur s S1 = some xs → ∃ vs, SqL W.K H1 a vs ∧ DenL W B1 μ1 xs vs) : SrcOk W B μ s (Itl W.K a) := by
  intro B1 μ1 S1 H1 xs hB hμ r1 hc i
  obtain ⟨vs, h1, h2⟩ := h B1 μ1 S1 H1 xs hB hμ r1 hc
  refine ⟨fun x hx => ?_, fun hx => ?_⟩
  · obtain ⟨v, g1, g2⟩ := h2.at hx
    refine ⟨⟨vs, v, h1, g1⟩, fun w H2 hy => ?_⟩
    obtain ⟨e, hy⟩ := hy
    subst e
    have := hy vs h1
    rw [g1] at this
    cases this
    exact ⟨B1, Step.refl .., r1, g2⟩
  · exact ⟨vs, h1, by rw [← h2.length]; exact List.getElem?_eq_none_iff.mp hx⟩
theorem src_tup {xs0 : List D} (h : ∀ B1 μ1 S1 H1 xs, Ex B B1 → Pre μ μ1 → Rel W B1 μ1 S1 H1 → cur s S1 = some xs → ∃ vs, SqT W.K H1 a vs ∧ DenL W B1 μ1 xs vs) : SrcOk W B μ s (Itt W.K a) := by
  intro B1 μ1 S1 H1 xs hB hμ r1 hc i
  obtain ⟨vs, h1, h2⟩ := h B1 μ1 S1 H1 xs hB hμ r1 hc
  refine ⟨fun x hx => ?_, fun hx => ?_⟩
  · obtain ⟨v, g1, g2⟩ := h2.at hx
    refine ⟨⟨vs, v, h1, g1⟩, fun w H2 hy => ?_⟩
    obtain ⟨e, hy⟩ := hy
    subst e
    have := hy vs h1
    rw [g1] at this
    cases this
    exact ⟨B1, Step.refl .., r1, g2⟩
  · exact ⟨vs, h1, by rw [← h2.length]; exact List.getElem?_eq_none_iff.mp hx⟩
theorem sndI_seq {tg e : Expr} {ie : IE} (hn : notSet e = true) (h : SndE c W T mnm k e ie) : SndI c W T mnm k tg e 0 [ie] := by
  refine ⟨fun X ok => PI.imp (PI.or (pi_list (h X ok).1) (PI.or (pi_tup (h X ok).1) (pi_str (h X ok).1))) ?_, hn⟩
  rintro σ H R ⟨env, S, B, μ, ds, S', s, r, eo, ee, es, q⟩
  simp only [evL] at ee
  split at ee
  · rename_i d S1 e1
    cases ee
    rw [ok.hK]
    cases d with
    | lst xs =>
      simp only [srcD] at es; cases es
      refine .inl ⟨env, S, B, μ, _, _, r, eo, e1, fun B1 μ1 H1 v s1 r1 d1 => ?_⟩
      cases d1 with | lst h1 h2 =>
        refine ⟨_, rfl, ⟨_, SqL.of (r1.sub _ _ h1)⟩, q _ _ _ _ s1 r1 (src_list fun B2 μ2 S2 H2 xs' hB hμ r2 hc => ?_)⟩
        simp only [cur] at hc; cases hc
        exact ⟨_, SqL.of (r2.sub _ _ (hB _ _ h1)), DenL.mono hB hμ _ _ h2⟩
    | scr xs =>
      simp only [srcD] at es; cases es
      refine .inl ⟨env, S, B, μ, _, _, r, eo, e1, fun B1 μ1 H1 v s1 r1 d1 => ?_⟩
      cases d1 with | scr h1 h2 =>
        refine ⟨_, rfl, ⟨_, ex_l r1.sub h1⟩, q _ _ _ _ s1 r1 (src_list fun B2 μ2 S2 H2 xs' hB hμ r2 hc => ?_)⟩
        simp only [cur] at hc; cases hc
        exact ⟨_, ex_l r2.sub (ex_l hB h1), DenL.mono hB hμ _ _ h2⟩
    | obj i =>
      simp only [srcD] at es
      split at es
      · rename_i xs hS
        cases es
        refine .inl ⟨env, S, B, μ, _, _, r, eo, e1, fun B1 μ1 H1 v s1 r1 d1 => ?_⟩
        obtain ⟨a, rfl, hm, vs, h1, h2⟩ := r1.get d1 hS
        refine ⟨_, rfl, ⟨_, SqL.of h1⟩, q _ _ _ _ s1 r1 (src_list fun B2 μ2 S2 H2 xs' hB hμ r2 hc => ?_)⟩
        simp only [cur] at hc
        split at hc
        · rename_i ys hS2
          cases hc
          obtain ⟨ws, g1, g2⟩ := r2.at (hμ.at hm) hS2
          exact ⟨ws, SqL.of g1, g2⟩
        · cases hc
      · cases es
    | tup xs =>
      simp only [srcD] at es; cases es
      refine .inr (.inl ⟨env, S, B, μ, _, _, r, eo, e1, fun B1 μ1 H1 v s1 r1 d1 => ?_⟩)
      cases d1 with | tup h1 h2 =>
        refine ⟨_, rfl, ⟨_, ex_t r1.sub h1⟩, q _ _ _ _ s1 r1 (src_tup (xs0 := xs) fun B2 μ2 S2 H2 xs' hB hμ r2 hc => ?_)⟩
        simp only [cur] at hc; cases hc
        exact ⟨_, ex_t r2.sub (ex_t hB h1), DenL.mono hB hμ _ _ h2⟩
    | str t =>
      simp only [srcD] at es
      split at es
      · cases es
        refine .inr (.inr ⟨env, S, B, μ, _, _, r, eo, e1, fun B1 μ1 H1 v s1 r1 d1 => ⟨_, den_str d1, q _ _ _ _ s1 r1 ?_⟩⟩)
        intro B2 μ2 S2 H2 xs hB hμ r2 hc i
        simp only [cur] at hc; cases hc
        refine ⟨fun x hx => ?_, fun hx => ?_⟩
        · rw [List.getElem?_map] at hx
          cases ht : t[i]? with
          | none => rw [ht] at hx; cases hx
          | some z =>
            rw [ht] at hx; cases hx
            have hlt : i < t.length := (List.getElem?_eq_some_iff.mp ht).1
            refine ⟨by show i < t.toArray.size; simpa using hlt, fun w H3 hy => ?_⟩
            obtain ⟨e, cc, hcx, hv⟩ := hy
            subst e hv
            have : cc = z := by
              have : t.toArray[i]? = some cc := hcx
              rw [List.getElem?_toArray, ht] at this
              cases this; rfl
            subst this
            exact ⟨B2, Step.refl .., r2, .str [cc]⟩
        · show t.toArray.size ≤ i
          simp only [List.getElem?_eq_none_iff, List.length_map] at hx
          simpa using hx
      · cases es
    | _ => simp [srcD] at es
  · cases ee
theorem rngD_at (a : Int) : ∀ (n i : Nat), (rngD a n)[i]? = if i < n then some (.int (a + i)) else none
  | 0, i => by simp [rngD]
  | n + 1, 0 => by simp [rngD]
  | n + 1, i + 1 => by
    simp only [rngD, List.getElem?_cons_succ]
    rw [rngD_at (a + 1) n i]
    by_cases h : i < n
    · rw [if_pos h, if_pos (by omega)]
      congr 2
      omega
    · rw [if_neg h, if_neg (by omega)]
theorem src_rng {lo : Int} {n : Nat} : SrcOk W B μ (.items (rngD lo n)) (Itr lo n) := by
  intro B2 μ2 S2 H2 xs hB hμ r2 hc i
  simp only [cur] at hc; cases hc
  rw [rngD_at]
  refine ⟨fun x hx => ?_, fun hx => ?_⟩
  · split at hx
    · rename_i hlt
      cases hx
      refine ⟨hlt, fun w H3 hy => ?_⟩
      obtain ⟨e, hv⟩ := hy
      subst e hv
      exact ⟨B2, Step.refl .., r2, .int _⟩
    · cases hx
  · split at hx
    · cases hx
    · rename_i hlt; exact Nat.le_of_not_lt hlt
theorem denL_1 {d : D} {vs : List V} (h : DenL W B μ [d] vs) : ∃ v, vs = [v] ∧ Den W B μ d v := denL_one h
theorem denL_2 {d e : D} {vs : List V} (h : DenL W B μ [d, e] vs) : ∃ v w, vs = [v, w] ∧ Den W B μ d v ∧ Den W B μ e w := by
  cases h with | cons h r => obtain ⟨w, rfl, q⟩ := denL_one r; exact ⟨_, w, rfl, h, q⟩
theorem sndI_rng1 {tg a : Expr} {ia : IE} {p pos : Pos} (hg : glB c.sc "range" = true) (hl : c.G.lookup ("range" : Str) = some .bn) (ha : SndL c W T mnm k [a] [ia]) : SndI c W T mnm k tg (.Call (.Name "range" p) [a] [] pos) 1 [ia] := by
  have hs := ha.2
  simp only [List.all_cons, List.all_nil, Bool.and_true] at hs
  refine ⟨fun X ok => PI.imp (pi_range1 (gl_of ok hg) (ok.gl _ _ hl) (ha.1 X ok) (star_cons hs)) ?_, rfl⟩
  rintro σ H R ⟨env, S, B, μ, ds, S', s, r, eo, ee, es, q⟩
  refine ⟨env, S, B, μ, ds, S', r, eo, ee, fun B1 μ1 H1 vs s1 r1 d1 => ?_⟩
  cases ds with
  | nil => simp [srcD] at es
  | cons d ds =>
    cases ds with
    | cons d' ds =>
      exfalso
      simp only [evL] at ee
      split at ee <;> simp at ee
    | nil =>
      cases d with
      | int j =>
        simp only [srcD] at es
        split at es
        · rename_i hj
          cases es
          obtain ⟨v, rfl, dv⟩ := denL_one d1
          have := den_int dv
          subst this
          exact ⟨j, rfl, by omega, by omega, q _ _ _ _ s1 r1 src_rng⟩
        · cases es
      | _ => simp [srcD] at es
theorem evL_len : ∀ {ies : List IE} {env : DEnv} {S S' : Store} {ds : List D}, evL T ies env S = some (ds, S') → ds.length = ies.length
  | [], _, _, _, _, e => by simp only [evL] at e; cases e; rfl
  | i :: is, _, _, _, _, e => by
    simp only [evL] at e
    split at e
    · split at e
      · rename_i h; cases e; simp [evL_len h]
      · cases e
    · cases e
theorem sndI_rng2 {tg a b : Expr} {ia ib : IE} {p pos : Pos} (hg : glB c.sc "range" = true) (hl : c.G.lookup ("range" : Str) = some .bn) (ha : SndL c W T mnm k [a, b] [ia, ib]) : SndI c W T mnm k tg (.Call (.Name "range" p) [a, b] [] pos) 1 [ia, ib] := by
  have hs := ha.2
  simp only [List.all_cons, List.all_nil, Bool.and_true, Bool.and_eq_true] at hs
  refine ⟨fun X ok => PI.imp (pi_range2 (gl_of ok hg) (ok.gl _ _ hl) (ha.1 X ok) (by rw [star_cons hs.1, star_cons hs.2]; rfl) (star_cons hs.2)) ?_, rfl⟩
  rintro σ H R ⟨env, S, B, μ, ds, S', s, r, eo, ee, es, q⟩
  refine ⟨env, S, B, μ, ds, S', r, eo, ee, fun B1 μ1 H1 vs s1 r1 d1 => ?_⟩
  have hl2 := evL_len ee
  match ds, es, d1, hl2 with
  | [d, e], es, d1, _ =>
    obtain ⟨v, w, rfl, dv, dw⟩ := denL_2 d1
    cases d with
    | int i =>
      cases e with
      | int j =>
        simp only [srcD] at es
        split at es
        · rename_i hj
          cases es
          have e1 := den_int dv
          have e2 := den_int dw
          subst e1 e2
          exact ⟨i, j, rfl, ⟨by omega, by omega, by omega, by omega⟩, q _ _ _ _ s1 r1 src_rng⟩
        · cases es
      | _ => simp [srcD] at es
    | _ => simp [srcD] at es
theorem enumD_at : ∀ (xs : List D) (n i : Nat), (enumD (n : Int) xs)[i]? = (xs[i]?).map fun x => .tup [.int ((n + i : Nat) : Int), x]
  | [], n, i => by simp [enumD]
  | x :: xs, n, 0 => by simp [enumD]
  | x :: xs, n, i + 1 => by
    simp only [enumD, List.getElem?_cons_succ]
    have := enumD_at xs (n + 1) i
    rw [show ((n : Int) + 1) = ((n + 1 : Nat) : Int) by omega, this]
    rw [show n + 1 + i = n + (i + 1) by omega]
theorem zipD_at : ∀ (xs ys : List D) (i : Nat), (zipD xs ys)[i]? = match xs[i]?, ys[i]? with
    | some x, some y => some (.tup [x, y])
    | _, _ => none
  | [], ys, i => by simp [zipD]
  | x :: xs, [], i => by
    simp only [zipD, List.getElem?_nil]
    split <;> simp_all
  | x :: xs, y :: ys, 0 => by simp [zipD]
  | x :: xs, y :: ys, i + 1 => by
    simp only [zipD, List.getElem?_cons_succ]
    exact zipD_at xs ys i
theorem sndI_enum {elts : List Expr} {kk : Nat} {tpos : Pos} {a : Expr} {ia : IE} {p pos : Pos} (hg : glB c.sc "enumerate" = true) (hl : c.G.lookup ("enumerate" : Str) = some .bn) (ha : SndL c W T mnm k [a] [ia]) : SndI c W T mnm k (.Tuple elts kk tpos) (.Call (.Name "enumerate" p) [a] [] pos) 2 [ia] := by
  have hs := ha.2
  simp only [List.all_cons, List.all_nil, Bool.and_true] at hs
  refine ⟨fun X ok => PI.imp (pi_enum (gl_of ok hg) (ok.gl _ _ hl) (ha.1 X ok) (star_cons hs)) ?_, rfl⟩
  rintro σ H R ⟨env, S, B, μ, ds, S', s, r, eo, ee, es, q⟩
  rw [ok.hK]
  refine ⟨env, S, B, μ, ds, S', r, eo, ee, fun B1 μ1 H1 vs s1 r1 d1 => ?_⟩
  have hl2 := evL_len ee
  match ds, es, d1, hl2 with
  | [d], es, d1, _ =>
    obtain ⟨v, rfl, dv⟩ := denL_one d1
    cases d with
    | lst xs =>
      simp only [srcD] at es
      cases es
      cases dv with | lst h1 h2 =>
        refine ⟨_, _, rfl, SqL.of (r1.sub _ _ h1), q _ _ _ _ s1 r1 ?_⟩
        intro B2 μ2 S2 H2 xs' hB hμ r2 hc i
        simp only [cur] at hc; cases hc
        have g1 := SqL.of (K := W.K) (r2.sub _ _ (hB _ _ h1))
        have g2 := DenL.mono hB hμ _ _ h2
        rw [show enumD 0 xs = enumD ((0 : Nat) : Int) xs from rfl, enumD_at]
        refine ⟨fun x hx => ?_, fun hx => ?_⟩
        · cases hxi : xs[i]? with
          | none => rw [hxi] at hx; cases hx
          | some y =>
            rw [hxi] at hx; cases hx
            obtain ⟨u, k1, k2⟩ := g2.at hxi
            refine ⟨⟨_, u, g1, k1⟩, fun w H3 hy => ?_⟩
            obtain ⟨t, z, rfl, hn, rfl, hz⟩ := hy
            have := hz _ g1
            rw [k1] at this
            cases this
            obtain ⟨B3, s3, r3, d3⟩ := newT_ok (xs := [.int (i : Int), y]) r2 hn (.cons (.int _) (.cons k2 .nil))
            exact ⟨B3, s3, r3, by rw [Nat.zero_add]; exact d3⟩
        · refine ⟨_, g1, ?_⟩
          rw [← g2.length]
          cases hxi : xs[i]? with
          | none => exact List.getElem?_eq_none_iff.mp hxi
          | some y => rw [hxi] at hx; cases hx
    | _ => simp [srcD] at es
theorem sndI_zip {elts : List Expr} {kk : Nat} {tpos : Pos} {a b : Expr} {ia ib : IE} {p pos : Pos} (hg : glB c.sc "zip" = true) (hl : c.G.lookup ("zip" : Str) = some .bn) (ha : SndL c W T mnm k [a, b] [ia, ib]) : SndI c W T mnm k (.Tuple elts kk tpos) (.Call (.Name "zip" p) [a, b] [] pos) 3 [ia, ib] := by
  have hs := ha.2
  simp only [List.all_cons, List.all_nil, Bool.and_true, Bool.and_eq_true] at hs
  refine ⟨fun X ok => PI.imp (pi_zip (gl_of ok hg) (ok.gl _ _ hl) (ha.1 X ok) (star_cons hs.1) (star_any (by simp [hs.2]))) ?_, rfl⟩
  rintro σ H R ⟨env, S, B, μ, ds, S', s, r, eo, ee, es, q⟩
  rw [ok.hK]
  refine ⟨env, S, B, μ, ds, S', r, eo, ee, fun B1 μ1 H1 vs s1 r1 d1 => ?_⟩
  have hl2 := evL_len ee
  match ds, es, d1, hl2 with
  | [d, e], es, d1, _ =>
    obtain ⟨v, w, rfl, dv, dw⟩ := denL_2 d1
    cases d with
    | lst xs =>
      cases e with
      | lst ys =>
        simp only [srcD] at es
        cases es
        cases dv with | lst h1 h2 =>
          cases dw with | lst h3 h4 =>
            refine ⟨_, _, _, _, rfl, SqL.of (r1.sub _ _ h1), SqL.of (r1.sub _ _ h3), q _ _ _ _ s1 r1 ?_⟩
            intro B2 μ2 S2 H2 xs' hB hμ r2 hc i
            simp only [cur] at hc; cases hc
            have g1 := SqL.of (K := W.K) (r2.sub _ _ (hB _ _ h1))
            have g2 := DenL.mono hB hμ _ _ h2
            have g3 := SqL.of (K := W.K) (r2.sub _ _ (hB _ _ h3))
            have g4 := DenL.mono hB hμ _ _ h4
            rw [zipD_at]
            refine ⟨fun x hx => ?_, fun hx => ?_⟩
            · split at hx
              · rename_i y z hy hz
                cases hx
                obtain ⟨u, k1, k2⟩ := g2.at hy
                obtain ⟨u', k3, k4⟩ := g4.at hz
                refine ⟨⟨_, _, u, u', g1, g3, k1, k3⟩, fun w H3 hyy => ?_⟩
                obtain ⟨t, z1, z2, rfl, hn, rfl, q1, q2⟩ := hyy
                have e1 := q1 _ g1
                have e2 := q2 _ g3
                rw [k1] at e1
                rw [k3] at e2
                cases e1; cases e2
                obtain ⟨B3, s3, r3, d3⟩ := newT_ok (xs := [y, z]) r2 hn (.cons k2 (.cons k4 .nil))
                exact ⟨B3, s3, r3, d3⟩
              · cases hx
            · refine ⟨_, _, g1, g3, ?_⟩
              rw [← g2.length, ← g4.length]
              split at hx
              · cases hx
              · rename_i hno
                by_cases hlt : i < xs.length
                · by_cases hlt2 : i < ys.length
                  · exact absurd rfl (fun _ : (0 : Nat) = 0 => hno xs[i] ys[i] (by simp [hlt]) (by simp [hlt2]))
                  · exact .inr (by omega)
                · exact .inl (by omega)
      | _ => simp [srcD] at es
    | _ => simp [srcD] at es
end LN

set_option Elab.async false
set_option linter.all false
set_option maxRecDepth 100000
set_option maxHeartbeats 1000000
namespace LN
open PySem L2
variable {W : WP} {B B' : Hp} {μ μ' : List Addr} {S S' : Store} {H H' : Hp} {c : Cn} {T : Tab} {mnm : Nat → Str} {k : Nat} {X : Cx}

/-! ### turns by place -/
def lcG (stp : D → Store → Option (Option D × Store)) (s : Src) : Nat → Nat → Store → Option (List D × Store)
  | 0, _, _ => none
  | n + 1, k, S => match cur s S with
    | some xs => match xs[k]? with
      | none => some ([], S)
      | some x => match stp x S with
        | some (some y, S1) => match lcG stp s n (k + 1) S1 with
          | some (ys, S2) => some (y :: ys, S2)
          | none => none
        | some (none, S1) => lcG stp s n (k + 1) S1
        | none => none
    | none => none
theorem lcL_G {stp : D → Store → Option (Option D × Store)} {xs : List D} : ∀ (l : List D) (k : Nat) (S : Store) (r : List D × Store), xs.drop k = l → lcL stp l S = some r → lcG stp (.items xs) (l.length + 1) k S = some r
  | [], k, S, r, h, e => by
    have : xs[k]? = none := List.getElem?_eq_none_iff.mpr (List.drop_eq_nil_iff.mp h)
    simp only [lcL] at e
    simp only [lcG, cur, this]
    exact e
  | x :: l, k, S, r, h, e => by
    have hx : xs[k]? = some x := by
      have : (xs.drop k)[0]? = some x := by rw [h]; rfl
      rw [List.getElem?_drop] at this
      simpa using this
    have hl : xs.drop (k + 1) = l := by
      have : xs.drop (k + 1) = (xs.drop k).drop 1 := by rw [List.drop_drop, Nat.add_comm]
      rw [this, h]; rfl
    simp only [lcL] at e
    unfold lcG
    simp only [cur, hx]
    split at e
    · rename_i y S1 e1
      try rw [e1]
      split at e
      · rename_i ys S2 e2
        have ih := lcL_G l (k + 1) S1 (ys, S2) hl e2
        simp only [List.length_cons, ih]
        exact e
      · cases e
    · rename_i S1 e1
      try rw [e1]
      have ih := lcL_G l (k + 1) S1 r hl e
      simp only [List.length_cons]
      exact ih
    · cases e
theorem lcC_G {stp : D → Store → Option (Option D × Store)} {i : Nat} : ∀ (n k : Nat) (S : Store), lcC stp i n k S = lcG stp (.cell i) n k S
  | 0, k, S => rfl
  | n + 1, k, S => by
    simp only [lcC, lcG, cur]
    cases h : S[i]? with
    | none => rfl
    | some c => cases c with
      | lst xs =>
        simp only []
        cases hx : xs[k]? with
        | none => rfl
        | some x =>
          simp only []
          cases e : stp x S with
          | none => rfl
          | some p => cases p with
            | mk y S1 => cases y with
              | none => exact lcC_G n (k + 1) S1
              | some y => simp only [lcC_G n (k + 1) S1] <;> try rfl
      | ins _ _ => rfl
      | dct _ => rfl
theorem lcS_G {stp : D → Store → Option (Option D × Store)} {s : Src} {S : Store} {r : List D × Store} (e : lcS stp s S = some r) : ∃ n, lcG stp s n 0 S = some r := by
  cases s with
  | items xs => exact ⟨_, lcL_G xs 0 S r rfl e⟩
  | cell i =>
    simp only [lcS] at e
    split at e
    · rename_i xs h
      exact ⟨_, by rw [← lcC_G]; exact e⟩
    · cases e
theorem Rel.aside {p : Addr} {o : HO} (r : Rel W B μ S H) (hB : B p = none) (hm : p ∉ μ) (hpl : ∀ x, H p = some x → plainO x) : Rel W B μ S (upd H p o) := by
  refine ⟨fun a x h => ?_, r.len, r.nd, fun i a c h1 h2 => ?_, tabs_at r.tb (fun b x hx hn => by
    have ne : b ≠ p := fun q => by subst q; exact hn (hpl x hx)
    rw [upd_ne ne]; exact hx), r.nt⟩
  · have ne : a ≠ p := fun q => by subst q; rw [hB] at h; cases h
    rw [upd_ne ne]; exact r.sub a x h
  · obtain ⟨b, cc⟩ := r.cell i a c h1 h2
    have ne : a ≠ p := fun q => hm (q ▸ List.mem_of_getElem? h1)
    exact ⟨b, cc.at fun o _ h => by rw [upd_ne ne]; exact h⟩
theorem Step.aside {B0 : Hp} {μ0 : List Addr} {H0 : Hp} {p : Addr} {o : HO} (s : Step B0 μ0 H0 B μ H) (h : H0 p = none) : Step B0 μ0 H0 B μ (upd H p o) := by
  refine ⟨s.pre, s.grow, s.new, fun a x ha hm hn => ?_, fun a ha => ?_⟩
  · have ne : a ≠ p := fun q => by subst q; rw [h] at ha; cases ha
    rw [upd_ne ne]; exact s.frame a x ha hm hn
  · by_cases q : a = p
    · subst q; exact fresh_of h
    · exact s.keep a fun x hn e => ha x hn (by rw [upd_ne q]; exact e)
theorem wipe_at {σ : L2.St} : ∀ {vs : List Nat} (j : Nat), (L2.wipe σ vs)[j]? = if j ∈ vs ∧ j < σ.length then some none else σ[j]?
  | [], j => by simp [L2.wipe]
  | v :: vs, j => by
    unfold L2.wipe
    by_cases e : v = j
    · subst e
      by_cases hl : v < σ.length
      · rw [List.getElem?_set_self (by rw [wipe_length]; exact hl), if_pos ⟨by simp, hl⟩]
      · rw [if_neg (fun h => hl h.2)]
        have h1 : σ[v]? = none := List.getElem?_eq_none_iff.mpr (by omega)
        rw [h1]
        exact List.getElem?_eq_none_iff.mpr (by rw [List.length_set, wipe_length]; omega)
    · rw [List.getElem?_set_ne e, wipe_at j]
      have : (j ∈ vs ∧ j < σ.length) ↔ (j ∈ v :: vs ∧ j < σ.length) := by
        simp only [List.mem_cons]
        constructor
        · exact fun h => ⟨.inr h.1, h.2⟩
        · rintro ⟨h | h, g⟩
          · exact absurd h.symm e
          · exact ⟨h, g⟩
      by_cases q : j ∈ vs ∧ j < σ.length
      · rw [if_pos q, if_pos (this.mp q)]
      · rw [if_neg q, if_neg (fun z => q (this.mpr z))]
theorem wipe_off {σ σ' : L2.St} {sl vs : List Nat} (h : OffSl sl (L2.wipe σ vs) σ') (hs : ∀ j ∈ sl, j ∈ vs) : L2.wipe σ' vs = L2.wipe σ vs := by
  apply List.ext_getElem?
  intro j
  rw [wipe_at, wipe_at]
  have hl : σ'.length = σ.length := by rw [h.1, wipe_length]
  rw [hl]
  by_cases q : j ∈ vs ∧ j < σ.length
  · rw [if_pos q, if_pos q]
  · rw [if_neg q, if_neg q]
    by_cases hj : j ∈ sl
    · have hv := hs j hj
      have hlt : ¬ j < σ.length := fun z => q ⟨hv, z⟩
      rw [List.getElem?_eq_none_iff.mpr (by omega), List.getElem?_eq_none_iff.mpr (by omega)]
    · rw [h.2 j hj, wipe_at, if_neg q]
/-- tests of a comprehension -/
def tC1 (W : WP) (ev : EvF Bool) : TT := fun σ H Q => ∃ env S B μ b S', Rel W B μ S H ∧ EnvOk W B μ env σ ∧ ev env S = some (b, S') ∧
  ∀ B' μ' H', Step B μ H B' μ' H' → Rel W B' μ' S' H' → Q b H'
def SndC (c : Cn) (W : WP) (T : Tab) (mnm : Nat → Str) (k : Nat) (es : List Expr) (ie : Option IE) : Prop := ∀ X, CxOk c W T mnm k X → PTs X es (tC1 W (evC T ie))
theorem PTs.imp {X : Cx} {e : List Expr} {t t' : TT} (h : PTs X e t) (kk : ∀ σ H Q, t' σ H Q → t σ H Q) : PTs X e t' := ⟨fun pins s σ H Q I q => h.run pins s σ H Q I (kk _ _ _ q)⟩
theorem sndC_nil : SndC c W T mnm k [] none := fun X ok => PTs.imp pts_nil (by
  rintro σ H Q ⟨env, S, B, μ, b, S', r, eo, ee, q⟩
  simp only [evC] at ee
  cases ee
  exact q _ _ _ (Step.refl ..) r)
theorem sndC_one {e : Expr} {ie : IE} (h : SndE c W T mnm k e ie) : SndC c W T mnm k [e] (some ie) := fun X ok => PTs.imp (pts_one (h X ok).2) (by
  rintro σ H Q ⟨env, S, B, μ, b, S', r, eo, ee, q⟩
  simp only [evC] at ee
  split at ee
  · rename_i b' S1 e1
    cases ee
    exact ⟨env, S, B, μ, _, _, r, eo, e1, q⟩
  · cases ee)

/-! ### the comprehension -/
def lcStp (T : Tab) (tg : Tg) (cd : Option IE) (e : IE) (env : DEnv) : D → Store → Option (Option D × Store) := fun x S2 => match setT S2 tg x env with
  | some env2 => match evC T cd env2 S2 with
    | some (true, S3) => match evE T e env2 S3 with
      | some (y, S4) => some (some y, S4)
      | none => none
    | some (false, S3) => some (none, S3)
    | none => none
  | none => none
theorem run_lc {cell : Bool} {vs : List Nat} {tg : Tg} {kd : Nat} {it : List IE} {cd : Option IE} {e : IE} {σ : L2.St} {H : Hp} {Q : VK} (hsl : ∀ j ∈ slots tg, j ∈ vs) (h : tE W (evE T (.lc cell vs tg kd it cd e)) σ H Q) :
    tLc (tI W kd (evL T it)) (tG W tg) (tC1 W (evC T cd)) (tE W (evE T e)) vs σ H Q := by
  obtain ⟨env, S, B, μ, d, S', r, eo, ee, q⟩ := h
  simp only [evE] at ee
  split at ee
  · rename_i ds S1 e1
    split at ee
    · rename_i s e2
      split at ee
      · rename_i ys S5 e3
        split at ee
        · rename_i hz
          have ee := Option.some.inj ee
          obtain ⟨n0, e4⟩ := lcS_G (stp := lcStp T tg cd e (wipeD env vs)) e3
          refine ⟨env, S, B, μ, ds, S1, s, r, eo, e1, e2, fun B1 μ1 H1 J s1 r1 jo => ?_⟩
          intro D0 hD
          have hB1 : B1 D0 = none := by
            cases q : B1 D0 with
            | none => rfl
            | some x => rw [r1.sub _ _ q] at hD; cases hD
          have hm1 : D0 ∉ μ1 := fun hm => by
            obtain ⟨_, o, eo⟩ := r1.mem hm
            rw [hD] at eo; cases eo
          -- the word of the turn
          refine ⟨fun i m Hc => ∃ Bc μc Sc acc accD rest, Rel W Bc μc Sc Hc ∧ Step B1 μ1 H1 Bc μc Hc ∧ Bc D0 = none ∧ D0 ∉ μc ∧ Hc D0 = some (.lst acc) ∧ DenL W Bc μc accD acc ∧ accD ++ rest = ys ∧ lcG (lcStp T tg cd e (wipeD env vs)) s m i Sc = some (rest, S5), ⟨n0, B1, μ1, S1, [], [], ys, r1.aside hB1 hm1 (fun x e => by rw [hD] at e; cases e), (Step.refl ..).aside hD, hB1, hm1, upd_same, .nil, rfl, e4⟩, ?_⟩
          rintro i m Hc ⟨Bc, μc, Sc, acc, accD, rest, rc, sc, hBc, hmc, hDc, dc, erest, eg⟩
          cases m with
          | zero => cases eg
          | succ m =>
            simp only [lcG] at eg
            split at eg
            · rename_i xs ecur
              have jj := jo Bc μc Sc Hc xs sc.grow sc.p rc ecur i
              split at eg
              · -- the end
                rename_i hx
                cases eg
                refine .inl ⟨jj.2 hx, ?_⟩
                rw [List.append_nil] at erest
                subst erest
                cases cell with
                | false =>
                  cases ee
                  have ex : Ex Bc (upd Bc D0 (.lst acc)) := Ex.new hBc
                  have rr : Rel W (upd Bc D0 (.lst acc)) μc S' Hc := by
                    refine ⟨fun a x ha => ?_, rc.len, rc.nd, fun j a cc g1 g2 => ?_, rc.tb, nt_upd rc.nt (fun _ e => by cases e)⟩
                    · by_cases qa : a = D0
                      · subst qa; rw [upd_same] at ha; cases ha; exact hDc
                      · rw [upd_ne qa] at ha; exact rc.sub a x ha
                    · obtain ⟨b1, b2⟩ := rc.cell j a cc g1 g2
                      have ne : a ≠ D0 := fun qa => hmc (qa ▸ List.mem_of_getElem? g1)
                      exact ⟨by rw [upd_ne ne]; exact b1, b2.mono ex (Pre.refl _)⟩
                  refine q _ _ _ _ (s1.trans ⟨sc.pre, sc.grow.trans ex, fun a x ha => ?_, sc.frame, sc.keep⟩) rr (.lst upd_same (DenL.mono ex (Pre.refl _) _ _ dc))
                  by_cases qa : a = D0
                  · subst qa; exact .inr (fresh_of hD)
                  · rw [upd_ne qa] at ha; exact sc.new a x ha
                | true =>
                  cases ee
                  obtain ⟨ν, eν, hν⟩ := sc.pre
                  have hp : Pre μc (μc ++ [D0]) := ⟨[D0], rfl⟩
                  have hix : (μc ++ [D0])[S5.length]? = some D0 := by rw [← rc.len]; simp
                  have rr : Rel W Bc (μc ++ [D0]) (S5 ++ [.lst accD]) Hc := by
                    refine ⟨rc.sub, by simp [rc.len], ?_, fun j a cc g1 g2 => ?_, rc.tb, rc.nt⟩
                    · rw [List.nodup_append]
                      exact ⟨rc.nd, by simp, fun a ha b hb => by simp at hb; subst hb; exact fun e => hmc (e ▸ ha)⟩
                    · by_cases hj : j < μc.length
                      · rw [List.getElem?_append_left hj] at g1
                        rw [List.getElem?_append_left (by rw [← rc.len]; exact hj)] at g2
                        obtain ⟨b1, b2⟩ := rc.cell j a cc g1 g2
                        exact ⟨b1, b2.mono (Ex.refl _) hp⟩
                      · have ej : j = μc.length := by
                          have := (List.getElem?_eq_some_iff.mp g1).1
                          simp at this; omega
                        subst ej
                        rw [List.getElem?_append_right (Nat.le_refl _)] at g1
                        rw [rc.len, List.getElem?_append_right (Nat.le_refl _)] at g2
                        simp at g1 g2
                        subst g1 g2
                        exact ⟨hBc, acc, hDc, DenL.mono (Ex.refl _) hp _ _ dc⟩
                  refine q _ _ _ _ (s1.trans ⟨⟨ν ++ [D0], by rw [eν, List.append_assoc], fun a ha => ?_⟩, sc.grow, sc.new, sc.frame, sc.keep⟩) rr (.obj hix)
                  rcases List.mem_append.mp ha with ha | ha
                  · exact hν a ha
                  · simp at ha; subst ha; exact fresh_of hD
              · -- a turn
                rename_i x hx
                have go := jj.1 x hx
                refine .inr ⟨go.1, fun Hn => ∃ m', m' < m + 1 ∧ ∃ Bc μc Sc acc accD rest, Rel W Bc μc Sc Hn ∧ Step B1 μ1 H1 Bc μc Hn ∧ Bc D0 = none ∧ D0 ∉ μc ∧ Hn D0 = some (.lst acc) ∧ DenL W Bc μc accD acc ∧ accD ++ rest = ys ∧ lcG (lcStp T tg cd e (wipeD env vs)) s m' (i + 1) Sc = some (rest, S5), fun Hn hn => hn, ?_⟩
                intro v Hy hy
                obtain ⟨By, sy, ry, dy⟩ := go.2 v Hy hy
                have keepD : ∀ {Bz : Hp} {μz : List Addr} {Hz : Hp}, Step Bc μc Hc Bz μz Hz → Bz D0 = none ∧ D0 ∉ μz ∧ Hz D0 = some (.lst acc) := fun {Bz μz Hz} sz => by
                  refine ⟨?_, ?_, sz.frame _ _ hDc hmc (fun _ e => by cases e)⟩
                  · cases qq : Bz D0 with
                    | none => rfl
                    | some w =>
                      rcases sz.new _ _ qq with h | h
                      · rw [hBc] at h; cases h
                      · exact (h.no (fun _ e => by cases e) hDc).elim
                  · obtain ⟨ν, eν, hν⟩ := sz.pre
                    rw [eν]
                    intro hm
                    rcases List.mem_append.mp hm with h | h
                    · exact hmc h
                    · exact (hν _ h).no (fun _ e => by cases e) hDc
                split at eg
                · -- kept
                  rename_i y S4 estp
                  split at eg
                  · rename_i rest' S6 eg2
                    have e6 : y :: rest' = rest ∧ S6 = S5 := by cases eg; exact ⟨rfl, rfl⟩
                    obtain ⟨e6, e7⟩ := e6
                    subst e6 e7
                    unfold lcStp at estp
                    split at estp
                    · rename_i env2 eset
                      have eoy := ((eo.step s1).mono sc.grow sc.p).step sy
                      refine ⟨By, μc, Sc, wipeD env vs, x, env2, ry, eoy.wipe vs, dy, eset, fun σ2 eo2 off2 => ⟨wipe_off off2 hsl, ?_⟩⟩
                      split at estp
                      · rename_i S3 ec
                        refine ⟨env2, Sc, By, μc, true, S3, ry, eo2, ec, fun B3 μ3 H3 s3 r3 => ?_⟩
                        refine iteT ?_
                        split at estp
                        · rename_i y' S4' ev
                          cases estp
                          refine ⟨env2, S3, B3, μ3, y, S4, r3, eo2.step s3, ev, fun B4 μ4 H4 w s4 r4 d4 => ?_⟩
                          have st := (sy.trans s3).trans s4
                          obtain ⟨k1, k2, k3⟩ := keepD st
                          have dl : accD.length < 100000 := by
                            have : accD.length + (1 + rest'.length) = ys.length := by rw [← erest]; simp; omega
                            have hz := of_decide_eq_true hz
                            omega
                          refine ⟨acc, k3, by rw [← dc.length]; exact Nat.lt_of_lt_of_le dl (by decide), ?_⟩
                          exact ⟨m, Nat.lt_succ_self _, B4, μ4, S4, acc ++ [w], accD ++ [y], rest', r4.aside k1 k2 (fun x e => by rw [k3] at e; cases e; trivial), (sc.trans st).aside hD, k1, k2, upd_same, (DenL.mono st.grow st.p _ _ dc).append (.cons d4 .nil), by simpa using erest, eg2⟩
                        · cases estp
                      · cases estp
                      · cases estp
                    · cases estp
                  · cases eg
                · -- left out
                  rename_i S4 estp
                  unfold lcStp at estp
                  split at estp
                  · rename_i env2 eset
                    have eoy := ((eo.step s1).mono sc.grow sc.p).step sy
                    refine ⟨By, μc, Sc, wipeD env vs, x, env2, ry, eoy.wipe vs, dy, eset, fun σ2 eo2 off2 => ⟨wipe_off off2 hsl, ?_⟩⟩
                    split at estp
                    · split at estp <;> cases estp
                    · rename_i S3 ec
                      cases estp
                      refine ⟨env2, Sc, By, μc, false, S4, ry, eo2, ec, fun B3 μ3 H3 s3 r3 => ?_⟩
                      refine iteF ?_
                      have st := sy.trans s3
                      obtain ⟨k1, k2, k3⟩ := keepD st
                      exact ⟨m, Nat.lt_succ_self _, B3, μ3, S4, acc, accD, rest, r3, sc.trans st, k1, k2, k3, DenL.mono st.grow st.p _ _ dc, erest, eg⟩
                    · cases estp
                  · cases estp
                · cases eg
            · cases eg
        · cases ee
      · cases ee
    · cases ee
  · cases ee
/-- the block's names -/
def blkCn (c : Cn) (scope : Scope) : Cn := { c with sc := relS scope c.sc, blk := some scope, lam := false }
theorem blk_ok {scope : Scope} {s : Shared} {H : Hp} {C : Addr} {cl : List (Str × Addr)} {fp : List Addr} (ok : CxOk c W T mnm k X) : CxOk (blkCn c scope) W T mnm k (X.blk s H scope (compEnvC scope cl C X.env) fp) := by
  refine ⟨ok.hN, ?_, fun x h => ?_, ok.nd, ok.calm, ok.room, ok.hK, rfl, fun x g h => ?_, ⟨ok.kk.inj, ok.kk.nmf, ok.kk.cls, ok.kk.fld, ok.kk.mth, ok.kk.ins, ok.kk.kit, ok.kk.kit2⟩, fun h => by cases h⟩
  · show relS scope X.env.scope = relS scope c.sc
    rw [ok.hs]
  · exact h
  · have := ok.gl x g h
    cases g <;> exact this
theorem snd_lc {elt tg iter : Expr} {ifs : List Expr} {scope : Scope} {own : List (Str × Nat)} {pos : Pos} {itg : Tg} {kd : Nat} {it : List IE} {cd : Option IE} {ie : IE} {cell : Bool} (hb : blkC c.N c.sc scope own = true) (hsl : (slots itg).all (fun j => (own.map (·.2)).contains j) = true)
    (hi : SndI c W T mnm k tg iter kd it) (hg : SndG (blkCn c scope) W T mnm k tg itg) (hc : SndC (blkCn c scope) W T mnm k ifs cd) (he : SndE (blkCn c scope) W T mnm k elt ie) :
    SndE c W T mnm k (.ListComp elt [⟨tg, iter, ifs, 0⟩] scope pos) (.lc cell (own.map (·.2)) itg kd it cd ie) := by
  refine snd_of (fun X ok => PE.imp (pe_lc ok.calm (by rw [ok.hN]; exact ok.nd) (hi.1 X ok) (blkOk_by (by rw [ok.hN, ok.hs]; exact hb)) (fun s H C cl fp => hg.1 _ (blk_ok ok)) (fun s H C cl fp => hc _ (blk_ok ok)) (fun s H C cl fp => (he _ (blk_ok ok)).1) (fold_of hi.2)) fun σ H Q q => run_lc ?_ q) fun _ _ => rfl
  intro j hj
  have := List.all_eq_true.mp hsl j hj
  simpa using this
end LN

set_option Elab.async false
set_option linter.all false
set_option maxRecDepth 100000
set_option maxHeartbeats 1000000
namespace LN
open PySem L2
variable {W : WP} {B B' : Hp} {μ μ' : List Addr} {S S' : Store} {H H' : Hp} {c : Cn} {T : Tab} {mnm : Nat → Str} {k : Nat} {X : Cx}

/-! ### what is asked of a statement -/
def Fin1 (W : WP) (D : Ends) (B : Hp) (μ : List Addr) (H : Hp) : O → Prop
  | .nx env S => Rel W B μ S H → ∀ σ, EnvOk W B μ env σ → D.nx σ H
  | .rt d S => Rel W B μ S H → ∀ v, Den W B μ d v → D.rt v H
  | .br env S => Rel W B μ S H → ∀ σ, EnvOk W B μ env σ → D.bk σ H
  | .ct env S => Rel W B μ S H → ∀ σ, EnvOk W B μ env σ → D.ct σ H
def Fin (W : WP) (D : Ends) (B : Hp) (μ : List Addr) (H : Hp) (o : O) : Prop := ∀ B' μ' H', Step B μ H B' μ' H' → Fin1 W D B' μ' H' o
theorem Fin.step {D : Ends} {o : O} (h : Fin W D B μ H o) (s : Step B μ H B' μ' H') : Fin W D B' μ' H' o := fun _ _ _ t => h _ _ _ (s.trans t)
def tS (W : WP) (ev : DEnv → Store → Option O) : TS := fun D σ H => ∃ env S B μ o, Rel W B μ S H ∧ EnvOk W B μ env σ ∧ ev env S = some o ∧ Fin W D B μ H o
def SndS (c : Cn) (W : WP) (T : Tab) (mnm : Nat → Str) (k : Nat) (st : Stmt) (is : IS) : Prop := ∀ X, CxOk c W T mnm k X → PS X st (tS W (ex T is))
def SndSs (c : Cn) (W : WP) (T : Tab) (mnm : Nat → Str) (k : Nat) (st : List Stmt) (is : List IS) : Prop := ∀ X, CxOk c W T mnm k X → PSs X st (tS W (exL T is))
theorem PS.imp {X : Cx} {st : Stmt} {t t' : TS} (h : PS X st t) (kk : ∀ D σ H, t' D σ H → t D σ H) : PS X st t' := ⟨fun pins s σ H D I q => h.run pins s σ H D I (kk _ _ _ q)⟩
theorem PSs.imp {X : Cx} {st : List Stmt} {t t' : TS} (h : PSs X st t) (kk : ∀ D σ H, t' D σ H → t D σ H) : PSs X st t' := ⟨fun pins s σ H D I q => h.run pins s σ H D I (kk _ _ _ q)⟩

theorem sndSs_nil : SndSs c W T mnm k [] [] := fun X ok => PSs.imp pss_nil (by
  rintro D σ H ⟨env, S, B, μ, o, r, eo, e, q⟩
  simp only [exL] at e
  cases e
  exact q _ _ _ (Step.refl ..) r σ eo)
theorem sndSs_cons {st : Stmt} {sts : List Stmt} {is : IS} {iss : List IS} (h : SndS c W T mnm k st is) (hs : SndSs c W T mnm k sts iss) : SndSs c W T mnm k (st :: sts) (is :: iss) := fun X ok => PSs.imp (pss_cons (h X ok) (hs X ok)) (by
  rintro D σ H ⟨env, S, B, μ, o, r, eo, e, q⟩
  simp only [exL] at e
  split at e
  · rename_i env1 S1 e1
    exact ⟨env, S, B, μ, _, r, eo, e1, fun B1 μ1 H1 s1 r1 σ1 eo1 => ⟨env1, S1, B1, μ1, o, r1, eo1, e, q.step s1⟩⟩
  · rename_i e1; cases e
    exact ⟨env, S, B, μ, _, r, eo, e1, q⟩
  · rename_i e1; cases e
    exact ⟨env, S, B, μ, _, r, eo, e1, q⟩
  · rename_i e1; cases e
    exact ⟨env, S, B, μ, _, r, eo, e1, q⟩
  · cases e)
theorem snd_pass {pos : Pos} : SndS c W T mnm k (.Pass pos) .pass := fun X ok => PS.imp ps_pass (by
  rintro D σ H ⟨env, S, B, μ, o, r, eo, e, q⟩
  simp only [ex] at e
  cases e
  exact q _ _ _ (Step.refl ..) r σ eo)
theorem snd_doc {x : Str} {j : Nat} {pos pos' : Pos} : SndS c W T mnm k (.Expr (.Constant (.str x) j pos) pos') .pass := fun X ok => PS.imp ps_doc (by
  rintro D σ H ⟨env, S, B, μ, o, r, eo, e, q⟩
  simp only [ex] at e
  cases e
  exact q _ _ _ (Step.refl ..) r σ eo)
theorem snd_brk {pos : Pos} : SndS c W T mnm k (.Break pos) .brk := fun X ok => PS.imp ps_break (by
  rintro D σ H ⟨env, S, B, μ, o, r, eo, e, q⟩
  simp only [ex] at e
  cases e
  exact q _ _ _ (Step.refl ..) r σ eo)
theorem snd_cnt {pos : Pos} : SndS c W T mnm k (.Continue pos) .cnt := fun X ok => PS.imp ps_continue (by
  rintro D σ H ⟨env, S, B, μ, o, r, eo, e, q⟩
  simp only [ex] at e
  cases e
  exact q _ _ _ (Step.refl ..) r σ eo)
theorem snd_nev {st : Stmt} : SndS c W T mnm k st .nev := fun X ok => PS.imp ps_never (by
  rintro D σ H ⟨env, S, B, μ, o, r, eo, e, q⟩
  simp only [ex] at e
  cases e)
theorem snd_ret {e : Expr} {ie : IE} {pos : Pos} (he : SndE c W T mnm k e ie) : SndS c W T mnm k (.Return (some e) pos) (.ret ie) := fun X ok => PS.imp (ps_ret (he X ok).1) (by
  rintro D σ H ⟨env, S, B, μ, o, r, eo, e, q⟩
  simp only [ex] at e
  split at e
  · rename_i d S1 e1
    cases e
    exact ⟨env, S, B, μ, d, S1, r, eo, e1, fun B' μ' H' v s1 r1 d1 => q _ _ _ s1 r1 v d1⟩
  · cases e)
theorem snd_retN {pos : Pos} : SndS c W T mnm k (.Return none pos) (.ret (.con .non)) := fun X ok => PS.imp ps_retN (by
  rintro D σ H ⟨env, S, B, μ, o, r, eo, e, q⟩
  simp only [ex, evE] at e
  cases e
  exact q _ _ _ (Step.refl ..) r _ .non)
theorem snd_if {t : Expr} {a b : List Stmt} {it : IE} {ia ib : List IS} {pos : Pos} (ht : SndE c W T mnm k t it) (ha : SndSs c W T mnm k a ia) (hb : SndSs c W T mnm k b ib) : SndS c W T mnm k (.If t a b pos) (.ite it ia ib) := fun X ok => PS.imp (ps_if (ht X ok).2 (ha X ok) (hb X ok)) (by
  rintro D σ H ⟨env, S, B, μ, o, r, eo, e, q⟩
  simp only [ex] at e
  split at e
  · rename_i S1 e1
    exact ⟨env, S, B, μ, true, S1, r, eo, e1, fun B1 μ1 H1 s1 r1 => iteT ⟨env, S1, B1, μ1, o, r1, eo.step s1, e, q.step s1⟩⟩
  · rename_i S1 e1
    exact ⟨env, S, B, μ, false, S1, r, eo, e1, fun B1 μ1 H1 s1 r1 => iteF ⟨env, S1, B1, μ1, o, r1, eo.step s1, e, q.step s1⟩⟩
  · cases e)
def notComp : Expr → Bool
  | .ListComp _ _ _ _ => false
  | .SetComp _ _ _ _ => false
  | .DictComp _ _ _ _ _ => false
  | _ => true
theorem sw_off {e : Expr} {tg : Option Expr} {l : Nat} {env : Env} (h : notComp e = true) : swapsWith e tg l env = pure false := by
  cases e <;> first | rfl | cases h
theorem sw_offA {e o : Expr} {f : Str} {p : Pos} {l : Nat} {env : Env} : swapsWith e (some (.Attribute o f p)) l env = pure false := by
  cases e <;> rfl
theorem sw_offI {e o i : Expr} {p : Pos} {l : Nat} {env : Env} : swapsWith e (some (.Subscript o i p)) l env = pure false := by
  cases e <;> rfl
/-- nothing is swapped here -/
def swOffB (c : Cn) (t e : Expr) : Bool := notComp e || (match t with
  | .Name x _ => !(match c.sc.names.lookup x with | some .local => true | _ => false)
  | .Tuple _ _ _ => true
  | _ => false)
theorem sw_offB {t e : Expr} {l : Nat} (ok : CxOk c W T mnm k X) (h : swOffB c t e = true) : swapsWith e (some t) l X.env = pure false := by
  unfold swOffB at h
  rw [Bool.or_eq_true] at h
  rcases h with h | h
  · exact sw_off h
  · split at h
    · rename_i x p
      have hx : (X.env.kindOf x == some .local) = false := by
        show (X.env.scope.names.lookup x == some .local) = false
        rw [ok.hs]
        revert h
        cases c.sc.names.lookup x with
        | none => intro _; rfl
        | some kd => cases kd <;> first | (intro h; cases h; done) | (intro _; rfl)
      unfold swapsWith
      cases e <;> first | rfl | (simp only [hx]; simp)
    · cases e <;> rfl
    · cases h
theorem snd_drop {e : Expr} {ie : IE} {pos : Pos} (hn : notComp e = true) (he : SndE c W T mnm k e ie) : SndS c W T mnm k (.Expr e pos) (.drop ie) := fun X ok => PS.imp (ps_expr (he X ok).1 (sw_off hn)) (by
  rintro D σ H ⟨env, S, B, μ, o, r, eo, e, q⟩
  simp only [ex] at e
  split at e
  · rename_i d S1 e1
    cases e
    exact ⟨env, S, B, μ, d, S1, r, eo, e1, fun B' μ' H' v s1 r1 d1 => q _ _ _ s1 r1 σ (eo.step s1)⟩
  · cases e)

/-! ### assignments -/
def notTup : Expr → Bool
  | .Tuple _ _ _ => false
  | .List _ _ => false
  | _ => true
theorem run_asg {tg : Tg} {ie : IE} {D : Ends} {σ : L2.St} {H : Hp} (h : tS W (ex T (.asg tg ie)) D σ H) : tAsg (tE W (evE T ie)) (tG W tg) D σ H := by
  obtain ⟨env, S, B, μ, o, r, eo, e, q⟩ := h
  simp only [ex] at e
  split at e
  · rename_i d S1 e1
    split at e
    · rename_i env1 e2
      cases e
      exact ⟨env, S, B, μ, d, S1, r, eo, e1, fun B' μ' H' v s1 r1 d1 => ⟨B', μ', S1, env, d, env1, r1, eo.step s1, d1, e2, fun σ' eo' _ => q _ _ _ s1 r1 σ' eo'⟩⟩
    · cases e
  · cases e
theorem one_star {t : Expr} {env : Env} (h : nstar t = true) : (assignEach [t] env).map (·.2) = [assign t env] := by
  cases t <;> first | rfl | cases h
theorem snd_asg {t e : Expr} {tg : Tg} {ie : IE} {pos : Pos} (hn : swOffB c t e = true) (h2 : (notTup t || notTup e) = true) (ht : SndG c W T mnm k t tg) (he : SndE c W T mnm k e ie) : SndS c W T mnm k (.Assign [t] e pos) (.asg tg ie) := fun X ok =>
  PS.imp (ps_asg (he X ok).1 (ht.1 X ok) (sw_offB ok hn) (by
    cases t <;> first | rfl | (cases e <;> first | rfl | cases h2)) (one_star ht.2)) fun D σ H h => run_asg h
/-- a name that takes a comprehension on its line -/
def swC (c : Cn) (x : Str) (own : Scope) (py pos : Pos) : Bool := (match c.sc.kind with | .function => true | _ => false) && (match c.sc.names.lookup x with | some .local => true | _ => false) && (py.line == pos.line) && !(own.names.any fun (n, k) => n == x && (k == .local || k == .cell))
theorem snd_asgLc {x : Str} {i : Nat} {py : Pos} {elt tg iter : Expr} {ifs : List Expr} {scope : Scope} {own : List (Str × Nat)} {pos spos : Pos} {itg : Tg} {kd : Nat} {it : List IE} {cd : Option IE} {ie : IE} {cell : Bool} (hi : c.N[i]? = some x) (hsw : swC c x scope py pos = true)
    (hb : blkC c.N c.sc scope own = true) (hsl : (slots itg).all (fun j => (own.map (·.2)).contains j) = true)
    (hit : SndI c W T mnm k tg iter kd it) (hg : SndG (blkCn c scope) W T mnm k tg itg) (hc : SndC (blkCn c scope) W T mnm k ifs cd) (he : SndE (blkCn c scope) W T mnm k elt ie) :
    SndS c W T mnm k (.Assign [.Name x py] (.ListComp elt [⟨tg, iter, ifs, 0⟩] scope pos) spos) (.asg (.nm i) (.lc cell (own.map (·.2)) itg kd it cd ie)) := fun X ok => by
  unfold swC at hsw
  rw [Bool.and_eq_true, Bool.and_eq_true, Bool.and_eq_true] at hsw
  obtain ⟨⟨⟨h1, h2⟩, h3⟩, h4⟩ := hsw
  have hk : X.env.scope.kind = .function := by
    rw [ok.hs]; revert h1; split <;> intro h1
    · assumption
    · cases h1
  have hl : X.env.scope.names.lookup x = some .local := by
    rw [ok.hs]; revert h2; split <;> intro h2
    · assumption
    · cases h2
  refine PS.imp (ps_setLc ok.calm (by rw [ok.hN]; exact ok.nd) (by rw [ok.hN]; exact hi) hl (sw_true hk hl h3 (by simpa using h4)) (hit.1 X ok) (blkOk_by (by rw [ok.hN, ok.hs]; exact hb)) (fun s H C cl fp => hg.1 _ (blk_ok ok)) (fun s H C cl fp => hc _ (blk_ok ok)) (fun s H C cl fp => (he _ (blk_ok ok)).1) (fold_of hit.2)) ?_
  intro D σ H h
  have g := run_asg h
  refine run_lc (cell := cell) ?_ ?_
  · intro j hj
    have := List.all_eq_true.mp hsl j hj
    simpa using this
  · obtain ⟨env, S, B, μ, d, S', r, eo, ee, q⟩ := g
    refine ⟨env, S, B, μ, d, S', r, eo, ee, fun B' μ' H' v s1 r1 d1 => ?_⟩
    obtain ⟨B2, μ2, S2, env2, d2, env', r2, eo2, hd2, es, q2⟩ := q B' μ' H' v s1 r1 d1
    simp only [setT] at es
    cases es
    exact q2 _ (eo2.set hd2) ⟨by simp, fun j hj => by rw [List.getElem?_set_ne]; simp [slots] at hj; exact Ne.symm hj⟩
/-- a, b = x, y -/
def isLoc (c : Cn) (x : Str) : Bool := match c.sc.names.lookup x with | some .local => true | _ => false
theorem loc_lk {x : Str} (h : isLoc c x = true) : c.sc.names.lookup x = some .local := by
  unfold isLoc at h
  split at h
  · assumption
  · cases h
def fnK (c : Cn) : Bool := match c.sc.kind with | .function => true | _ => false
theorem fn_kind (h : fnK c = true) : c.sc.kind = .function := by
  unfold fnK at h
  split at h
  · assumption
  · cases h
def notStar : Expr → Bool
  | .Starred _ _ => false
  | _ => true
theorem any_star : ∀ {es : List Expr}, es.all nstar = true → (es.any fun | .Starred .. => true | _ => false) = false
  | [], _ => rfl
  | e :: es, h => by
    rw [List.all_cons, Bool.and_eq_true] at h
    rw [List.any_cons, any_star h.2]
    cases e <;> first | rfl | cases h.1
theorem swap2 {x y : Str} {px py pt : Pos} {kt k2 : Nat} {pt2 : Pos} {a b : Expr} (ok : CxOk c W T mnm k X) (hf : fnK c = true) (hx : isLoc c x = true) (hy : isLoc c y = true) (hne : (x == y) = false) (hl : (py.line == px.line) = true) (hs : [a, b].all nstar = true)
    (h8 : [a, b].all (foldedForSure 8) = false) (h9 : [a, b].all (constantsAlone 8) = false) : swappedStores [.Tuple [.Name x px, .Name y py] kt pt] (.Tuple [a, b] k2 pt2) X.env = pure (some [x, y]) := by
  have hb : X.env.blockKind = .function := by unfold Env.blockKind; rw [ok.hs, fn_kind hf]; rfl
  have kx : X.env.kindOf x = some .local := by show X.env.scope.names.lookup x = _; rw [ok.hs]; exact loc_lk hx
  have ky : X.env.kindOf y = some .local := by show X.env.scope.names.lookup y = _; rw [ok.hs]; exact loc_lk hy
  have e1 : (py.line == px.line) = true := hl
  have hst := any_star hs
  have dd : ([x, y] : List Str).eraseDups.length = 2 := by
    have : ([x, y] : List Str).eraseDups = [x, y] := by
      rw [List.eraseDups_cons]
      have : ([y] : List Str).filter (fun b => !b == x) = [y] := by
        have : (y == x) = false := by
          cases q : (y == x) with
          | false => rfl
          | true => rw [beq_iff_eq] at q; subst q; simp at hne
        simp [List.filter, this]
      rw [this]
      rfl
    rw [this]; rfl
  unfold swappedStores
  simp only [hb, kx, ky, e1, List.length_cons, List.length_nil, List.head?_cons, Option.map_some, Option.getD_some, Expr.pos, List.filterMap_cons, List.filterMap_nil, hst, h8, h9]
  simp [dd]
  intro h
  rw [List.all_cons, List.all_cons, Bool.and_eq_true, Bool.and_eq_true] at hs
  rcases h with h | h
  · cases a <;> first | (cases h; done) | (cases hs.1)
  · cases b <;> first | (cases h; done) | (cases hs.2.1)
theorem snd_par2 {x y : Str} {i j : Nat} {px py pt : Pos} {kt k2 : Nat} {pt2 pos : Pos} {a b : Expr} {ies : List IE} (hf : fnK c = true) (hi : c.N[i]? = some x) (hj : c.N[j]? = some y) (hij : i ≠ j) (hx : isLoc c x = true) (hy : isLoc c y = true) (hne : (x == y) = false) (hl : (py.line == px.line) = true)
    (h8 : [a, b].all (foldedForSure 8) = false) (h9 : [a, b].all (constantsAlone 8) = false) (hs : SndL c W T mnm k [a, b] ies) :
    SndS c W T mnm k (.Assign [.Tuple [.Name x px, .Name y py] kt pt] (.Tuple [a, b] k2 pt2) pos) (.par [i, j] ies) := fun X ok =>
  PS.imp (ps_par ok.calm (by rw [ok.hN]; exact ok.nd) (by rw [ok.hN]; exact hi) (by rw [ok.hN]; exact hj) hij (by rw [ok.hs]; exact loc_lk hx) (by rw [ok.hs]; exact loc_lk hy) (hs.1 X ok) (swap2 ok hf hx hy hne hl hs.2 h8 h9)) (by
  rintro D σ H ⟨env, S, B, μ, o, r, eo, e, q⟩
  simp only [ex] at e
  split at e
  · rename_i ds S1 e1
    split at e
    · rename_i env1 e2
      cases e
      refine ⟨env, S, B, μ, ds, S1, r, eo, e1, fun B' μ' H' vs s1 r1 dl => ?_⟩
      cases ds with
      | nil => simp [setP] at e2
      | cons d1 ds => cases ds with
        | nil => simp [setP] at e2
        | cons d2 ds => cases ds with
          | cons _ _ => simp [setP] at e2
          | nil =>
            simp only [setP] at e2
            cases e2
            cases dl with | cons h1 dl => cases dl with | cons h2 dl => cases dl with | nil =>
              exact ⟨_, _, rfl, q _ _ _ s1 r1 _ (((eo.step s1).set h1).set h2)⟩
    · cases e
  · cases e)
theorem eraseDups3 {x y z : Str} (h1 : (x == y) = false) (h2 : (x == z) = false) (h3 : (y == z) = false) : ([x, y, z] : List Str).eraseDups.length = 3 := by
  have sy : ∀ {a b : Str}, (a == b) = false → (b == a) = false := fun {a b} h => by
    cases q : (b == a) with
    | false => rfl
    | true => rw [beq_iff_eq] at q; subst q; simp at h
  rw [List.eraseDups_cons]
  have e1 : ([y, z] : List Str).filter (fun b => !b == x) = [y, z] := by simp [List.filter, sy h1, sy h2]
  rw [e1, List.eraseDups_cons]
  have e2 : ([z] : List Str).filter (fun b => !b == y) = [z] := by simp [List.filter, sy h3]
  rw [e2]
  rfl
theorem swap3 {x y z : Str} {px py pz pt : Pos} {kt k2 : Nat} {pt2 : Pos} {a b d : Expr} (ok : CxOk c W T mnm k X) (hf : fnK c = true) (hx : isLoc c x = true) (hy : isLoc c y = true) (hz : isLoc c z = true) (h1 : (x == y) = false) (h2 : (x == z) = false) (h3 : (y == z) = false) (hl : (py.line == px.line) = true) (hl2 : (pz.line == px.line) = true) (hs : [a, b, d].all nstar = true)
    (h8 : [a, b, d].all (foldedForSure 8) = false) (h9 : [a, b, d].all (constantsAlone 8) = false) : swappedStores [.Tuple [.Name x px, .Name y py, .Name z pz] kt pt] (.Tuple [a, b, d] k2 pt2) X.env = pure (some [x, y, z]) := by
  have hb : X.env.blockKind = .function := by unfold Env.blockKind; rw [ok.hs, fn_kind hf]; rfl
  have kx : X.env.kindOf x = some .local := by show X.env.scope.names.lookup x = _; rw [ok.hs]; exact loc_lk hx
  have ky : X.env.kindOf y = some .local := by show X.env.scope.names.lookup y = _; rw [ok.hs]; exact loc_lk hy
  have kz : X.env.kindOf z = some .local := by show X.env.scope.names.lookup z = _; rw [ok.hs]; exact loc_lk hz
  have dd := eraseDups3 h1 h2 h3
  have hst := any_star hs
  unfold swappedStores
  simp only [hb, kx, ky, kz, hl, hl2, List.length_cons, List.length_nil, List.head?_cons, Option.map_some, Option.getD_some, Expr.pos, List.filterMap_cons, List.filterMap_nil, hst, h8, h9]
  simp [dd]
  intro h
  rw [List.all_cons, List.all_cons, List.all_cons, Bool.and_eq_true, Bool.and_eq_true, Bool.and_eq_true] at hs
  rcases h with h | h | h
  · cases a <;> first | (cases h; done) | (cases hs.1)
  · cases b <;> first | (cases h; done) | (cases hs.2.1)
  · cases d <;> first | (cases h; done) | (cases hs.2.2.1)
theorem snd_par3 {x y z : Str} {i j l : Nat} {px py pz pt : Pos} {kt k2 : Nat} {pt2 pos : Pos} {a b d : Expr} {ies : List IE} (hf : fnK c = true) (hi : c.N[i]? = some x) (hj : c.N[j]? = some y) (hk : c.N[l]? = some z) (hij : i ≠ j) (hil : i ≠ l) (hjl : j ≠ l) (hx : isLoc c x = true) (hy : isLoc c y = true) (hz : isLoc c z = true)
    (h1 : (x == y) = false) (h2 : (x == z) = false) (h3 : (y == z) = false) (hl : (py.line == px.line) = true) (hl2 : (pz.line == px.line) = true)
    (h8 : [a, b, d].all (foldedForSure 8) = false) (h9 : [a, b, d].all (constantsAlone 8) = false) (hs : SndL c W T mnm k [a, b, d] ies) :
    SndS c W T mnm k (.Assign [.Tuple [.Name x px, .Name y py, .Name z pz] kt pt] (.Tuple [a, b, d] k2 pt2) pos) (.par [i, j, l] ies) := fun X ok =>
  PS.imp (ps_par3 ok.calm (by rw [ok.hN]; exact ok.nd) (by rw [ok.hN]; exact hi) (by rw [ok.hN]; exact hj) (by rw [ok.hN]; exact hk) hij hil hjl (by rw [ok.hs]; exact loc_lk hx) (by rw [ok.hs]; exact loc_lk hy) (by rw [ok.hs]; exact loc_lk hz) (hs.1 X ok) (swap3 ok hf hx hy hz h1 h2 h3 hl hl2 hs.2 h8 h9)) (by
  rintro D σ H ⟨env, S, B, μ, o, r, eo, e, q⟩
  simp only [ex] at e
  split at e
  · rename_i ds S1 e1
    split at e
    · rename_i env1 e2
      cases e
      refine ⟨env, S, B, μ, ds, S1, r, eo, e1, fun B' μ' H' vs s1 r1 dl => ?_⟩
      cases ds with
      | nil => simp [setP] at e2
      | cons d1 ds => cases ds with
        | nil => simp [setP] at e2
        | cons d2 ds => cases ds with
          | nil => simp [setP] at e2
          | cons d3 ds => cases ds with
            | cons _ _ => simp [setP] at e2
            | nil =>
              simp only [setP] at e2
              cases e2
              cases dl with | cons h1 dl => cases dl with | cons h2 dl => cases dl with | cons h3 dl => cases dl with | nil =>
                exact ⟨_, _, _, rfl, q _ _ _ s1 r1 _ ((((eo.step s1).set h1).set h2).set h3)⟩
    · cases e
  · cases e)

/-! ### stores into objects -/
theorem putF_ok (hinj : ∀ f g, W.fnm f = W.fnm g → f = g) {y : D} {v : V} (hy : Den W B μ y v) : ∀ {ks : List Nat} {xs : List D} {vs : List V} (f : Nat), ks.length = xs.length → DenL W B μ xs vs →
    ∃ vs', putF (W.fnm f) v ((ks.map W.fnm).zip vs) = ((setFL ks xs f y).1.map W.fnm).zip vs' ∧ DenL W B μ (setFL ks xs f y).2 vs' ∧ (setFL ks xs f y).1.length = (setFL ks xs f y).2.length
  | [], [], _, f, _, h => by cases h; exact ⟨[v], rfl, .cons hy .nil, rfl⟩
  | [], _ :: _, _, _, h, _ => by simp at h
  | _ :: _, [], _, _, h, _ => by simp at h
  | g :: ks, x :: xs, _, f, hl, h => by
    cases h with | @cons _ w _ ws h1 h2 =>
      simp only [setFL, List.map_cons, List.zip_cons_cons, putF]
      by_cases e : g = f
      · subst e
        rw [if_pos rfl, if_pos rfl]
        exact ⟨v :: ws, rfl, .cons hy h2, by simpa using hl⟩
      · rw [if_neg e, if_neg (fun z => e (hinj _ _ z))]
        obtain ⟨vs', e1, e2, e3⟩ := putF_ok hinj hy f (by simpa using hl) h2
        exact ⟨w :: vs', by simp [e1], .cons h1 e2, by simp [e3]⟩
theorem snd_setF {o e : Expr} {io ie : IE} {f : Nat} {attr : Str} {p1 pos : Pos} (hf : W.fnm f = attr) (ho : SndE c W T mnm k o io) (he : SndE c W T mnm k e ie) : SndS c W T mnm k (.Assign [.Attribute o attr p1] e pos) (.setF io f ie) := fun X ok =>
  PS.imp (ps_fld (ho X ok).1 (he X ok).1 sw_offA) (by
  rintro D σ H ⟨env, S, B, μ, ot, r, eo, e, q⟩
  simp only [ex] at e
  split at e
  · rename_i y S1 e1
    split at e
    · rename_i d S2 e2
      split at e
      · rename_i S3 e3
        cases e
        refine ⟨env, S, B, μ, y, S1, r, eo, e1, fun B1 μ1 H1 w s1 r1 d1 => ?_⟩
        refine ⟨env, S1, B1, μ1, d, S2, r1, eo.step s1, e2, fun B2 μ2 H2 x s2 r2 d2 => ?_⟩
        unfold setFld at e3
        split at e3
        · rename_i j
          split at e3
          · rename_i cc ks xs hS
            split at e3
            · rename_i hc
              cases e3
              rw [Bool.and_eq_true, Bool.and_eq_true] at hc
              obtain ⟨a, rfl, hm, dx, vs, h1, h2, h3⟩ := r2.get d2 hS
              have d1' := Den.mono s2.grow s2.p _ _ d1
              obtain ⟨vs', g1, g2, g3⟩ := putF_ok ok.kk.inj d1' f h2 h3
              have hlen : ((ks.map W.fnm).zip vs).length < 1000 := by
                rw [List.length_zip, List.length_map]
                have := of_decide_eq_true hc.1
                omega
              obtain ⟨s3, r3⟩ := r2.write (o := .ins (W.cls cc) dx (putF (W.fnm f) w ((ks.map W.fnm).zip vs))) (c := .ins cc (setFL ks xs f y).1 (setFL ks xs f y).2) hm ⟨dx, vs', by rw [upd_same, g1], g3, g2⟩
              subst hf
              refine ⟨a, _, dx, _, rfl, h1, ?_, ?_, hlen, ?_⟩
              · exact ok.kk.cls _ hc.2.1
              · exact ok.kk.fld _ _ hc.2.2
              · exact q _ _ _ ((s1.trans s2).trans s3) r3 σ (((eo.step s1).step s2).step s3)
            · cases e3
          · cases e3
        · cases e3
      · cases e
    · cases e
  · cases e)

theorem PSet.or {X : Cx} {t t' : TSet} (h : PSet X t) (h' : PSet X t') : PSet X (fun o i v H Q => t o i v H Q ∨ t' o i v H Q) := fun pins s σ H o i v ov iv u Q I r1 r2 r3 q => q.elim (h pins s σ H o i v ov iv u Q I r1 r2 r3) (h' pins s σ H o i v ov iv u Q I r1 r2 r3)
theorem PSet.imp {X : Cx} {t t' : TSet} (h : PSet X t) (kk : ∀ o i v H Q, t' o i v H Q → t o i v H Q) : PSet X t' := fun pins s σ H o i v ov iv u Q I r1 r2 r3 q => h pins s σ H o i v ov iv u Q I r1 r2 r3 (kk _ _ _ _ _ q)
def rSI (W : WP) : TSet := fun o i v H Q => ∃ B μ S d kd y S', Rel W B μ S H ∧ Den W B μ d o ∧ Den W B μ kd i ∧ Den W B μ y v ∧ setItem d kd y S = some S' ∧ ∀ H', Step B μ H B μ H' → Rel W B μ S' H' → Q H'
theorem hasK_any {j : DK} : ∀ {ks : List DK} {vs : List V}, ks.length = vs.length → ((ks.map kC).zip vs).any (fun kv => decide (kv.1 = kC j)) = hasK ks j
  | [], _, _ => rfl
  | k :: ks, [], h => by simp at h
  | k :: ks, v :: vs, h => by
    simp only [List.map_cons, List.zip_cons_cons, List.any_cons, hasK, hasK_any (ks := ks) (vs := vs) (by simpa using h)]
    by_cases e : k = j
    · subst e; simp
    · have : ¬ kC k = kC j := fun z => e (kC_inj z)
      simp [e, this]
theorem mapK_map {j : DK} {y : D} {v : V} (hy : Den W B μ y v) : ∀ {ks : List DK} {xs : List D} {vs : List V}, ks.length = xs.length → DenL W B μ xs vs →
    ∃ vs', ((ks.map kC).zip vs).map (fun kv => if kv.1 = kC j then (kv.1, v) else kv) = (ks.map kC).zip vs' ∧ DenL W B μ (mapK ks xs j y) vs' ∧ ks.length = (mapK ks xs j y).length
  | [], [], _, _, h => by cases h; exact ⟨[], rfl, .nil, rfl⟩
  | [], _ :: _, _, h, _ => by simp at h
  | _ :: _, [], _, h, _ => by simp at h
  | k :: ks, x :: xs, _, hl, h => by
    cases h with | @cons _ w _ ws h1 h2 =>
      obtain ⟨vs', e1, e2, e3⟩ := mapK_map (j := j) hy (by simpa using hl) h2
      simp only [List.map_cons, List.zip_cons_cons, mapK]
      by_cases e : k = j
      · subst e
        exact ⟨v :: vs', by simp [e1], by rw [if_pos rfl]; exact .cons hy e2, by simp [e3]⟩
      · have : ¬ kC k = kC j := fun z => e (kC_inj z)
        exact ⟨w :: vs', by simp [e1, this], by rw [if_neg e]; exact .cons h1 e2, by simp [e3]⟩
theorem zip_snoc {α β : Type} : ∀ {as : List α} {bs : List β} {a : α} {b : β}, as.length = bs.length → (as ++ [a]).zip (bs ++ [b]) = as.zip bs ++ [(a, b)]
  | [], [], _, _, _ => rfl
  | [], _ :: _, _, _, h => by simp at h
  | _ :: _, [], _, _, h => by simp at h
  | x :: as, y :: bs, a, b, h => by simp [zip_snoc (as := as) (bs := bs) (a := a) (b := b) (by simpa using h)]
theorem putK_ok {j : DK} {y : D} {v : V} (hy : Den W B μ y v) {ks : List DK} {xs : List D} {vs : List V} (hl : ks.length = xs.length) (h : DenL W B μ xs vs) :
    ∃ vs', putK ((ks.map kC).zip vs) (kC j) v = ((putK2 ks xs j y).1.map kC).zip vs' ∧ DenL W B μ (putK2 ks xs j y).2 vs' ∧ (putK2 ks xs j y).1.length = (putK2 ks xs j y).2.length := by
  have hlv : ks.length = vs.length := hl.trans h.length
  unfold putK putK2
  rw [hasK_any hlv]
  cases hh : hasK ks j with
  | true =>
    rw [if_pos rfl, if_pos rfl]
    obtain ⟨vs', e1, e2, e3⟩ := mapK_map (j := j) hy hl h
    exact ⟨vs', e1, e2, e3⟩
  | false =>
    rw [if_neg (by decide), if_neg (by decide)]
    refine ⟨vs ++ [v], ?_, h.append (.cons hy .nil), by simp [hl]⟩
    rw [List.map_append, List.map_cons, List.map_nil, zip_snoc (by simpa using hlv)]
theorem set_SI (ok : CxOk c W T mnm k X) : PSet X (rSI W) := by
  refine PSet.imp (PSet.or set_list (set_dict (by have := ok.hu; omega))) ?_
  rintro o i v H Q ⟨B, μ, S, d, kd, y, S', r, hd, hk, hy, e, q⟩
  unfold setItem at e
  split at e
  · rename_i j
    split at e
    · rename_i xs hS
      split at e
      · rename_i n
        split at e
        · rename_i hn
          cases e
          obtain ⟨a, rfl, hm, vs, h1, h2⟩ := r.get hd hS
          obtain rfl := den_int hk
          obtain ⟨s1, r1⟩ := r.write (o := .lst (vs.set n.toNat v)) (c := .lst (xs.set n.toNat y)) hm ⟨_, upd_same, h2.set hy⟩
          refine .inl ⟨a, vs, n, n.toNat, rfl, rfl, h1, ?_, q _ s1 r1⟩
          unfold ixN
          rw [if_pos hn.1, if_pos (by rw [← h2.length]; omega)]
        · cases e
      · cases e
    · rename_i ks xs hS
      split at e
      · rename_i kk ek
        split at e
        · rename_i hn
          cases e
          obtain ⟨a, rfl, hm, vs, h1, h2, h3⟩ := r.get hd hS
          obtain rfl := kV_of hk ek
          obtain ⟨vs', g1, g2, g3⟩ := putK_ok (j := kk) hy h2 h3
          obtain ⟨s1, r1⟩ := r.write (o := .dK (putK ((ks.map kC).zip vs) (kC kk) v)) (c := .dct (putK2 ks xs kk y).1 (putK2 ks xs kk y).2) hm ⟨vs', by rw [upd_same, g1], g3, g2⟩
          refine .inr ⟨a, _, rfl, .k h1 ?_, q _ s1 r1⟩
          rw [List.length_zip, List.length_map]
          have : ks.length < sizeLine := Nat.lt_of_lt_of_le hn (by decide)
          omega
        · cases e
      · cases e
    · cases e
  · cases e
theorem snd_setI {o i e : Expr} {io ii ie : IE} {p1 pos : Pos} (hsl : notSlice i = true) (ho : SndE c W T mnm k o io) (hi : SndE c W T mnm k i ii) (he : SndE c W T mnm k e ie) : SndS c W T mnm k (.Assign [.Subscript o i p1] e pos) (.setI io ii ie) := fun X ok =>
  PS.imp (ps_asg (he X ok).1 (pg_sub (ho X ok).1 (hi X ok).1 (set_SI ok) (by intro v; cases i <;> first | rfl | cases hsl)) (show swapsWith e (some (.Subscript o i p1)) pos.line X.env = _ from sw_offI)) (by
  rintro D σ H ⟨env, S, B, μ, ot, r, eo, e, q⟩
  simp only [ex] at e
  split at e
  · rename_i y S1 e1
    split at e
    · rename_i d S2 e2
      split at e
      · rename_i kd S3 e3
        split at e
        · rename_i S4 e4
          cases e
          refine ⟨env, S, B, μ, y, S1, r, eo, e1, fun B1 μ1 H1 w s1 r1 d1 => ?_⟩
          refine ⟨env, S1, B1, μ1, d, S2, r1, eo.step s1, e2, fun B2 μ2 H2 x s2 r2 d2 => ?_⟩
          refine ⟨env, S2, B2, μ2, kd, S3, r2, (eo.step s1).step s2, e3, fun B3 μ3 H3 z s3 r3 d3 => ?_⟩
          refine ⟨B3, μ3, S3, d, kd, y, S4, r3, Den.mono s3.grow s3.p _ _ d2, d3, Den.mono s3.grow s3.p _ _ (Den.mono s2.grow s2.p _ _ d1), e4, fun H4 s4 r4 => ?_⟩
          exact q _ _ _ (((s1.trans s2).trans s3).trans s4) r4 σ ((((eo.step s1).step s2).step s3).step s4)
        · cases e
      · cases e
    · cases e
  · cases e)

/-! ### turns by place -/
def forG (stp : D → DEnv → Store → Option O) (s : Src) : Nat → Nat → DEnv → Store → Option O
  | 0, _, _, _ => none
  | n + 1, k, env, S => match cur s S with
    | some xs => match xs[k]? with
      | none => some (.nx env S)
      | some x => match stp x env S with
        | some (.nx env1 S1) => forG stp s n (k + 1) env1 S1
        | some (.ct env1 S1) => forG stp s n (k + 1) env1 S1
        | some (.br env1 S1) => some (.nx env1 S1)
        | some (.rt d S1) => some (.rt d S1)
        | none => none
    | none => none
theorem forL_G {stp : D → DEnv → Store → Option O} {xs : List D} : ∀ (l : List D) (k : Nat) (env : DEnv) (S : Store), xs.drop k = l → forG stp (.items xs) (l.length + 1) k env S = forL stp l env S
  | [], k, env, S, h => by
    have : xs[k]? = none := List.getElem?_eq_none_iff.mpr (List.drop_eq_nil_iff.mp h)
    simp only [forL, forG, cur, this]
  | x :: l, k, env, S, h => by
    have hx : xs[k]? = some x := by
      have : (xs.drop k)[0]? = some x := by rw [h]; rfl
      rw [List.getElem?_drop] at this
      simpa using this
    have hl : xs.drop (k + 1) = l := by
      have : xs.drop (k + 1) = (xs.drop k).drop 1 := by rw [List.drop_drop, Nat.add_comm]
      rw [this, h]; rfl
    unfold forG
    simp only [forL, cur, hx, List.length_cons]
    cases e : stp x env S with
    | none => rfl
    | some o => cases o with
      | nx env1 S1 => exact forL_G l (k + 1) env1 S1 hl
      | ct env1 S1 => exact forL_G l (k + 1) env1 S1 hl
      | br _ _ => rfl
      | rt _ _ => rfl
theorem forC_G {stp : D → DEnv → Store → Option O} {i : Nat} : ∀ (n k : Nat) (env : DEnv) (S : Store), forC stp i n k env S = forG stp (.cell i) n k env S
  | 0, k, env, S => rfl
  | n + 1, k, env, S => by
    simp only [forC, forG, cur]
    cases h : S[i]? with
    | none => rfl
    | some c => cases c with
      | lst xs =>
        simp only []
        cases hx : xs[k]? with
        | none => rfl
        | some x =>
          simp only []
          cases e : stp x env S with
          | none => rfl
          | some o => cases o with
            | nx env1 S1 => exact forC_G n (k + 1) env1 S1
            | ct env1 S1 => exact forC_G n (k + 1) env1 S1
            | br _ _ => rfl
            | rt _ _ => rfl
      | ins _ _ => rfl
      | dct _ => rfl
theorem forS_G {stp : D → DEnv → Store → Option O} {s : Src} {env : DEnv} {S : Store} : ∃ n, forS stp s env S = forG stp s n 0 env S := by
  cases s with
  | items xs => exact ⟨_, (forL_G xs 0 env S rfl).symm⟩
  | cell i => exact ⟨_, forC_G _ _ _ _⟩
def forStp (T : Tab) (tg : Tg) (b : List IS) : D → DEnv → Store → Option O := fun x env2 S2 => match setT S2 tg x env2 with
  | some env3 => exL T b env3 S2
  | none => none
theorem run_for {tg : Tg} {kd : Nat} {it : List IE} {b : List IS} {D : Ends} {σ : L2.St} {H : Hp} (h : tS W (ex T (.for tg kd it b)) D σ H) : tFor (tI W kd (evL T it)) (tG W tg) (tS W (exL T b)) D σ H := by
  obtain ⟨env, S, B, μ, o, r, eo, ee, q⟩ := h
  simp only [ex] at ee
  split at ee
  · rename_i ds S1 e1
    split at ee
    · rename_i s e2
      obtain ⟨n0, en⟩ := forS_G (stp := forStp T tg b) (s := s) (env := env) (S := S1)
      have ee : forS (forStp T tg b) s env S1 = some o := ee
      rw [en] at ee
      refine ⟨env, S, B, μ, ds, S1, s, r, eo, e1, e2, fun B1 μ1 H1 J s1 r1 jo => ?_⟩
      refine ⟨fun i m σc Hc => ∃ Bc μc Sc envc, Rel W Bc μc Sc Hc ∧ EnvOk W Bc μc envc σc ∧ Step B1 μ1 H1 Bc μc Hc ∧ Fin W D Bc μc Hc o ∧ forG (forStp T tg b) s m i envc Sc = some o, ⟨n0, B1, μ1, S1, env, r1, eo.step s1, Step.refl .., q.step s1, ee⟩, ?_⟩
      rintro i m σc Hc ⟨Bc, μc, Sc, envc, rc, eoc, sc, qc, eg⟩
      cases m with
      | zero => cases eg
      | succ m =>
        simp only [forG] at eg
        split at eg
        · rename_i xs ecur
          have jj := jo Bc μc Sc Hc xs sc.grow sc.p rc ecur i
          split at eg
          · rename_i hx
            cases eg
            exact .inl ⟨jj.2 hx, qc _ _ _ (Step.refl ..) rc σc eoc⟩
          · rename_i x hx
            have go := jj.1 x hx
            refine .inr ⟨go.1, fun σn Hn => ∃ m', m' < m + 1 ∧ ∃ Bc μc Sc envc, Rel W Bc μc Sc Hn ∧ EnvOk W Bc μc envc σn ∧ Step B1 μ1 H1 Bc μc Hn ∧ Fin W D Bc μc Hn o ∧ forG (forStp T tg b) s m' (i + 1) envc Sc = some o, fun σn Hn hn => hn, ?_⟩
            intro v Hy hy
            obtain ⟨By, sy, ry, dy⟩ := go.2 v Hy hy
            have eoy := eoc.step sy
            cases es : setT Sc tg x envc with
            | none =>
              have : forStp T tg b x envc Sc = none := by simp only [forStp, es]
              rw [this] at eg; cases eg
            | some env3 =>
              have : forStp T tg b x envc Sc = exL T b env3 Sc := by simp only [forStp, es]
              rw [this] at eg
              refine ⟨By, μc, Sc, envc, x, env3, ry, eoy, dy, es, fun σ2 eo2 _ => ?_⟩
              cases eb : exL T b env3 Sc with
              | none => rw [eb] at eg; cases eg
              | some ob =>
                rw [eb] at eg
                refine ⟨env3, Sc, By, μc, ob, ry, eo2, eb, fun B4 μ4 H4 s4 => ?_⟩
                have st := sy.trans s4
                cases ob with
                | nx env4 S4 => exact fun r4 σ4 eo4 => ⟨m, Nat.lt_succ_self _, B4, μ4, S4, env4, r4, eo4, sc.trans st, qc.step st, eg⟩
                | ct env4 S4 => exact fun r4 σ4 eo4 => ⟨m, Nat.lt_succ_self _, B4, μ4, S4, env4, r4, eo4, sc.trans st, qc.step st, eg⟩
                | br env4 S4 =>
                  cases eg
                  exact fun r4 σ4 eo4 => qc _ _ _ st r4 σ4 eo4
                | rt d S4 =>
                  cases eg
                  exact fun r4 v d4 => qc _ _ _ st r4 v d4
        · cases eg
    · cases ee
  · cases ee
theorem snd_for {tg iter : Expr} {body : List Stmt} {itg : Tg} {kd : Nat} {it : List IE} {ib : List IS} {pos : Pos} (hi : SndI c W T mnm k tg iter kd it) (hg : SndG c W T mnm k tg itg) (hb : SndSs c W T mnm k body ib) : SndS c W T mnm k (.For tg iter body [] pos) (.for itg kd it ib) := fun X ok =>
  PS.imp (ps_for (by rw [ok.xe]; exact .never) ok.calm (hi.1 X ok) (hg.1 X ok) (hb X ok) (fold_of hi.2)) fun D σ H h => run_for h
theorem run_whl {t : IE} {b : List IS} {D : Ends} {σ : L2.St} {H : Hp} (h : tS W (ex T (.whl t b)) D σ H) : tWhile (tT W (evE T t)) (tS W (exL T b)) D σ H := by
  obtain ⟨env, S, B, μ, o, r, eo, ee, q⟩ := h
  simp only [ex] at ee
  refine ⟨fun m σc Hc => ∃ Bc μc Sc envc, Rel W Bc μc Sc Hc ∧ EnvOk W Bc μc envc σc ∧ Fin W D Bc μc Hc o ∧ whlN (fun env1 S1 => match evE T t env1 S1 with
      | some (.bl k, S2) => some (k, S2)
      | _ => none) (fun env1 S1 => exL T b env1 S1) m envc Sc = some o, ⟨_, B, μ, S, env, r, eo, q, ee⟩, ?_⟩
  rintro m σc Hc ⟨Bc, μc, Sc, envc, rc, eoc, qc, eg⟩
  cases m with
  | zero => cases eg
  | succ m =>
    simp only [whlN] at eg
    cases et : evE T t envc Sc with
    | none => rw [et] at eg; cases eg
    | some p =>
      obtain ⟨d, S1⟩ := p
      rw [et] at eg
      cases d with
      | bl z =>
        refine ⟨envc, Sc, Bc, μc, z, S1, rc, eoc, et, fun B2 μ2 H2 s2 r2 => ?_⟩
        cases z with
        | false =>
          cases eg
          exact iteF (qc _ _ _ s2 r2 σc (eoc.step s2))
        | true =>
          refine iteT ⟨fun σn Hn => ∃ m', m' < m + 1 ∧ ∃ Bc μc Sc envc, Rel W Bc μc Sc Hn ∧ EnvOk W Bc μc envc σn ∧ Fin W D Bc μc Hn o ∧ whlN (fun env1 S1 => match evE T t env1 S1 with
              | some (.bl k, S2) => some (k, S2)
              | _ => none) (fun env1 S1 => exL T b env1 S1) m' envc Sc = some o, fun σn Hn hn => hn, ?_⟩
          simp only [] at eg
          cases eb : exL T b envc S1 with
          | none => rw [eb] at eg; cases eg
          | some ob =>
            rw [eb] at eg
            refine ⟨envc, S1, B2, μ2, ob, r2, eoc.step s2, eb, fun B4 μ4 H4 s4 => ?_⟩
            have st := s2.trans s4
            cases ob with
            | nx env4 S4 => exact fun r4 σ4 eo4 => ⟨m, Nat.lt_succ_self _, B4, μ4, S4, env4, r4, eo4, qc.step st, eg⟩
            | ct env4 S4 => exact fun r4 σ4 eo4 => ⟨m, Nat.lt_succ_self _, B4, μ4, S4, env4, r4, eo4, qc.step st, eg⟩
            | br env4 S4 =>
              cases eg
              exact fun r4 σ4 eo4 => qc _ _ _ st r4 σ4 eo4
            | rt d S4 =>
              cases eg
              exact fun r4 v d4 => qc _ _ _ st r4 v d4
      | _ => cases eg
theorem snd_whl {t : Expr} {body : List Stmt} {it : IE} {ib : List IS} {pos : Pos} (ht : SndE c W T mnm k t it) (hb : SndSs c W T mnm k body ib) : SndS c W T mnm k (.While t body [] pos) (.whl it ib) := fun X ok =>
  PS.imp (ps_while (by rw [ok.xe]; exact .never) (ht X ok).2 (hb X ok)) fun D σ H h => run_whl h
end LN

set_option Elab.async false
set_option linter.all false
set_option maxRecDepth 100000
set_option maxHeartbeats 1000000
namespace LN
open PySem L2 PyProof.Rows GenW

/-! ### for, in a generator -/
section
variable {M : Model} {A : Around} {R : GenEnd} {Y : Protocol} {n : Nat} {s₀ s : Shared} {c : Code} {fs : List Frame} {env : Env}
theorem segFor {target iter : Expr} {body : List Stmt} {pos : Pos} {K : Flow → Sem PySem.Fin} {J : Value → Sem PySem.Fin} {gd : Bool → Bool} {lv : List Value → List Value} (hs : ∀ x, foldedSetIterable iter env x = pure x)
    (h : wpAny M (A.over c fs) (eval iter env) (fun xv s1 => wpAny M (A.over c fs) (pyIter xv) (fun it s2 => ∀ p, Seg M A R Y n s₀ (.forLoop target it body [] env) (M.den (.forLoop target it body [] env))
        (.ret (fun r => ((match r with | .ok f => (.pure f : Sem Flow) | .error e => .raise e).onRaise (cameBack env)).wrap K J gd lv) none (gd false) (lv []) c p [] :: fs) s2) (fun x s' => Seg M A R Y n s₀ c (J x) fs s') s1) (fun x s' => Seg M A R Y n s₀ c (J x) fs s') s) :
    Seg M A R Y n s₀ c ((exec (.For target iter body [] pos) env).wrap K J gd lv) fs s := by
  rw [exec_For]
  refine seg_bind_wrap (wpAny_standAt ?_)
  refine seg_bind_wrap (wpAny_mono h (fun xv s1 h1 => ?_) fun _ _ z => z)
  refine seg_bind_wrap (wpAny_of_eq (hs xv) ?_)
  refine seg_bind_wrap (wpAny_standAt ?_)
  refine seg_bind_wrap (wpAny_holding (wpAny_mono h1 (fun it s2 h2 => ?_) fun _ _ z => z))
  exact seg_call h2
end
section
variable {prog : Program} {w : World} {A : Around} {R : GenEnd} {Y : Protocol} {n : Nat} {s₀ : Shared} {fs : List Frame} {s : Shared} {env : Env}
theorem segForLoop {target : Expr} {it : Value} {body : List Stmt}
    (h : wpAny (model prog w) (A.over (.forLoop target it body [] env) fs) (pyNext it) (fun r s1 => match r with
        | none => Seg (model prog w) A R Y n s₀ (.forLoop target it body [] env) (.pure (.again (.block [] env))) fs s1
        | some v => wpAny (model prog w) (A.over (.forLoop target it body [] env) fs) (letOwnedTupleGo target it v) (fun _ s2 => wpAny (model prog w) (A.over (.forLoop target it body [] env) fs) (assign target env v) (fun _ s3 =>
            Seg (model prog w) A R Y n s₀ (.forLoop target it body [] env) ((execs body env).wrap (fun f => match f with
              | .next | .cont => .pure (.again (.forLoop target it body [] env))
              | .brk => .pure (.done .next)
              | .ret v => .pure (.done (.ret v))) (fun e => (do noteFrame e env; theTreesLotGoes e : Sem Unit).wrap (fun _ => .raise e) .raise id id) id id) fs s3)
            (fun x s' => Seg (model prog w) A R Y n s₀ (.forLoop target it body [] env) ((do noteFrame x env; theTreesLotGoes x : Sem Unit).wrap (fun _ => .raise x) .raise id id) fs s') s2)
            (fun x s' => Seg (model prog w) A R Y n s₀ (.forLoop target it body [] env) ((do noteFrame x env; theTreesLotGoes x : Sem Unit).wrap (fun _ => .raise x) .raise id id) fs s') s1)
      (fun x s' => Seg (model prog w) A R Y n s₀ (.forLoop target it body [] env) ((do noteFrame x env; theTreesLotGoes x : Sem Unit).wrap (fun _ => .raise x) .raise id id) fs s') s) :
    Seg (model prog w) A R Y n s₀ (.forLoop target it body [] env) ((model prog w).den (.forLoop target it body [] env)) fs s := by
  show Seg _ A R Y n s₀ _ ((forTurn target it body [] env).onRaise (fun x => do noteFrame x env; theTreesLotGoes x)) fs s
  unfold forTurn
  rw [Sem.onRaise_eq_wrap]
  refine seg_bind_wrap (wpAny_standAt ?_)
  refine seg_bind_wrap (wpAny_onRaise (wpAny_mono h (fun r s1 h1 => ?_) fun x s' hx => ?_))
  · cases r with
    | none => exact h1
    | some v =>
      refine seg_bind_wrap (wpAny_mono h1 (fun _ s2 h2 => ?_) fun x s' hx => ?_)
      · refine seg_bind_wrap (wpAny_mono h2 (fun _ s3 h3 => ?_) fun x s' hx => ?_)
        · rw [Sem.bind_eq_wrap', Sem.wrap_wrap]
          refine Eq.mp (congrArg (fun t => Seg (model prog w) A R Y n s₀ (.forLoop target it body [] env) t fs s3) ?_) h3
          refine Sem.wrap_congr (execs body env) _ _ (fun f => ?_) (fun e => ?_)
          · cases f <;> rfl
          · exact (Sem.bind_eq_wrap _ _).symm
        · rw [← Sem.bind_eq_wrap] at hx
          exact hx
      · rw [← Sem.bind_eq_wrap] at hx
        exact hx
  · refine wpAny_standAt ?_
    rw [← Sem.bind_eq_wrap] at hx
    exact hx
end

/-- what a for loop of a generator asks -/
def tGFor (wi : TI) (g : TG) (tb : TGn) : TGn := fun D ys σ H => wi σ H fun It H1 => ∃ Wd : Nat → Nat → List V → L2.St → Hp → Prop, (∃ m, Wd 0 m ys σ H1) ∧ ∀ i m ys σ H, Wd i m ys σ H →
  (It.stop i H ∧ D.nx ys σ H) ∨ (It.go i H ∧ ∃ Nx : List V → L2.St → Hp → Prop, (∀ ys' σ' H', Nx ys' σ' H' → ∃ m', m' < m ∧ Wd (i + 1) m' ys' σ' H') ∧ ∀ x H', It.yld i H x H' → g x σ H' fun σ2 H2 => tb { D with nx := Nx, ct := Nx, bk := D.nx } ys σ2 H2)
theorem gi_back {X : Cx} {S : Addr} {ip pl : List (Addr × Obj)} {ys : List V} {σ : L2.St} {H : Hp} {s : Shared} (h : GI X S (ip ++ pl) ys σ H s) : GI X S ip ys σ H s := by
  obtain ⟨acc, cc, rv, I⟩ := h
  exact ⟨acc, cc, rv, Inv.unpinned (pl := pl) (pins := (S, lstObj acc cc) :: ip) I⟩
theorem gs_for {X : Cx} {tg iter : Expr} {body : List Stmt} {pos : Pos} {wi : TI} {g : TG} {tb : TGn} (hp : PassesOwn (model X.prog X.w) X.A X.env X.xe) (hc : X.calm = true) (hi : PI X tg iter wi) (hg : PG X tg g) (hb : GSs X body tb)
    (hs : ∀ x, foldedSetIterable iter X.env x = pure x) : GS X (.For tg iter body [] pos) (tGFor wi g tb) := by
  refine ⟨fun A S ip R n ys s₀ c fs K J gd lv s σ H D gc hn kk hI ht => ?_⟩
  obtain ⟨acc, cc, rv, I⟩ := hI
  refine segFor hs ?_
  rw [gc.over]
  refine wpAny_mono (hi.run _ s σ H _ I ht) (fun v s1 h1 => wpAny_mono h1 (fun itv s2 h2 p => ?_) fun x s' hx => kk.exc n s₀ x s' hx) fun x s' hx => kk.exc n s₀ x s' hx
  obtain ⟨it, fp, tn, It, H2, rfl, I2, Tn, st2, f2, Wd, ⟨m0, w0⟩, turn⟩ := h2
  have gl := fun (q : Result → Sem PySem.Fin) => gc_loop (k := q) (c' := .forLoop tg (.ref it) body [] X.env) (l := lv []) (kp := []) (p := p) gc rfl rfl
  have stat : ∀ {H' : Hp} {acc' : Array Value} {c' : Nat}, (∀ b ∈ fp, H' b = none) → ∀ b ∈ fp, FpOk X ((S, lstObj acc' c') :: ip) H' b := fun {H' acc' c'} hn' b hb' => by
    obtain ⟨_, a2, a3, a4, a5, a6⟩ := f2 b hb'
    refine ⟨hn' b hb', a2, a3, a4, a5, fun q hq => ?_⟩
    rcases List.mem_append.mp hq with z | z
    · exact a6 q (List.mem_append_left _ z)
    · rcases List.mem_cons.mp z with z | z
      · subst z
        exact a6 (S, lstObj acc cc) (List.mem_append_right _ List.mem_cons_self)
      · exact a6 q (List.mem_append_right _ (List.mem_cons_of_mem _ z))
  have loop : ∀ (m i n : Nat) (ys : List V) (s₀ s : Shared) (σ : L2.St) (H : Hp), n + ys.length = sizeLine → Wd i m ys σ H → GI X S ip ys σ H s → tn i s.heap → (∀ b ∈ fp, H b = none) →
      Seg (model X.prog X.w) A R (GY X S) n s₀ (.forLoop tg (.ref it) body [] X.env) ((model X.prog X.w).den (.forLoop tg (.ref it) body [] X.env))
        (.ret (fun r => ((match r with | .ok f => (.pure f : Sem Flow) | .error e => .raise e).onRaise (cameBack X.env)).wrap K J gd lv) none (gd false) (lv []) c p [] :: fs) s := by
    intro m
    induction m using Nat.strongRecOn with
    | ind m ih =>
      intro i n ys s₀ s σ H hn w hI st fr
      have exc : ∀ (n : Nat) (s₀ : Shared) (x : Value) (s' : Shared), X.xe x s' → Seg (model X.prog X.w) A R (GY X S) n s₀ (.forLoop tg (.ref it) body [] X.env)
          ((do noteFrame x X.env; theTreesLotGoes x : Sem Unit).wrap (fun _ => .raise x) .raise id id)
          (.ret (fun r => ((match r with | .ok f => (.pure f : Sem Flow) | .error e => .raise e).onRaise (cameBack X.env)).wrap K J gd lv) none (gd false) (lv []) c p [] :: fs) s' := fun n s₀ x s' hx => by
        refine seg_wrap ?_
        rw [(gl _).over]
        refine wpAny_bind (wpAny_mono (hp x s' hx) (fun _ s'' hcb => wpAny_theTreesLotGoes ?_) fun y s'' hcb => ?_)
        · exact seg_leaf (.error x) (seg_cameBack gc kk hcb)
        · exact seg_leaf (.error y) (seg_cameBack gc kk hcb)
      refine segForLoop ?_
      rw [(gl _).over]
      obtain ⟨acc, cc, rv, I⟩ := hI
      rcases turn i m ys σ H w with ⟨stop, qn⟩ | ⟨go, Nx, hN, step⟩
      · refine wpAny_mono (Tn.done X rfl rfl rfl hc i _ s σ H X.xe I (stat fr) st stop) (fun r s4 hr => ?_) fun x s' hx => exc n s₀ x s' hx
        obtain ⟨rfl, I4⟩ := hr
        refine seg_again rfl ?_
        exact seg_leaf (.ok .next) (kk.ok n ys s₀ s4 .next hn ⟨σ, H, ⟨acc, cc, rv, I4⟩, qn⟩)
      · refine wpAny_mono (Tn.item X rfl rfl rfl hc i _ s σ H X.xe I (stat fr) st go) (fun r s4 hr => ?_) fun x s' hx => exc n s₀ x s' hx
        obtain ⟨u, rfl, h4⟩ := hr
        refine wpAny_mono h4 (fun _ s5 h5 => ?_) fun x s' hx => exc n s₀ x s' hx
        obtain ⟨x, H5, I5, r5, y5, st5, fr5⟩ := h5
        have I5p := I5.pinned (stat fr5) (Tn.obj _ _ st5)
        refine wpAny_mono (hg.run _ s5 σ H5 x u _ I5p r5 (step x H5 y5)) (fun _ s6 h6 => ?_) fun x s' hx => exc n s₀ x s' hx
        obtain ⟨σ6, H6, I6, q6⟩ := h6
        have pinOf : ∀ {ys7 : List V} {σ7 : L2.St} {H7 : Hp} {s7 : Shared}, GI X S (ip ++ pinsAt fp s5.heap) ys7 σ7 H7 s7 → tn (i + 1) s7.heap ∧ ∀ b ∈ fp, H7 b = none := fun {ys7 σ7 H7 s7} h7 => by
          obtain ⟨acc7, cc7, rv7, I7⟩ := h7
          refine ⟨Tn.keep _ _ _ st5 fun b hb' o e => (I7.pin (b, o) (List.mem_append_right _ (List.mem_cons_of_mem _ (List.mem_append_right _ (mem_pinsAt hb' e))))).1, fun b hb' => ?_⟩
          obtain ⟨o, e, _⟩ := Tn.obj _ _ st5 b hb'
          exact (I7.pin (b, o) (List.mem_append_right _ (List.mem_cons_of_mem _ (List.mem_append_right _ (mem_pinsAt hb' e))))).2.1
        have gB := gl (fun r => ((match r with | .ok f => (.pure f : Sem Flow) | .error e => .raise e).onRaise (cameBack X.env)).wrap K J gd lv)
        refine hb.run A S (ip ++ pinsAt fp s5.heap) R n ys s₀ _ _ _ _ id id s6 σ6 H6 { D with nx := Nx, ct := Nx, bk := D.nx } ⟨gB.pn, fun q hq => ?_, gB.apart, gB.over, gB.split, gB.guard, gB.gd⟩ hn ⟨fun n' ys' s₀' s7 f hn' h7 => ?_, fun n' s₀' x s7 hx => exc n' s₀' x s7 hx⟩ ⟨acc, cc, rv, I6⟩ q6
        · rcases List.mem_append.mp hq with z | z
          · exact gB.ip q z
          · obtain ⟨hb', _⟩ := of_pinsAt z
            obtain ⟨_, _, _, _, _, a6⟩ := f2 q.1 hb'
            exact fun e => a6 (S, lstObj _ _) (List.mem_append_right _ List.mem_cons_self) e.symm
        · cases f with
          | next =>
            obtain ⟨σ7, H7, I7, n7⟩ := h7
            obtain ⟨m', hm, w7⟩ := hN ys' σ7 H7 n7
            obtain ⟨t7, f7⟩ := pinOf I7
            exact seg_again rfl (ih m' hm (i + 1) n' ys' s₀' s7 σ7 H7 hn' w7 (gi_back I7) t7 f7)
          | cont =>
            obtain ⟨σ7, H7, I7, n7⟩ := h7
            obtain ⟨m', hm, w7⟩ := hN ys' σ7 H7 n7
            obtain ⟨t7, f7⟩ := pinOf I7
            exact seg_again rfl (ih m' hm (i + 1) n' ys' s₀' s7 σ7 H7 hn' w7 (gi_back I7) t7 f7)
          | brk =>
            obtain ⟨σ7, H7, I7, q7⟩ := h7
            exact seg_leaf (.ok .next) (kk.ok n' ys' s₀' s7 .next hn' ⟨σ7, H7, gi_back I7, q7⟩)
          | ret v =>
            obtain ⟨x7, σ7, H7, I7, r7, q7⟩ := h7
            exact seg_leaf (.ok (.ret v)) (kk.ok n' ys' s₀' s7 (.ret v) hn' ⟨x7, σ7, H7, gi_back I7, r7, q7⟩)
  exact loop m0 0 n ys s₀ s2 σ H2 hn w0 ⟨acc, cc, rv, I2⟩ st2 fun b hb' => (f2 b hb').1
end LN

set_option Elab.async false
set_option linter.all false
set_option maxRecDepth 100000
set_option maxHeartbeats 1000000
namespace LN
open PySem L2 PyProof.Rows GenW
variable {W : WP} {B B' : Hp} {μ μ' : List Addr} {S S' : Store} {H H' : Hp} {c : Cn} {T : Tab} {mnm : Nat → Str} {k : Nat} {X : Cx}

theorem PS.noxL {st : Stmt} {t : TS} (h : PS X.nox st t) : PS X st t := ⟨fun pins s σ H D I hw => wpAny_mono (h.run pins s σ H D (I.wish _) hw) (fun _ _ q => q.unwish) fun _ _ z => False.elim z⟩
theorem PG.noxL {e : Expr} {t : TG} (h : PG X.nox e t) : PG X e t := ⟨fun pins s σ H v u Q I r hw => wpAny_mono (h.run pins s σ H v u Q (I.wish _) r hw) (fun _ _ ⟨σ', H', I', q⟩ => ⟨σ', H', I'.unwish, q⟩) fun _ _ z => False.elim z⟩
theorem FpOk.un {E : Value → Shared → Prop} {pins : List (Addr × Obj)} {H : Hp} {b : Addr} (h : FpOk (X.wish E) pins H b) : FpOk X pins H b := h
theorem PI.noxL {tg e : Expr} {t : TI} (h : PI X.nox tg e t) : PI X tg e t := ⟨fun pins s σ H R I hw =>
  wpAny_mono (h.run pins s σ H R (I.wish _) hw) (fun _ _ q => wpAny_mono q (fun _ _ ⟨it, fp, tn, J, H', e1, I', T', t0, f, r⟩ => ⟨it, fp, tn, J, H', e1, I'.unwish, T', t0, f, r⟩) fun _ _ z => False.elim z) fun _ _ z => False.elim z⟩
theorem EnvOk.less {env : DEnv} {σ : L2.St} (h : EnvOk W B μ env σ) : ∀ vs : List Nat, EnvOk W B μ (wipeD env vs) σ
  | [] => h
  | v :: vs => by
    have ih := EnvOk.less h vs
    unfold wipeD
    refine ⟨by simp [ih.1], fun j e hj => ?_⟩
    by_cases ej : j = v
    · subst ej
      by_cases hl : j < (wipeD env vs).length
      · rw [List.getElem?_set_self hl] at hj; cases hj
      · rw [List.getElem?_eq_none_iff.mpr (by simp; omega)] at hj; cases hj
    · rw [List.getElem?_set_ne (Ne.symm ej)] at hj
      exact ih.2 j e hj
theorem wipeD_out {env : DEnv} {j : Nat} {d : D} : ∀ {vs : List Nat}, (wipeD env vs)[j]? = some (some d) → j ∉ vs
  | [], _ => by simp
  | v :: vs, h => by
    unfold wipeD at h
    by_cases ej : j = v
    · subst ej
      by_cases hl : j < (wipeD env vs).length
      · rw [List.getElem?_set_self hl] at h; cases h
      · rw [List.getElem?_eq_none_iff.mpr (by simp; omega)] at h; cases h
    · rw [List.getElem?_set_ne (Ne.symm ej)] at h
      have := wipeD_out h
      simp [ej, this]
theorem EnvOk.off {env : DEnv} {σ σ' : L2.St} {vs : List Nat} (h : EnvOk W B μ (wipeD env vs) σ) (o : OffSl vs σ σ') : EnvOk W B μ (wipeD env vs) σ' := by
  refine ⟨h.1.trans o.1.symm, fun j d e => ?_⟩
  obtain ⟨v, h1, h2⟩ := h.2 j d e
  exact ⟨v, by rw [o.2 j (wipeD_out e)]; exact h1, h2⟩

theorem frzL_den {m : Nat} (r : Rel W B μ S H) {ds es : List D} {vs : List V} (h : DenL W B μ ds vs) (q : frzL (frzC S m 6) ds = some es) : DenL W (fz B H (μ.drop m)) [] es vs :=
  frzL_ok (fz_exd r) (fun i d v => frzC_ok r (fz_exd r) 6 i d v) ds es vs h q


/-! ### a generator's body -/
def tGB (W : WP) (T : Tab) (g : GD) (pre : List IS) : TGn := fun D ys σ H => ∃ env S B μ env1 S1 ds S2 s all S5, Rel W B μ S H ∧ EnvOk W B μ env σ ∧ exL T pre env S = some (.nx env1 S1) ∧ evL T g.it env1 S1 = some (ds, S2) ∧ srcD g.kd ds S2 = some s ∧ lcS (genStp T g env1) s S2 = some (all, S5) ∧ ys = [] ∧ all.length ≤ 100000 ∧
  ∀ B' μ' H' out σ', Step B μ H B' μ' H' → Rel W B' μ' S5 H' → DenL W B' μ' all out → D.nx out σ' H'
def SndGn (c : Cn) (W : WP) (T : Tab) (mnm : Nat → Str) (k : Nat) (body : List Stmt) (g : GD) (pre : List IS) : Prop := ∀ X, CxOk c W T mnm k X.nox → PassesOwn (model X.prog X.w) X.A X.env X.xe → X.env.scope.isCoroutine = false → interactive X.env = false → GSs X body (tGB W T g pre)
theorem GSs.imp {body : List Stmt} {t t' : TGn} (h : GSs X body t) (kk : ∀ D ys σ H, t' D ys σ H → t D ys σ H) : GSs X body t' := ⟨fun A S ip R n ys s₀ c fs K J gd lv s σ H D g hn k hI ht => h.run A S ip R n ys s₀ c fs K J gd lv s σ H D g hn k hI (kk _ _ _ _ ht)⟩
theorem run_gb {g : GD} {D : GEnds} {ys : List V} {σ : L2.St} {H : Hp} (h : tGB W T g [] D ys σ H) : tGThen (tGFor (tI W g.kd (evL T g.it)) (tG W g.tg) (tGThen (tGYield (tE W (evE T g.e))) tG0)) tG0 D ys σ H := by
  obtain ⟨env, S, B, μ, env1, S1, ds, S2, s, all, S5, r, eo, e1, e2, e3, e4, rfl, hlen, q⟩ := h
  simp only [exL] at e1
  cases e1
  obtain ⟨n0, e5⟩ := lcS_G (stp := genStp T g env) e4
  refine ⟨env, S, B, μ, ds, S2, s, r, eo, e2, e3, fun B1 μ1 H1 J s1 r1 jo => ?_⟩
  refine ⟨fun i m ys σc Hc => ∃ Bc μc Sc ysD rest, Rel W Bc μc Sc Hc ∧ EnvOk W Bc μc (wipeD env (slots g.tg)) σc ∧ Step B1 μ1 H1 Bc μc Hc ∧ DenL W Bc μc ysD ys ∧ ysD ++ rest = all ∧ lcG (genStp T g env) s m i Sc = some (rest, S5), ⟨n0, B1, μ1, S2, [], all, r1, (eo.step s1).less _, Step.refl .., .nil, rfl, e5⟩, ?_⟩
  rintro i m ys σc Hc ⟨Bc, μc, Sc, ysD, rest, rc, eoc, sc, dc, erest, eg⟩
  cases m with
  | zero => cases eg
  | succ m =>
    simp only [lcG] at eg
    split at eg
    · rename_i xs ecur
      have jj := jo Bc μc Sc Hc xs sc.grow sc.p rc ecur i
      split at eg
      · rename_i hx
        cases eg
        rw [List.append_nil] at erest
        subst erest
        exact .inl ⟨jj.2 hx, q _ _ _ _ σc (s1.trans sc) rc dc⟩
      · rename_i x hx
        have go := jj.1 x hx
        refine .inr ⟨go.1, fun ysn σn Hn => ∃ m', m' < m + 1 ∧ ∃ Bc μc Sc ysD rest, Rel W Bc μc Sc Hn ∧ EnvOk W Bc μc (wipeD env (slots g.tg)) σn ∧ Step B1 μ1 H1 Bc μc Hn ∧ DenL W Bc μc ysD ysn ∧ ysD ++ rest = all ∧ lcG (genStp T g env) s m' (i + 1) Sc = some (rest, S5), fun ysn σn Hn hn => hn, ?_⟩
        intro v Hy hy
        obtain ⟨By, sy, ry, dy⟩ := go.2 v Hy hy
        split at eg
        · rename_i y S4 estp
          split at eg
          · rename_i rest' S6 eg2
            have e6 : y :: rest' = rest ∧ S6 = S5 := by cases eg; exact ⟨rfl, rfl⟩
            obtain ⟨e6, e7⟩ := e6
            subst e6 e7
            unfold genStp at estp
            split at estp
            · rename_i env2 eset
              have eoy := eoc.step sy
              refine ⟨By, μc, Sc, _, x, env2, ry, eoy, dy, eset, fun σ2 eo2 off2 => ?_⟩
              split at estp
              · rename_i y' S4' ev
                cases estp
                have hl : ysD.length + (1 + rest'.length) = all.length := by rw [← erest]; simp; omega
                refine ⟨?_, env2, Sc, By, μc, y, S4, ry, eo2, ev, fun B4 μ4 H4 w s4 r4 d4 => ?_⟩
                · rw [← dc.length]
                  exact Nat.lt_of_lt_of_le (by omega : ysD.length < 100000) (by decide)
                · have st := sy.trans s4
                  exact ⟨m, Nat.lt_succ_self _, B4, μ4, S4, ysD ++ [y], rest', r4, (eoy.off off2).step s4, sc.trans st, (DenL.mono st.grow st.p _ _ dc).append (.cons d4 .nil), by simpa using erest, eg2⟩
              · cases estp
            · cases estp
          · cases eg
        · rename_i S4 estp
          unfold genStp at estp
          split at estp
          · split at estp <;> cases estp
          · cases estp
        · cases eg
    · cases eg
theorem sndGn_for {tg iter e : Expr} {yp p2 p3 : Pos} {g : GD} (hi : SndI c W T mnm k tg iter g.kd g.it) (hg : SndG c W T mnm k tg g.tg) (he : SndE c W T mnm k e g.e) : SndGn c W T mnm k [.For tg iter [.Expr (.Yield (some e) yp) p2] [] p3] g [] := fun X ok hp hco hin =>
  GSs.imp (gss_cons (gs_for hp ok.calm (PI.noxL (hi.1 X.nox ok)) (PG.noxL (hg.1 X.nox ok)) (gss_cons (gs_yield (PE.nox (he X.nox ok).1) hco hin) gss_nil) (fold_of hi.2)) gss_nil) fun D ys σ H h => run_gb h
theorem sndGn_cons {st : Stmt} {body : List Stmt} {is : IS} {pre : List IS} {g : GD} (h : SndS c W T mnm k st is) (hs : SndGn c W T mnm k body g pre) : SndGn c W T mnm k (st :: body) g (is :: pre) := fun X ok hp hco hin =>
  GSs.imp (gss_cons (gs_ps (PS.noxL (h X.nox ok))) (hs X ok hp hco hin)) (by
    rintro D ys σ H ⟨env, S, B, μ, env1, S1, ds, S2, s, all, S5, r, eo, e1, e2, e3, e4, hy, hlen, q⟩
    simp only [exL] at e1
    split at e1
    · rename_i env0 S0 e0
      refine ⟨env, S, B, μ, _, r, eo, e0, fun B1 μ1 H1 s1 r1 σ1 eo1 => ?_⟩
      exact ⟨env0, S0, B1, μ1, env1, S1, ds, S2, s, all, S5, r1, eo1, e1, e2, e3, e4, hy, hlen, fun B' μ' H' out σ' st' r' d' => q B' μ' H' out σ' (s1.trans st') r' d'⟩
    · cases e1
    · cases e1
    · cases e1
    · cases e1)
end LN

set_option Elab.async false
set_option linter.all false
set_option maxRecDepth 100000
set_option maxHeartbeats 1000000
namespace LN
open PySem L2
variable {W : WP} {B B' : Hp} {μ μ' : List Addr} {S S' : Store} {H H' : Hp} {c : Cn} {T : Tab} {mnm : Nat → Str} {k : Nat} {X : Cx}

/-- where the law runs -/
structure Site where
  P : Program
  w : World
  K : PySem.W.Frag
  mg : Str → Option Value
  base : Heap
def GnT (W : WP) (s : Site) (k : Nat) (a : Addr) (np : Nat) (F : Spc) : Prop := (∀ ds S, F ds S = none) ∨ (∀ ds S d S', F ds S = some (d, S') → ∃ ys, d = .lst ys) ∧ ∃ (j : Nat) (fd : FuncData) (ps : List Str), j + 3 ≤ k + 1 ∧ ps.length = np ∧ Binds s.K fd ps [] ∧ GFn s.P s.w s.K s.mg s.base j a fd ps (spG W F)
def FnT (W : WP) (s : Site) (k : Nat) (a : Addr) (np : Nat) (bk : BK) (F : Spc) : Prop := ∃ (fd : FuncData) (ps : List Str), ps.length = np ∧ BindOk W s.K fd ps bk ∧ FnOk s.P s.w s.K s.mg s.base CX0 k a fd ps (spS W F)
theorem EnvOk.start {N : List Str} {ds : List D} {vs : List V} {nn : Nat} (h : DenL W B μ ds vs) (hn : N.length = nn) : EnvOk W B μ (startD nn ds) (L2.start N vs) := by
  unfold startD L2.start
  refine ⟨by simp [h.length, hn], fun i d e => ?_⟩
  have hl := h.length
  by_cases q : i < ds.length
  · rw [List.getElem?_append_left (by simpa using q), List.getElem?_map] at e
    cases e2 : ds[i]? with
    | none => rw [e2] at e; cases e
    | some d' =>
      rw [e2] at e
      cases e
      obtain ⟨v, h1, h2⟩ := h.at e2
      refine ⟨v, ?_, h2⟩
      rw [List.getElem?_append_left (by rw [List.length_map, ← hl]; exact q), List.getElem?_map, h1]
      rfl
  · rw [List.getElem?_append_right (by simpa using Nat.le_of_not_lt q), List.getElem?_replicate] at e
    split at e <;> cases e
/-- a body as it runs -/
theorem body_ok {N : List Str} {fd : FD} {ds : List D} {vs : List V} {Q : VK} {d : D} {ev : DEnv → Store → Option O} (hN : N.length = fd.nn) (r : Rel W B μ S H) (hd : DenL W B μ ds vs) (e : runB T fd ds S = some (d, S'))
    (q : ∀ B' μ' H' v, Step B μ H B' μ' H' → Rel W B' μ' S' H' → Den W B' μ' d v → Q v H') : tS W (exL T fd.body) { nx := fun _ H' => Q .non H', rt := Q } (L2.start N vs) H := by
  unfold runB at e
  split at e
  · split at e
    · rename_i d' S1 e1
      cases e
      exact ⟨_, S, B, μ, _, r, .start hd hN, e1, fun B' μ' H' s1 r1 v hv => q B' μ' H' v s1 r1 hv⟩
    · rename_i env1 S1 e1
      cases e
      exact ⟨_, S, B, μ, _, r, .start hd hN, e1, fun B' μ' H' s1 r1 σ _ => q B' μ' H' .non s1 r1 .non⟩
    · cases e
  · cases e
/-- a def: what its text is -/
structure DefI (W : WP) (s : Site) (G : List (Str × GK)) (mnm : Nat → Str) (d : FD) (a : Addr) : Prop where
  ex : ∃ (x qual : Str) (params : Arguments) (body : List Stmt) (scope : Scope) (dvs : List V) (kws : List (Str × V)) (fd : FuncData) (N ps : List Str),
    FunD s.K x qual params body scope dvs kws a fd ∧ FnScope N ps scope ∧ BindOk W s.K fd ps d.bk ∧ ps.length = d.np ∧ N.length = d.nn ∧ ∀ T k, SndSs ⟨N, scope, none, G, d.lam⟩ W T mnm k body d.body
structure GenI (W : WP) (s : Site) (G : List (Str × GK)) (mnm : Nat → Str) (g : GD) (a : Addr) : Prop where
  ex : ∃ (x qual : Str) (params : Arguments) (body : List Stmt) (scope : Scope) (dvs : List V) (kws : List (Str × V)) (fd : FuncData) (N ps : List Str),
    FunD s.K x qual params body scope dvs kws a fd ∧ GScope N ps scope ∧ Binds s.K fd ps [] ∧ ps.length = g.np ∧ N.length = g.nn ∧ ∀ T k, SndGn ⟨N, scope, none, G, false⟩ W T mnm k body g g.pre
/-- what the head gives -/
structure Stat (W : WP) (s : Site) (p : Prog) (mnm : Nat → Str) (G : List (Str × GK)) (ad : Nat → Addr) : Prop where
  hK : s.K = W.K
  inj : ∀ f g, W.fnm f = W.fnm g → f = g
  nmf : ∀ m f, W.fnm f ≠ mnm m
  cls : ∀ c, p.ck c = true → Cls s.K (W.cls c)
  fld : ∀ c f, p.fl c f = true → NoAttr s.K (W.cls c) (W.fnm f)
  mth : ∀ c m f, p.mt c m = some f → Meth s.K (W.cls c) (mnm m) (ad f) ∧ ((∃ d, p.fs f = some d ∧ d.bk = .pl) ∨ (p.fs f = none ∧ ∃ d, p.nv f = some d))
  ins : ∀ c, p.ic c = true → Cls s.K (W.cls c) ∧ PySem.W.findIn s.K (.ref (W.cls c)) "__class__" = some (some (.builtin "object.__class__")) ∧ PySem.W.specialIn s.K (.builtin "object.__class__") "__get__" = some (some (.builtin "getset_descriptor.__get__")) ∧
    PySem.W.takesIn s.K (.builtin "object.__class__") = some true ∧ PySem.W.mroIn s.K (W.cls c) (.type "object") = some true
  kit : ∀ c, p.ic c = true → PySem.W.kitOne s.K (.type "NoneType") (.ref (W.cls c)) = some false ∧ ∀ b : BTy, PySem.W.kitOne s.K (.type b.nm) (.ref (W.cls c)) = some false ∧ PySem.W.kitOne s.K (.ref (W.cls c)) (.type b.nm) = some false
  kit2 : ∀ c c', p.ic c = true → p.ic c' = true → PySem.W.kitOne s.K (.ref (W.cls c)) (.ref (W.cls c')) = some (c == c')
  gfn : ∀ x f np, G.lookup x = some (.fn f np) → s.mg x = some (.ref (ad f)) ∧ PySem.W.keepIn s.K (.ref (ad f)) = true ∧ ((∃ d, p.fs f = some d ∧ d.np = np ∧ d.bk = .pl) ∨ (p.fs f = none ∧ ∃ F, p.nv f = some (np, F)))
  gcl : ∀ x c f np, G.lookup x = some (.cls c f np) → s.mg x = some (.ref (W.cls c)) ∧ Mk s.K (W.cls c) (ad f) ∧ ∃ d, p.fs f = some d ∧ d.np = np + 1 ∧ d.bk = .pl
  gfk : ∀ x f np ks dfl, G.lookup x = some (.fnk f np ks dfl) → s.mg x = some (.ref (ad f)) ∧ PySem.W.keepIn s.K (.ref (ad f)) = true ∧ ∃ d, p.fs f = some d ∧ d.np = np ∧ d.bk = .kw ks dfl
  gint : ∀ x i, G.lookup x = some (.int i) → ∃ t, s.mg x = some (.int i t)
  gstr : ∀ x l, G.lookup x = some (.str l) → ∃ t, s.mg x = some (.str ⟨l.toArray⟩ t)
  gbn : ∀ x, G.lookup x = some .bn → s.mg x = none
  ggn : ∀ x f np, G.lookup x = some (.gen f np) → s.mg x = some (.ref (ad f)) ∧ PySem.W.keepIn s.K (.ref (ad f)) = true ∧ p.fs f = none ∧ p.nv f = none ∧ ∃ g, p.gs f = some g ∧ g.np = np
  gen_ : ∀ f g, p.gs f = some g → GenI W s G mnm g (ad f)
  def_ : ∀ f d, p.fs f = some d → DefI W s G mnm d (ad f)
  lam : ∀ f d, p.fs f = some d → d.lam = true → ∀ (fd : FuncData) (oc : Value) (od : Option Addr) (osl : Array (Option Value)), s.K.lookup (ad f) = some ⟨oc, od, .func fd, osl⟩ → ∃ c P, fd.code = .ref c ∧ LamX.TabB s.base s.mg c P ∧ (P, (fd.qualname ++ ".<locals>.") ++ "<lambda>") ∈ W.tbs ∧ ∀ p ∈ W.tbs, p.1 = P → p.2 = (fd.qualname ++ ".<locals>.") ++ "<lambda>"
  nat : ∀ f np F, p.fs f = none → p.nv f = some (np, F) → ∀ n, (∀ g d, p.fs g = some d → FnT W s (2 * n) (ad g) d.np d.bk ((tabN p n).fn g)) → (∀ g np F, p.fs g = none → p.nv g = some (np, F) → FnT W s (2 * n) (ad g) np .pl ((tabN p n).fn g)) → FnT W s (2 * (n + 1)) (ad f) np .pl (F (tabN p n))
  nat0 : ∀ f np F, p.fs f = none → p.nv f = some (np, F) → ∃ (fd : FuncData) (ps : List Str), ps.length = np ∧ Binds s.K fd ps []
theorem fnT_never {s : Site} {k : Nat} {a : Addr} {np : Nat} {bk : BK} {F : Spc} (hF : ∀ ds S, F ds S = none) (h : ∃ (fd : FuncData) (ps : List Str), ps.length = np ∧ BindOk W s.K fd ps bk) : FnT W s k a np bk F := by
  obtain ⟨fd, ps, h1, h2⟩ := h
  refine ⟨fd, ps, h1, h2, ⟨?_, ?_⟩⟩
  · rintro vs H Q E ⟨B, μ, S, ds, d, S', r, hd, e, q⟩
    rw [hF] at e; cases e
  · rintro A outer s H args us vs Q E _ _ _ _ ⟨B, μ, S, ds, d, S', r, hd, e, q⟩
    rw [hF] at e; cases e
theorem FnT.congr {s : Site} {k : Nat} {a : Addr} {np : Nat} {bk : BK} {F F' : Spc} (h : FnT W s k a np bk F) (e : ∀ ds S x, F' ds S = some x → F ds S = some x) : FnT W s k a np bk F' := by
  obtain ⟨fd, ps, h1, h2, h3⟩ := h
  exact ⟨fd, ps, h1, h2, h3.imp fun vs H Q E ⟨B, μ, S, ds, d, S', r, hd, e', q⟩ => ⟨B, μ, S, ds, d, S', r, hd, e _ _ _ e', q⟩⟩
theorem cxOk_of {s : Site} {p : Prog} {G : List (Str × GK)} {ad : Nat → Addr} (st : Stat W s p mnm G ad) {n : Nat} (all : ∀ g d, p.fs g = some d → FnT W s (2 * n) (ad g) d.np d.bk ((tabN p n).fn g)) (alv : ∀ g np F, p.fs g = none → p.nv g = some (np, F) → FnT W s (2 * n) (ad g) np .pl ((tabN p n).fn g)) (agn : ∀ f g, p.fs f = none → p.nv f = none → p.gs f = some g → GnT W s (2 * n) (ad f) g.np ((tabN p n).fn f))
    {X : Cx} {N : List Str} {scope : Scope} {lm : Bool} (h1 : X.prog = s.P) (h2 : X.w = s.w) (h3 : X.K = s.K) (h4 : X.mg = s.mg) (h5 : X.base = s.base) (h6 : X.N = N) (h7 : X.env.scope = scope) (h8 : ∀ x, X.fn x = true) (h9 : N.Nodup) (h10 : X.calm = true) (h11 : Room (2 * n + 1) X.A) (h12 : X.xe = fun _ _ => False) (h13 : lm = true → LamC W X) :
    CxOk ⟨N, scope, none, G, lm⟩ W (tabN p n) mnm (2 * n) X := by
  have tk : (tabN p n).ck = p.ck ∧ (tabN p n).fl = p.fl ∧ (tabN p n).ic = p.ic ∧ (tabN p n).mt = p.mt := by cases n <;> (rw [tabN]; exact ⟨rfl, rfl, rfl, rfl⟩)
  have fx : ∀ {a np F}, FnT W s (2 * n) a np .pl F → FnS W (2 * n) X a np F := by
    rintro a np F ⟨fd, ps, e1, e2, e3⟩
    exact ⟨fd, ps, e1, by rw [h3]; exact e2, by rw [h1, h2, h3, h4, h5]; exact e3⟩
  have fb : ∀ {a np bk F}, FnT W s (2 * n) a np bk F → FnB W (2 * n) X a np bk F := by
    rintro a np bk F ⟨fd, ps, e1, e2, e3⟩
    exact ⟨fd, ps, e1, by rw [h3]; exact e2, by rw [h1, h2, h3, h4, h5]; exact e3⟩
  have fg : ∀ {a np F}, GnT W s (2 * n) a np F → GnS W (2 * n) X a np F := by
    rintro a np F (h | ⟨hl, j, fd, ps, e0, e1, e2, e3⟩)
    · exact .inl h
    · exact .inr ⟨hl, j, fd, ps, e0, e1, by rw [h3]; exact e2, by rw [h1, h2, h3, h4, h5]; exact e3⟩
  refine ⟨h6, h7, fun x _ => h8 x, h9, h10, h11, by rw [h3]; exact st.hK, h12, fun x g hg => ?_, ?_, h13⟩
  · cases g with
    | fn f np =>
      obtain ⟨e1, e2, e3⟩ := st.gfn x f np hg
      refine ⟨ad f, by rw [h4]; exact e1, by rw [h3]; exact e2, fx ?_⟩
      rcases e3 with ⟨d, e3, e4, e5⟩ | ⟨e3, F, e4⟩
      · rw [← e4, ← e5]; exact all _ _ e3
      · exact alv _ _ _ e3 e4
    | fnk f np ks dfl =>
      obtain ⟨e1, e2, d, e3, e4, e5⟩ := st.gfk x f np ks dfl hg
      exact ⟨ad f, by rw [h4]; exact e1, by rw [h3]; exact e2, fb (by rw [← e4, ← e5]; exact all _ _ e3)⟩
    | gen f np =>
      obtain ⟨e1, e2, e3, e4, g, e5, e6⟩ := st.ggn x f np hg
      exact ⟨ad f, by rw [h4]; exact e1, by rw [h3]; exact e2, fg (by rw [← e6]; exact agn _ _ e3 e4 e5)⟩
    | cls cc f np =>
      obtain ⟨e1, e2, d, e3, e4, e5⟩ := st.gcl x cc f np hg
      exact ⟨by rw [h4]; exact e1, ad f, by rw [h3]; exact e2, fx (by rw [← e4, ← e5]; exact all _ _ e3)⟩
    | int i => obtain ⟨t, e⟩ := st.gint x i hg; exact ⟨t, by rw [h4]; exact e⟩
    | str l => obtain ⟨t, e⟩ := st.gstr x l hg; exact ⟨t, by rw [h4]; exact e⟩
    | bn => show X.mg x = none; rw [h4]; exact st.gbn x hg
  · refine ⟨st.inj, st.nmf, fun c hc => ?_, fun c f hf => ?_, fun c m f hm => ?_, fun c hc => ?_, fun c hc => ?_, fun c c' hc hc' => ?_⟩
    · rw [h3]; rw [tk.1] at hc; exact st.cls c hc
    · rw [h3]; rw [tk.2.1] at hf; exact st.fld c f hf
    · rw [tk.2.2.2] at hm
      obtain ⟨e1, e2⟩ := st.mth c m f hm
      rcases e2 with ⟨d, e2, e5⟩ | ⟨e2, ⟨np, F⟩, e3⟩
      · exact ⟨ad f, d.np, by rw [h3]; exact e1, fx (by rw [← e5]; exact all _ _ e2)⟩
      · exact ⟨ad f, np, by rw [h3]; exact e1, fx (alv _ _ _ e2 e3)⟩
    · rw [tk.2.2.1] at hc; rw [h3]; exact st.ins c hc
    · rw [tk.2.2.1] at hc; rw [h3]; exact st.kit c hc
    · rw [tk.2.2.1] at hc hc'; rw [h3]; exact st.kit2 c c' hc hc'
theorem def_ok {s : Site} {p : Prog} {G : List (Str × GK)} {ad : Nat → Addr} (st : Stat W s p mnm G ad) {n : Nat} (all : ∀ g d, p.fs g = some d → FnT W s (2 * n) (ad g) d.np d.bk ((tabN p n).fn g)) (alv : ∀ g np F, p.fs g = none → p.nv g = some (np, F) → FnT W s (2 * n) (ad g) np .pl ((tabN p n).fn g)) (agn : ∀ f g, p.fs f = none → p.nv f = none → p.gs f = some g → GnT W s (2 * n) (ad f) g.np ((tabN p n).fn f))
    {f : Nat} {d : FD} (hf : p.fs f = some d) : FnT W s (2 * (n + 1)) (ad f) d.np d.bk (fun ds S => if d.mode = 1 then none else runF (tabN p n) d ds S) := by
  obtain ⟨x, qual, params, body, scope, dvs, kws, fd, N, ps, F, SS, hb, hps, hN, snd⟩ := (st.def_ f d hf).ex
  obtain ⟨oc, od, dV, kV, doc, pm, an, cdv, ct, osl, rfl, lk, hcd, hD, hKw⟩ := F.ex
  refine ⟨_, ps, hps, hb, ?_⟩
  have hlen : ∀ ds S r, (if d.mode = 1 then none else runF (tabN p n) d ds S) = some r → ds.length = d.np := by
    intro ds S r e
    split at e
    · cases e
    · rename_i hm
      unfold runF at e
      split at e
      · split at e
        · split at e
          · rename_i x1 S1 e1
            unfold runB at e1
            split at e1
            · assumption
            · cases e1
          · cases e
        · cases e
      · rename_i q; exact absurd q hm
      · unfold runB at e
        split at e
        · assumption
        · cases e
  refine fn_of (k := 2 * n + 1) lk hcd SS ?_ ?_
  · rintro vs H Q E ⟨B, μ, S, ds, dd, S', r, hd, e, q⟩
    rw [← hd.length, hps]
    exact hlen _ _ _ e
  · rintro A outer sh H vs Q E hr ⟨B, μ, S, ds, dd, S', r, hd, e, q⟩
    have snd' := snd (tabN p n) (2 * n) (cxOf CX0 s.P s.w s.K s.mg s.base N qual scope (ad f) cdv A outer sh H E).nox (cxOk_of st all alv agn rfl rfl rfl rfl rfl rfl rfl (fun _ => rfl) SS.nd rfl hr rfl (fun hl => st.lam f d hf hl _ _ _ _ lk))
    refine ⟨_, snd'.nox, ?_⟩
    split at e
    · cases e
    · rename_i hm
      unfold runF at e
      split at e
      · dsimp only at e
        split at e
        · rename_i hp
          split at e
          · rename_i d1 S1 e1
            split at e
            · rename_i e2 ef
              cases e
              have r0 := r.empty
              refine body_ok (ev := fun _ _ => none) hN r0 (denL_pure ds vs hp hd) e1 fun B1 μ1 H1 v s1 r1 hv => ?_
              obtain ⟨s2, r2⟩ := pure_back r (Ex.refl _) (fun a ha => by simp at ha) s1 r1
              exact q _ _ _ v s2 r2 (den_nil (frz_ok r1 hv ef))
            · cases e
          · cases e
        · cases e
      · rename_i q'; exact absurd q' hm
      · exact body_ok (ev := fun _ _ => none) hN r hd e q
theorem gen_ok {s : Site} {p : Prog} {G : List (Str × GK)} {ad : Nat → Addr} (st : Stat W s p mnm G ad) {n : Nat} (all : ∀ g d, p.fs g = some d → FnT W s (2 * n) (ad g) d.np d.bk ((tabN p n).fn g)) (alv : ∀ g np F, p.fs g = none → p.nv g = some (np, F) → FnT W s (2 * n) (ad g) np .pl ((tabN p n).fn g)) (agn : ∀ f g, p.fs f = none → p.nv f = none → p.gs f = some g → GnT W s (2 * n) (ad f) g.np ((tabN p n).fn f))
    {f : Nat} {g : GD} (hf : p.gs f = some g) : GnT W s (2 * (n + 2)) (ad f) g.np (genF (tabN p n) g) := by
  obtain ⟨x, qual, params, body, scope, dvs, kws, fd, N, ps, F, SS, hb, hps, hN, snd⟩ := (st.gen_ f g hf).ex
  obtain ⟨oc, od, dV, kV, doc, pm, an, cdv, ct, osl, rfl, lk, hcd, hD, hKw⟩ := F.ex
  refine .inr ⟨fun ds S d S' e => ?_, 2 * n + 2, _, ps, by omega, hps, hb, ?_⟩
  · unfold genF at e
    split at e
    · split at e
      · split at e
        · split at e
          · cases e; exact ⟨_, rfl⟩
          · cases e
        · cases e
      · cases e
    · cases e
  refine gfn_of (k := 2 * n + 1) lk hcd SS ?_ ?_
  · rintro vs H Q E ⟨B, μ, S, ds, ys, S', r, hd, e, q⟩
    rw [← hd.length, hps]
    unfold genF at e
    split at e
    · rename_i hh
      rw [Bool.and_eq_true] at hh
      exact of_decide_eq_true hh.2
    · cases e
  · rintro A outer sh H vs Q E pn hr ⟨B, μ, S, ds, ys, S', r, hd, e, q⟩
    unfold genF at e
    split at e
    · rename_i hh
      rw [Bool.and_eq_true] at hh
      split at e
      · rename_i ys0 S5 eb
        split at e
        · rename_i hz
          split at e
          · rename_i zs ez
            cases e
            have snd' := snd (tabN p n) (2 * n) (gcxOf s.P s.w s.K s.mg s.base N qual scope (ad f) cdv A outer sh H E pn) (cxOk_of st all alv agn rfl rfl rfl rfl rfl rfl rfl (fun _ => rfl) SS.nd rfl hr rfl (fun h => by cases h)) owns_gcx SS.co (by simp [interactive, gcxOf, cxOf, PyProof.Rows.envOfC, SS.kind])
            refine ⟨_, snd', ?_⟩
            unfold genB at eb
            split at eb
            · rename_i env1 S1 e1
              split at eb
              · rename_i ds2 S2 e2
                split at eb
                · rename_i sr e3
                  have r0 := r.empty
                  refine ⟨_, [], B, [], env1, S1, ds2, S2, sr, ys0, S5, r0, EnvOk.start (denL_pure ds vs hh.1 hd) hN, e1, e2, e3, eb, rfl, of_decide_eq_true hz, fun B1 μ1 H1 out σ1 s1 r1 dl => ?_⟩
                  obtain ⟨s2, r2⟩ := pure_back r (Ex.refl _) (fun a ha => by simp at ha) s1 r1
                  exact q _ _ _ out s2 r2 (denL_nil (frzL_den r1 dl ez))
                · cases eb
              · cases eb
            · cases eb
          · cases e
        · cases e
      · cases e
    · cases e
/-- no def of the second kind -/
def NoOne (p : Prog) : Prop := ∀ f d, p.fs f = some d → d.mode ≠ 1
def AllOk (W : WP) (s : Site) (p : Prog) (ad : Nat → Addr) (n : Nat) : Prop := (∀ g d, p.fs g = some d → FnT W s (2 * n) (ad g) d.np d.bk ((tabN p n).fn g)) ∧ (∀ g np F, p.fs g = none → p.nv g = some (np, F) → FnT W s (2 * n) (ad g) np .pl ((tabN p n).fn g)) ∧
  ∀ f g, p.fs f = none → p.nv f = none → p.gs f = some g → GnT W s (2 * n) (ad f) g.np ((tabN p n).fn f)
theorem ok_zero {s : Site} {p : Prog} {G : List (Str × GK)} {ad : Nat → Addr} (st : Stat W s p mnm G ad) : AllOk W s p ad 0 := by
  refine ⟨fun g d h => fnT_never (fun _ _ => rfl) ?_, fun g np F h h2 => fnT_never (fun _ _ => rfl) (st.nat0 g np F h h2), fun f g h h2 h3 => .inl fun _ _ => rfl⟩
  obtain ⟨x, qual, params, body, scope, dvs, kws, fd, N, ps, F, SS, hb, hps, hN, snd⟩ := (st.def_ g d h).ex
  exact ⟨fd, ps, hps, hb⟩
theorem ok_next {s : Site} {p : Prog} {G : List (Str × GK)} {ad : Nat → Addr} (st : Stat W s p mnm G ad) (no : NoOne p) {n : Nat} (a : AllOk W s p ad n) (b : n = 0 ∨ ∃ m, n = m + 1 ∧ AllOk W s p ad m) : AllOk W s p ad (n + 1) := by
  obtain ⟨all, alv, agn⟩ := a
  refine ⟨fun g d h => (def_ok st all alv agn h).congr fun ds S x e => ?_, fun g np F h h2 => (st.nat g np F h h2 n all alv).congr fun ds S x e => ?_, fun f g h h2 h3 => ?_⟩
  · rw [if_neg (no g d h)]
    simp only [tabN, h] at e
    exact e
  · simp only [tabN, h, h2] at e
    split at e
    · exact e
    · cases e
  · rcases b with rfl | ⟨m, rfl, a1, a2, a3⟩
    · refine .inl fun ds S => ?_
      simp only [tabN, h, h2, h3]
    · have := gen_ok st a1 a2 a3 h3
      have e : (tabN p (m + 1 + 1)).fn f = genF (tabN p m) g := by
        funext ds S
        rw [tabN]
        simp only [h, h2, h3]
      rw [e]
      exact this
theorem all_ok {s : Site} {p : Prog} {G : List (Str × GK)} {ad : Nat → Addr} (st : Stat W s p mnm G ad) (no : NoOne p) : ∀ n, AllOk W s p ad n
  | 0 => ok_zero st
  | 1 => ok_next st no (ok_zero st) (.inl rfl)
  | n + 2 => ok_next st no (all_ok st no (n + 1)) (.inr ⟨n, rfl, all_ok st no n⟩)
end LN

set_option Elab.async false
set_option linter.all false
set_option maxRecDepth 100000
set_option maxHeartbeats 1000000
namespace LN
open PySem L2
variable {W : WP} {B B' : Hp} {μ μ' : List Addr} {S S' : Store} {H H' : Hp} {c : Cn} {T : Tab} {mnm : Nat → Str} {k : Nat} {X : Cx}

/-! ### is, of bools -/
theorem op_isB (ok : CxOk c W T mnm k X) : OpR X (compareOp .Is) (r2 W .isB) := OpR.imp op_isBl (by
  rintro x y H Q ⟨B, μ, S, a, b, d, r, ha, hb, e, q⟩
  simp only [p2] at e
  split at e
  · cases e
    exact ⟨_, _, den_bl ha, den_bl hb, q _ _ _ (Step.refl ..) r (.bl _)⟩
  · cases e)
theorem op_notB (ok : CxOk c W T mnm k X) : OpR X (compareOp .IsNot) (r2 W .notB) := OpR.imp op_notBl (by
  rintro x y H Q ⟨B, μ, S, a, b, d, r, ha, hb, e, q⟩
  simp only [p2] at e
  split at e
  · cases e
    exact ⟨_, _, den_bl ha, den_bl hb, q _ _ _ (Step.refl ..) r (.bl _)⟩
  · cases e)

/-! ### name op= e -/
def r2A (W : WP) (p : P2) : R2 := fun x y H Q => ∃ B μ S a b d, Rel W B μ S H ∧ Den W B μ a x ∧ Den W B μ b y ∧ isIS a = true ∧ p2 p a b S = some d ∧
  ∀ B' H' v, Step B μ H B' μ H' → Rel W B' μ S H' → Den W B' μ d v → Q v H'
theorem snd_aug {x : Str} {i : Nat} {e : Expr} {ie : IE} {op : Operator} {p : P2} {pos' pos : Pos} (hi : c.N[i]? = some x) (hx : locB c x = true) (ho : ∀ X, CxOk c W T mnm k X → OpR X (inplaceOp op) (r2A W p)) (he : SndE c W T mnm k e ie) : SndS c W T mnm k (.AugAssign (.Name x pos') op e pos) (.aug i p ie) := fun X ok =>
  PS.imp (ps_aug (i := i) (by rw [ok.hN]; exact ok.nd) (by rw [ok.hN]; exact hi) (loc_of ok hx).1 (he X ok).1 (ho X ok) (loc_of ok hx).2) (by
  rintro D σ H ⟨env, S, B, μ, o, r, eo, e, q⟩
  simp only [ex] at e
  split at e
  · rename_i x0 hx0
    split at e
    · rename_i y S1 e1
      split at e
      · rename_i his
        split at e
        · rename_i z e2
          cases e
          obtain ⟨v, h1, h2⟩ := eo.2 _ _ hx0
          refine ⟨v, h1, env, S, B, μ, y, S1, r, eo, e1, fun B1 μ1 H1 w s1 r1 d1 => ?_⟩
          refine ⟨B1, μ1, S1, x0, y, z, r1, Den.mono s1.grow s1.p _ _ h2, d1, his, e2, fun B2 H2 u s2 r2 d2 => ?_⟩
          exact q _ _ _ (s1.trans s2) r2 _ (((eo.step s1).step s2).set d2)
        · cases e
      · cases e
    · cases e
  · cases e)
theorem ia_p2 (ok : CxOk c W T mnm k X) : OpR X (inplaceOp .Add) (r2A W .add) ∧ OpR X (inplaceOp .Sub) (r2A W .sub) ∧ OpR X (inplaceOp .Mult) (r2A W .mul) ∧ OpR X (inplaceOp .FloorDiv) (r2A W .fdiv) ∧ OpR X (inplaceOp .Mod) (r2A W .mod) := by
  refine ⟨?_, ?_, ?_, ?_, ?_⟩
  · refine OpR.imp (iop_add.or iop_add_str) ?_
    rintro x y H Q ⟨B, μ, S, a, b, d, r, ha, hb, his, e, q⟩
    simp only [p2] at e
    split at e
    · cases e
      exact .inl ⟨_, _, den_int ha, den_int hb, q _ _ _ (Step.refl ..) r (.int _)⟩
    · split at e
      · rename_i hz
        cases e
        refine .inr ⟨_, _, den_str ha, den_str hb, ?_, ?_⟩
        · have := sz hz
          simpa [Str.length] using this
        · refine q _ _ _ (Step.refl ..) r ?_
          have : ∀ s t : List Nat, (⟨s.toArray⟩ : Str) ++ ⟨t.toArray⟩ = ⟨(s ++ t).toArray⟩ := fun s t => by
            show Str.append _ _ = _
            simp [Str.append]
          rw [this]
          exact .str _
      · cases e
    · cases a <;> first | (cases his; done) | (simp [lstD] at e)
  · refine OpR.imp iop_sub ?_
    rintro x y H Q ⟨B, μ, S, a, b, d, r, ha, hb, his, e, q⟩
    simp only [p2] at e
    split at e
    · cases e
      exact ⟨_, _, den_int ha, den_int hb, q _ _ _ (Step.refl ..) r (.int _)⟩
    · cases e
  · refine OpR.imp iop_mul ?_
    rintro x y H Q ⟨B, μ, S, a, b, d, r, ha, hb, his, e, q⟩
    simp only [p2] at e
    split at e
    · split at e
      · rename_i hc
        cases e
        refine ⟨_, _, den_int ha, den_int hb, ?_, q _ _ _ (Step.refl ..) r (.int _)⟩
        unfold cmulB at hc
        rw [Bool.or_eq_true, decide_eq_true_eq, decide_eq_true_eq] at hc
        exact hc
      · cases e
    · cases e
  · refine OpR.imp iop_fdiv ?_
    rintro x y H Q ⟨B, μ, S, a, b, d, r, ha, hb, his, e, q⟩
    simp only [p2] at e
    split at e
    · split at e
      · rename_i hc
        cases e
        exact ⟨_, _, den_int ha, den_int hb, hc, q _ _ _ (Step.refl ..) r (.int _)⟩
      · cases e
    · cases e
  · refine OpR.imp iop_mod ?_
    rintro x y H Q ⟨B, μ, S, a, b, d, r, ha, hb, his, e, q⟩
    simp only [p2] at e
    split at e
    · split at e
      · rename_i hc
        cases e
        exact ⟨_, _, den_int ha, den_int hb, hc, q _ _ _ (Step.refl ..) r (.int _)⟩
      · cases e
    · cases e
/-! ### a, b = (1, 2): constants, stored in order -/
theorem fm_lt {α β : Type} {f : α → Option β} : ∀ {l : List α}, (l.filterMap f).length ≤ l.length ∧ (l.any (fun a => (f a).isNone) = true → (l.filterMap f).length < l.length)
  | [] => ⟨Nat.le_refl _, fun h => by cases h⟩
  | a :: l => by
    obtain ⟨h1, h2⟩ := fm_lt (f := f) (l := l)
    cases e : f a with
    | none =>
      rw [List.filterMap_cons_none e]
      exact ⟨Nat.le_succ_of_le h1, fun _ => Nat.lt_succ_of_le h1⟩
    | some b =>
      rw [List.filterMap_cons_some e]
      refine ⟨Nat.succ_le_succ h1, fun h => ?_⟩
      rw [List.any_cons, e] at h
      exact Nat.succ_lt_succ (h2 (by simpa using h))
def anyCell (c : Cn) (ts : List Expr) : Bool := ts.any fun e => match e with
  | .Name x _ => !(match c.sc.names.lookup x with | some .local => true | _ => false)
  | _ => false
def noSwap (c : Cn) (ts vs : List Expr) : Bool := vs.all (foldedForSure 8) || (!(ts.length == 2 || ts.length == 3) || anyCell c ts)
theorem swapN {ts vs : List Expr} {k1 k2 : Nat} {p1 p2 : Pos} (ok : CxOk c W T mnm k X) (h : noSwap c ts vs = true) : swappedStores [.Tuple ts k1 p1] (.Tuple vs k2 p2) X.env = pure none := by
  unfold noSwap at h
  rw [Bool.or_eq_true, Bool.or_eq_true, Bool.not_eq_true'] at h
  unfold swappedStores
  rcases h with h8 | h8 | h8
  · simp only [h8]
    split
    · rfl
    · split
      · rfl
      · simp
  · simp [h8]
  · dsimp only
    split
    · rfl
    · split
      · rfl
      · have key : ∀ (f : Expr → Option Str) (z : Bool), (ts.any fun a => (f a).isNone) = true → ((ts.filterMap f).length != ts.length || z) = true := fun f z h => by
          have := (fm_lt (f := f) (l := ts)).2 h
          have : ((ts.filterMap f).length != ts.length) = true := by rw [bne_iff_ne]; omega
          rw [this]; rfl
        refine if_pos (key _ _ ?_)
        unfold anyCell at h8
        rw [List.any_eq_true] at h8 ⊢
        obtain ⟨e, he, hx⟩ := h8
        refine ⟨e, he, ?_⟩
        split at hx
        · rename_i x p
          have hk : (X.env.kindOf x == some .local) = false := by
            show (X.env.scope.names.lookup x == some .local) = false
            rw [ok.hs]
            revert hx
            cases c.sc.names.lookup x with
            | none => intro _; rfl
            | some kd => cases kd <;> first | (intro h; cases h; done) | (intro _; rfl)
          simp [hk]
        · cases hx
theorem snd_asgT {ts vs : List Expr} {k1 k2 : Nat} {p1 p2 : Pos} {tg : Tg} {ie : IE} {pos : Pos} (h8 : noSwap c ts vs = true) (ht : SndG c W T mnm k (.Tuple ts k1 p1) tg) (he : SndE c W T mnm k (.Tuple vs k2 p2) ie) : SndS c W T mnm k (.Assign [.Tuple ts k1 p1] (.Tuple vs k2 p2) pos) (.asg tg ie) := fun X ok =>
  PS.imp (ps_asg (he X ok).1 (ht.1 X ok) rfl (swapN ok h8) (one_star rfl)) fun D σ H h => run_asg h
end LN

set_option Elab.async false
set_option linter.all false
set_option maxRecDepth 100000
set_option maxHeartbeats 1000000
namespace LN
open PySem L2
variable {W : WP} {B B' : Hp} {μ μ' : List Addr} {S S' : Store} {H H' : Hp} {c : Cn} {T : Tab} {mnm : Nat → Str} {k : Nat} {X : Cx}

/-! ### dict comprehensions -/
def dcG (stp : D → Store → Option (Option (DK × D) × Store)) (s : Src) : Nat → Nat → List DK → List D → Store → Option ((List DK × List D) × Store)
  | 0, _, _, _, _ => none
  | n + 1, k, ks, ys, S => match cur s S with
    | some xs => match xs[k]? with
      | none => some ((ks, ys), S)
      | some x => match stp x S with
        | some (some (j, z), S1) => if ks.length < 100000 then dcG stp s n (k + 1) (putK2 ks ys j z).1 (putK2 ks ys j z).2 S1 else none
        | some (none, S1) => dcG stp s n (k + 1) ks ys S1
        | none => none
    | none => none
theorem dcL_G {stp : D → Store → Option (Option (DK × D) × Store)} {xs : List D} : ∀ (l : List D) (k : Nat) (ks : List DK) (ys : List D) (S : Store), xs.drop k = l → dcG stp (.items xs) (l.length + 1) k ks ys S = dcL stp l ks ys S
  | [], k, ks, ys, S, h => by
    have : xs[k]? = none := List.getElem?_eq_none_iff.mpr (List.drop_eq_nil_iff.mp h)
    simp only [dcL, dcG, cur, this]
  | x :: l, k, ks, ys, S, h => by
    have hx : xs[k]? = some x := by
      have : (xs.drop k)[0]? = some x := by rw [h]; rfl
      rw [List.getElem?_drop] at this
      simpa using this
    have hl : xs.drop (k + 1) = l := by
      have : xs.drop (k + 1) = (xs.drop k).drop 1 := by rw [List.drop_drop, Nat.add_comm]
      rw [this, h]; rfl
    unfold dcG
    simp only [dcL, cur, hx, List.length_cons]
    cases e : stp x S with
    | none => rfl
    | some p => cases p with
      | mk o S1 => cases o with
        | none => exact dcL_G l (k + 1) ks ys S1 hl
        | some jz => cases jz with
          | mk j z =>
            dsimp only
            split
            · exact dcL_G l (k + 1) _ _ S1 hl
            · rfl
theorem dcC_G {stp : D → Store → Option (Option (DK × D) × Store)} {i : Nat} : ∀ (n k : Nat) (ks : List DK) (ys : List D) (S : Store), dcC stp i n k ks ys S = dcG stp (.cell i) n k ks ys S
  | 0, k, _, _, S => rfl
  | n + 1, k, ks, ys, S => by
    simp only [dcC, dcG, cur]
    cases h : S[i]? with
    | none => rfl
    | some c => cases c with
      | lst xs =>
        simp only []
        cases hx : xs[k]? with
        | none => rfl
        | some x =>
          simp only []
          cases e : stp x S with
          | none => rfl
          | some p => cases p with
            | mk o S1 => cases o with
              | none => exact dcC_G n (k + 1) ks ys S1
              | some jz => cases jz with
                | mk j z =>
                  dsimp only
                  split
                  · exact dcC_G n (k + 1) _ _ S1
                  · rfl
      | ins _ _ => rfl
      | dct _ => rfl
theorem dcS_G {stp : D → Store → Option (Option (DK × D) × Store)} {s : Src} {S : Store} {r : (List DK × List D) × Store} (e : dcS stp s S = some r) : ∃ n, dcG stp s n 0 [] [] S = some r := by
  cases s with
  | items xs => exact ⟨_, by rw [dcL_G xs 0 [] [] S rfl]; exact e⟩
  | cell i =>
    simp only [dcS] at e
    split at e
    · exact ⟨_, by rw [← dcC_G]; exact e⟩
    · cases e
def dcStp (T : Tab) (tg : Tg) (cd : Option IE) (kx vx : IE) (env : DEnv) : D → Store → Option (Option (DK × D) × Store) := fun x S2 => match setT S2 tg x env with
  | some env2 => match evC T cd env2 S2 with
    | some (true, S3) => match evE T kx env2 S3 with
      | some (y, S4) => match evE T vx env2 S4 with
        | some (z, S5) => match keyD y with
          | some j => some (some (j, z), S5)
          | none => none
        | none => none
      | none => none
    | some (false, S3) => some (none, S3)
    | none => none
  | none => none
theorem run_dc {vs : List Nat} {tg : Tg} {kd : Nat} {it : List IE} {cd : Option IE} {kx vx : IE} {σ : L2.St} {H : Hp} {Q : VK} (hsl : ∀ j ∈ slots tg, j ∈ vs) (h : tE W (evE T (.dc vs tg kd it cd kx vx)) σ H Q) :
    tDc (tI W kd (evL T it)) (tG W tg) (tC1 W (evC T cd)) (tE W (evE T kx)) (tE W (evE T vx)) vs σ H Q := by
  obtain ⟨env, S, B, μ, d, S', r, eo, ee, q⟩ := h
  simp only [evE] at ee
  split at ee
  · rename_i ds S1 e1
    split at ee
    · rename_i s e2
      split at ee
      · rename_i res S5 e3
        have ee := Option.some.inj ee
        obtain ⟨n0, e4⟩ := dcS_G (stp := dcStp T tg cd kx vx (wipeD env vs)) e3
        refine ⟨env, S, B, μ, ds, S1, s, r, eo, e1, e2, fun B1 μ1 H1 J s1 r1 jo => ?_⟩
        intro D0 hD
        have hB1 : B1 D0 = none := by
          cases q : B1 D0 with
          | none => rfl
          | some x => rw [r1.sub _ _ q] at hD; cases hD
        have hm1 : D0 ∉ μ1 := fun hm => by
          obtain ⟨_, o, eo⟩ := r1.mem hm
          rw [hD] at eo; cases eo
        refine ⟨fun i m Hc => ∃ Bc μc Sc acc ks ys, Rel W Bc μc Sc Hc ∧ Step B1 μ1 H1 Bc μc Hc ∧ Bc D0 = none ∧ D0 ∉ μc ∧ Hc D0 = some (.dK ((ks.map kC).zip acc)) ∧ DenL W Bc μc ys acc ∧ ks.length = ys.length ∧ dcG (dcStp T tg cd kx vx (wipeD env vs)) s m i ks ys Sc = some (res, S5), ⟨n0, B1, μ1, S1, [], [], [], r1.aside hB1 hm1 (fun x e => by rw [hD] at e; cases e), (Step.refl ..).aside hD, hB1, hm1, upd_same, .nil, rfl, e4⟩, ?_⟩
        rintro i m Hc ⟨Bc, μc, Sc, acc, ks, ys, rc, sc, hBc, hmc, hDc, dc, hlen, eg⟩
        cases m with
        | zero => cases eg
        | succ m =>
          simp only [dcG] at eg
          split at eg
          · rename_i xs ecur
            have jj := jo Bc μc Sc Hc xs sc.grow sc.p rc ecur i
            split at eg
            · -- the end
              rename_i hx
              cases eg
              refine .inl ⟨jj.2 hx, ?_⟩
              cases ee
              obtain ⟨ν, eν, hν⟩ := sc.pre
              have hp : Pre μc (μc ++ [D0]) := ⟨[D0], rfl⟩
              have hix : (μc ++ [D0])[S5.length]? = some D0 := by rw [← rc.len]; simp
              have rr : Rel W Bc (μc ++ [D0]) (S5 ++ [.dct ks ys]) Hc := by
                refine ⟨rc.sub, by simp [rc.len], ?_, fun j a cc g1 g2 => ?_, rc.tb, rc.nt⟩
                · rw [List.nodup_append]
                  exact ⟨rc.nd, by simp, fun a ha b hb => by simp at hb; subst hb; exact fun e => hmc (e ▸ ha)⟩
                · by_cases hj : j < μc.length
                  · rw [List.getElem?_append_left hj] at g1
                    rw [List.getElem?_append_left (by rw [← rc.len]; exact hj)] at g2
                    obtain ⟨b1, b2⟩ := rc.cell j a cc g1 g2
                    exact ⟨b1, b2.mono (Ex.refl _) hp⟩
                  · have ej : j = μc.length := by
                      have := (List.getElem?_eq_some_iff.mp g1).1
                      simp at this; omega
                    subst ej
                    rw [List.getElem?_append_right (Nat.le_refl _)] at g1
                    rw [rc.len, List.getElem?_append_right (Nat.le_refl _)] at g2
                    simp at g1 g2
                    subst g1 g2
                    exact ⟨hBc, acc, hDc, hlen, DenL.mono (Ex.refl _) hp _ _ dc⟩
              refine q _ _ _ _ (s1.trans ⟨⟨ν ++ [D0], by rw [eν, List.append_assoc], fun a ha => ?_⟩, sc.grow, sc.new, sc.frame, sc.keep⟩) rr (.obj hix)
              rcases List.mem_append.mp ha with ha | ha
              · exact hν a ha
              · simp at ha; subst ha; exact fresh_of hD
            · -- a turn
              rename_i x hx
              have go := jj.1 x hx
              refine .inr ⟨go.1, fun Hn => ∃ m', m' < m + 1 ∧ ∃ Bc μc Sc acc ks ys, Rel W Bc μc Sc Hn ∧ Step B1 μ1 H1 Bc μc Hn ∧ Bc D0 = none ∧ D0 ∉ μc ∧ Hn D0 = some (.dK ((ks.map kC).zip acc)) ∧ DenL W Bc μc ys acc ∧ ks.length = ys.length ∧ dcG (dcStp T tg cd kx vx (wipeD env vs)) s m' (i + 1) ks ys Sc = some (res, S5), fun Hn hn => hn, ?_⟩
              intro v Hy hy
              obtain ⟨By, sy, ry, dy⟩ := go.2 v Hy hy
              have keepD : ∀ {Bz : Hp} {μz : List Addr} {Hz : Hp}, Step Bc μc Hc Bz μz Hz → Bz D0 = none ∧ D0 ∉ μz ∧ Hz D0 = some (.dK ((ks.map kC).zip acc)) := fun {Bz μz Hz} sz => by
                refine ⟨?_, ?_, sz.frame _ _ hDc hmc (fun _ e => by cases e)⟩
                · cases qq : Bz D0 with
                  | none => rfl
                  | some w =>
                    rcases sz.new _ _ qq with h | h
                    · rw [hBc] at h; cases h
                    · exact (h.no (fun _ e => by cases e) hDc).elim
                · obtain ⟨ν, eν, hν⟩ := sz.pre
                  rw [eν]
                  intro hm
                  rcases List.mem_append.mp hm with h | h
                  · exact hmc h
                  · exact (hν _ h).no (fun _ e => by cases e) hDc
              split at eg
              · -- kept
                rename_i j z S4 estp
                split at eg
                · rename_i hsz
                  unfold dcStp at estp
                  split at estp
                  · rename_i env2 eset
                    have eoy := ((eo.step s1).mono sc.grow sc.p).step sy
                    refine ⟨By, μc, Sc, wipeD env vs, x, env2, ry, eoy.wipe vs, dy, eset, fun σ2 eo2 off2 => ⟨wipe_off off2 hsl, ?_⟩⟩
                    split at estp
                    · rename_i S3 ec
                      refine ⟨env2, Sc, By, μc, true, S3, ry, eo2, ec, fun B3 μ3 H3 s3 r3 => ?_⟩
                      refine iteT ?_
                      split at estp
                      · rename_i y S4' ev
                        refine ⟨env2, S3, B3, μ3, y, S4', r3, eo2.step s3, ev, fun B4 μ4 H4 w s4 r4 d4 => ?_⟩
                        split at estp
                        · rename_i z' S5' ez
                          split at estp
                          · rename_i j' ej
                            cases estp
                            refine ⟨env2, S4', B4, μ4, z, S4, r4, (eo2.step s3).step s4, ez, fun B5 μ5 H5 u s5 r5 d5 => ?_⟩
                            have st := ((sy.trans s3).trans s4).trans s5
                            obtain ⟨k1, k2, k3⟩ := keepD st
                            refine ⟨(ks.map kC).zip acc, kC j, kV_of d4 ej, k3, ?_, ?_⟩
                            · rw [List.length_zip, List.length_map]
                              have : ks.length < sizeLine := Nat.lt_of_lt_of_le hsz (by decide)
                              omega
                            · obtain ⟨vs', g1, g2, g3⟩ := putK_ok (W := W) (j := j) d5 hlen (DenL.mono st.grow st.p _ _ dc)
                              exact ⟨m, Nat.lt_succ_self _, B5, μ5, S4, vs', _, _, r5.aside k1 k2 (fun x e => by rw [k3] at e; cases e; trivial), (sc.trans st).aside hD, k1, k2, by rw [upd_same, g1], g2, g3, eg⟩
                          · cases estp
                        · cases estp
                      · cases estp
                    · cases estp
                    · cases estp
                  · cases estp
                · cases eg
              · -- left out
                rename_i S4 estp
                unfold dcStp at estp
                split at estp
                · rename_i env2 eset
                  have eoy := ((eo.step s1).mono sc.grow sc.p).step sy
                  refine ⟨By, μc, Sc, wipeD env vs, x, env2, ry, eoy.wipe vs, dy, eset, fun σ2 eo2 off2 => ⟨wipe_off off2 hsl, ?_⟩⟩
                  split at estp
                  · split at estp
                    · split at estp
                      · split at estp <;> cases estp
                      · cases estp
                    · cases estp
                  · rename_i S3 ec
                    cases estp
                    refine ⟨env2, Sc, By, μc, false, S4, ry, eo2, ec, fun B3 μ3 H3 s3 r3 => ?_⟩
                    refine iteF ?_
                    have st := sy.trans s3
                    obtain ⟨k1, k2, k3⟩ := keepD st
                    exact ⟨m, Nat.lt_succ_self _, B3, μ3, S4, acc, ks, ys, r3, sc.trans st, k1, k2, k3, DenL.mono st.grow st.p _ _ dc, hlen, eg⟩
                  · cases estp
                · cases estp
              · cases eg
          · cases eg
      · cases ee
    · cases ee
  · cases ee
theorem snd_dc {kx vx tg iter : Expr} {ifs : List Expr} {scope : Scope} {own : List (Str × Nat)} {pos : Pos} {itg : Tg} {kd : Nat} {it : List IE} {cd : Option IE} {ik iv : IE} (hb : blkC c.N c.sc scope own = true) (hsl : (slots itg).all (fun j => (own.map (·.2)).contains j) = true)
    (hi : SndI c W T mnm k tg iter kd it) (hg : SndG (blkCn c scope) W T mnm k tg itg) (hc : SndC (blkCn c scope) W T mnm k ifs cd) (hk : SndE (blkCn c scope) W T mnm k kx ik) (he : SndE (blkCn c scope) W T mnm k vx iv) :
    SndE c W T mnm k (.DictComp kx vx [⟨tg, iter, ifs, 0⟩] scope pos) (.dc (own.map (·.2)) itg kd it cd ik iv) := by
  refine snd_of (fun X ok => PE.imp (pe_dc ok.calm (by rw [ok.hN]; exact ok.nd) (hi.1 X ok) (blkOk_by (by rw [ok.hN, ok.hs]; exact hb)) (fun s H C cl fp => hg.1 _ (blk_ok ok)) (fun s H C cl fp => hc _ (blk_ok ok)) (fun s H C cl fp => (hk _ (blk_ok ok)).1) (fun s H C cl fp => (he _ (blk_ok ok)).1) (fold_of hi.2)) fun σ H Q q => run_dc ?_ q) fun _ _ => rfl
  intro j hj
  have := List.all_eq_true.mp hsl j hj
  simpa using this
end LN

set_option Elab.async false
set_option linter.all false
set_option maxRecDepth 100000
set_option maxHeartbeats 1000000
namespace LN
open PySem L2
variable {W : WP} {B B' : Hp} {μ μ' : List Addr} {S S' : Store} {H H' : Hp} {c : Cn} {T : Tab} {mnm : Nat → Str} {k : Nat} {X : Cx}

/-- back from a walk under a lock: at a stood u -/
theorem lock_back {a : Addr} {i : Nat} {B2 H2 : Hp} {μ2 : List Addr} {S2 : Store} {u f : HO} (r : Rel W B μ S H) (hi : μ[i]? = some a) (hu : H a = some u) (hfp : plainO f) (s1 : Step B [] (upd H a f) B2 μ2 H2) (r1 : Rel W B2 μ2 S2 H2) :
    Step B μ H (fz B2 H2 (μ2.drop 0)) μ (upd H2 a u) ∧ Rel W (fz B2 H2 (μ2.drop 0)) μ S (upd H2 a u) := by
  have ham : a ∈ μ := List.mem_of_getElem? hi
  obtain ⟨hBa, _⟩ := r.mem ham
  obtain ⟨ν, e, hν⟩ := s1.pre
  have hm2 : μ2 = ν := by rw [e]; rfl
  have hnu : NoTbl u := by
    obtain ⟨o, e1, e2⟩ := r.memP ham
    rw [hu] at e1; cases e1; exact plain_nt e2
  have back : ∀ b, Fresh (upd H a f) b → Fresh H b := fun b h => fresh_upd (plain_nt hfp) h
  have fr : ∀ b ∈ μ2.drop 0, Fresh H b := fun b h => back b (hν b (by rw [← hm2]; simpa using h))
  have frm : ∀ b o, b ≠ a → NoTbl o → H b = some o → H2 b = some o := fun b o q hn h => s1.frame b o (by rw [upd_ne q]; exact h) (by simp) hn
  have nw : ∀ b o, fz B2 H2 (μ2.drop 0) b = some o → B b = some o ∨ Fresh H b := fun b o h => by
    by_cases q : b ∈ μ2.drop 0
    · exact .inr (fr b q)
    · unfold fz at h
      rw [if_neg q] at h
      rcases s1.new b o h with h | h
      · exact .inl h
      · exact .inr (back b h)
  have fa : fz B2 H2 (μ2.drop 0) a = none := by
    cases q : fz B2 H2 (μ2.drop 0) a with
    | none => rfl
    | some o =>
      rcases nw a o q with h | h
      · rw [hBa] at h; cases h
      · exact (h.no hnu hu).elim
  have gr : Ex B (fz B2 H2 (μ2.drop 0)) := s1.grow.trans (fz_exd r1)
  refine ⟨⟨⟨[], by simp, by simp⟩, gr, nw, fun b o h hb hn => ?_, fun b h => ?_⟩, ⟨fun b o h => ?_, r.len, r.nd, fun j b cc h1 h2 => ?_, tabs_write r1.tb (s1.frame a _ upd_same (by simp) (plain_nt hfp)) hfp, fz_nt r1⟩⟩
  · have ne : b ≠ a := fun q => hb (q ▸ ham)
    rw [upd_ne ne]; exact frm b o ne hn h
  · exact back b (s1.keep b (fresh_upd hnu h))
  · have ne : b ≠ a := fun q => by subst q; rw [fa] at h; cases h
    rw [upd_ne ne]; exact fz_subd r1 b o h
  · obtain ⟨b1, b2⟩ := r.cell j b cc h1 h2
    obtain ⟨o, ho, hpl⟩ := b2.plain
    refine ⟨?_, (b2.mono gr (Pre.refl _)).at fun o' hp' h' => ?_⟩
    · cases q : fz B2 H2 (μ2.drop 0) b with
      | none => rfl
      | some x =>
        rcases nw b x q with h | h
        · rw [b1] at h; cases h
        · exact (h.no (plain_nt hpl) ho).elim
    · by_cases q : b = a
      · subst q; rw [upd_same, ← hu]; exact h'
      · rw [upd_ne q]; exact frm b o' q (plain_nt hp') h'
theorem EnvOk.pureN {env : DEnv} {σ : L2.St} (h : EnvOk W B μ env σ) : EnvOk W B [] (pureN env) σ := by
  unfold LN.pureN
  refine ⟨by simp [h.1], fun i d e => ?_⟩
  rw [List.getElem?_map] at e
  cases q : env[i]? with
  | none => rw [q] at e; cases e
  | some o =>
    rw [q] at e
    cases o with
    | none => cases e
    | some d' =>
      simp only [Option.map_some] at e
      split at e
      · rename_i hp
        cases e
        obtain ⟨v, h1, h2⟩ := h.2 i _ q
        exact ⟨v, h1, den_pure _ _ hp h2⟩
      · cases e
theorem kz_at {ks : List DK} {vs : List V} {i : Nat} (h : ks.length = vs.length) : (∀ j, ks[i]? = some j → ∃ v, ((ks.map kC).zip vs)[i]? = some (kC j, v)) ∧ (∀ q v, ((ks.map kC).zip vs)[i]? = some (q, v) → ∃ j, ks[i]? = some j ∧ q = kC j) := by
  constructor
  · intro j hj
    have hlt : i < vs.length := by rw [← h]; exact (List.getElem?_eq_some_iff.mp hj).1
    refine ⟨vs[i], ?_⟩
    rw [List.getElem?_zip_eq_some]
    exact ⟨by rw [List.getElem?_map, hj]; rfl, List.getElem?_eq_getElem hlt⟩
  · intro q v hq
    rw [List.getElem?_zip_eq_some, List.getElem?_map] at hq
    cases e : ks[i]? with
    | none => rw [e] at hq; cases hq.1
    | some j =>
      rw [e] at hq
      have := hq.1
      simp at this
      exact ⟨j, rfl, this.symm⟩
theorem run_lcd {cell : Bool} {vs : List Nat} {tg : Tg} {j0 : Nat} {cd : Option IE} {e : IE} {σ : L2.St} {H : Hp} {Q : VK} (hsl : ∀ j ∈ slots tg, j ∈ vs) (h : tE W (evE T (.lcd cell vs tg (.var j0) cd e)) σ H Q) :
    tLockE (tLc (iKeys (tVar j0)) (tG W tg) (tC1 W (evC T cd)) (tE W (evE T e)) vs) σ H Q := by
  obtain ⟨env, S, B, μ, d, S', r, eo, ee, q⟩ := h
  simp only [evE] at ee
  split at ee
  · rename_i i0 S1 e1
    split at e1
    · rename_i dj hj
      cases e1
      obtain ⟨v0, hv0, hd0⟩ := eo.2 _ _ hj
      split at ee
      · rename_i ks dxs hS
        obtain ⟨a, rfl, hm, ws, h1, h2, h3⟩ := r.get hd0 hS
        have hlw : ks.length = ws.length := h2.trans h3.length
        split at ee
        · rename_i ys S5 e3
          split at ee
          · rename_i zs ez
            split at ee
            · rename_i hz
              have ee := Option.some.inj ee
              have e4 := lcL_G (stp := lcStp T tg cd e (pureN (wipeD env vs))) (ks.map dkD) 0 [] (ys, S5) rfl e3
              have ham : a ∈ μ := List.mem_of_getElem? hm
              obtain ⟨hBa, _⟩ := r.mem ham
              refine ⟨a, _, h1, trivial, fun od => ?_⟩
              have r1 : Rel W B [] [] (upd H a (.frz od (.dK ((ks.map kC).zip ws)))) := ⟨fun b o hb => by
                have ne : b ≠ a := fun z => by subst z; rw [hBa] at hb; cases hb
                rw [upd_ne ne]; exact r.sub b o hb, rfl, List.nodup_nil, fun i a c h => by simp at h, tabs_write r.tb h1 trivial, r.nt⟩
              refine ⟨_, hv0, a, od, rfl, .inl ⟨_, upd_same, ?_⟩⟩
              intro D0 hD
              have hDa : D0 ≠ a := fun z => by subst z; rw [upd_same] at hD; cases hD
              have hHD : H D0 = none := by rw [upd_ne hDa] at hD; exact hD
              have hB1 : B D0 = none := by
                cases q : B D0 with
                | none => rfl
                | some x => rw [r.sub _ _ q] at hHD; cases hHD
              have eow : EnvOk W B [] (pureN (wipeD env vs)) (L2.wipe σ vs) := (eo.wipe vs).pureN
              refine ⟨fun i m Hc => ∃ Bc μc Sc acc accD rest, Rel W Bc μc Sc Hc ∧ Step B [] (upd H a (.frz od (.dK ((ks.map kC).zip ws)))) Bc μc Hc ∧ Bc D0 = none ∧ D0 ∉ μc ∧ Hc D0 = some (.lst acc) ∧ DenL W Bc μc accD acc ∧ accD ++ rest = ys ∧ lcG (lcStp T tg cd e (pureN (wipeD env vs))) (.items (ks.map dkD)) m i Sc = some (rest, S5), ⟨_, B, [], [], [], [], ys, r1.aside hB1 (by simp) (fun x e => by rw [hD] at e; cases e), (Step.refl ..).aside hD, hB1, by simp, upd_same, .nil, rfl, e4⟩, ?_⟩
              rintro i m Hc ⟨Bc, μc, Sc, acc, accD, rest, rc, sc, hBc, hmc, hDc, dc, erest, eg⟩
              have hfa : Hc a = some (.frz od (.dK ((ks.map kC).zip ws))) := sc.frame _ _ upd_same (by simp) (fun _ e => by cases e)
              cases m with
              | zero => cases eg
              | succ m =>
                simp only [lcG, cur] at eg
                rw [List.getElem?_map] at eg
                cases hk : ks[i]? with
                | none =>
                  rw [hk] at eg
                  simp only [Option.map_none] at eg
                  cases eg
                  have hle : ks.length ≤ i := List.getElem?_eq_none_iff.mp hk
                  refine .inl ⟨⟨hfa, by rw [List.length_zip, List.length_map, hlw, Nat.min_self, ← hlw]; exact hle⟩, hfa, ?_⟩
                  rw [List.append_nil] at erest
                  subst erest
                  obtain ⟨s3, r3⟩ := lock_back (f := .frz od (.dK ((ks.map kC).zip ws))) r hm h1 trivial sc rc
                  have dz := frzL_den rc dc ez
                  have hF : fz Bc Hc (μc.drop 0) D0 = none := by
                    unfold fz
                    rw [if_neg (by simpa using hmc)]
                    exact hBc
                  have hD3 : upd Hc a (.dK ((ks.map kC).zip ws)) D0 = some (.lst acc) := by rw [upd_ne hDa]; exact hDc
                  have hmD : D0 ∉ μ := fun z => by
                    obtain ⟨_, o, eo⟩ := r.mem z
                    rw [hHD] at eo; cases eo
                  cases cell with
                  | false =>
                    cases ee
                    have ex : Ex (fz Bc Hc (μc.drop 0)) (upd (fz Bc Hc (μc.drop 0)) D0 (.lst acc)) := Ex.new hF
                    have rr : Rel W (upd (fz Bc Hc (μc.drop 0)) D0 (.lst acc)) μ S (upd Hc a (.dK ((ks.map kC).zip ws))) := by
                      refine ⟨fun b x hb => ?_, r3.len, r3.nd, fun j b cc g1 g2 => ?_, r3.tb, nt_upd r3.nt (fun _ e => by cases e)⟩
                      · by_cases qa : b = D0
                        · subst qa; rw [upd_same] at hb; cases hb; exact hD3
                        · rw [upd_ne qa] at hb; exact r3.sub b x hb
                      · obtain ⟨b1, b2⟩ := r3.cell j b cc g1 g2
                        have ne : b ≠ D0 := fun qa => hmD (qa ▸ List.mem_of_getElem? g1)
                        exact ⟨by rw [upd_ne ne]; exact b1, b2.mono ex (Pre.refl _)⟩
                    refine q _ _ _ _ ⟨s3.pre, s3.grow.trans ex, fun b x hb => ?_, s3.frame, s3.keep⟩ rr (.lst upd_same (DenL.mono ex ⟨μ, by simp⟩ _ _ dz))
                    by_cases qa : b = D0
                    · subst qa; exact .inr (fresh_of hHD)
                    · rw [upd_ne qa] at hb; exact s3.new b x hb
                  | true =>
                    cases ee
                    have hp : Pre μ (μ ++ [D0]) := ⟨[D0], rfl⟩
                    have hix : (μ ++ [D0])[S.length]? = some D0 := by rw [← r3.len]; simp
                    have rr : Rel W (fz Bc Hc (μc.drop 0)) (μ ++ [D0]) (S ++ [.lst zs]) (upd Hc a (.dK ((ks.map kC).zip ws))) := by
                      refine ⟨r3.sub, by simp [r3.len], ?_, fun j b cc g1 g2 => ?_, r3.tb, r3.nt⟩
                      · rw [List.nodup_append]
                        exact ⟨r3.nd, by simp, fun a ha b hb => by simp at hb; subst hb; exact fun e => hmD (e ▸ ha)⟩
                      · by_cases hj : j < μ.length
                        · rw [List.getElem?_append_left hj] at g1
                          rw [List.getElem?_append_left (by rw [← r3.len]; exact hj)] at g2
                          obtain ⟨b1, b2⟩ := r3.cell j b cc g1 g2
                          exact ⟨b1, b2.mono (Ex.refl _) hp⟩
                        · have ej : j = μ.length := by
                            have := (List.getElem?_eq_some_iff.mp g1).1
                            simp at this; omega
                          subst ej
                          rw [List.getElem?_append_right (Nat.le_refl _)] at g1
                          rw [r3.len, List.getElem?_append_right (Nat.le_refl _)] at g2
                          simp at g1 g2
                          subst g1 g2
                          exact ⟨hF, acc, hD3, DenL.mono (Ex.refl _) ⟨_, (List.nil_append _).symm⟩ _ _ dz⟩
                    refine q _ _ _ _ ⟨⟨[D0], rfl, fun b hb => ?_⟩, s3.grow, s3.new, s3.frame, s3.keep⟩ rr (.obj hix)
                    simp at hb; subst hb; exact fresh_of hHD
                | some jk =>
                  rw [hk] at eg
                  simp only [Option.map_some] at eg
                  have hlt : i < ks.length := (List.getElem?_eq_some_iff.mp hk).1
                  refine .inr ⟨⟨hfa, by rw [List.length_zip, List.length_map, ← hlw, Nat.min_self]; exact hlt⟩, fun Hn => ∃ m', m' < m + 1 ∧ ∃ Bc μc Sc acc accD rest, Rel W Bc μc Sc Hn ∧ Step B [] (upd H a (.frz od (.dK ((ks.map kC).zip ws)))) Bc μc Hn ∧ Bc D0 = none ∧ D0 ∉ μc ∧ Hn D0 = some (.lst acc) ∧ DenL W Bc μc accD acc ∧ accD ++ rest = ys ∧ lcG (lcStp T tg cd e (pureN (wipeD env vs))) (.items (ks.map dkD)) m' (i + 1) Sc = some (rest, S5), fun Hn hn => hn, ?_⟩
                  rintro x Hy ⟨rfl, kq, vq, hq, rfl⟩
                  obtain ⟨jj, hjj, rfl⟩ := (kz_at hlw).2 kq vq hq
                  rw [hk] at hjj
                  cases hjj
                  have keepD : ∀ {Bz : Hp} {μz : List Addr} {Hz : Hp}, Step Bc μc Hy Bz μz Hz → Bz D0 = none ∧ D0 ∉ μz ∧ Hz D0 = some (.lst acc) := fun {Bz μz Hz} sz => by
                    refine ⟨?_, ?_, sz.frame _ _ hDc hmc (fun _ e => by cases e)⟩
                    · cases qq : Bz D0 with
                      | none => rfl
                      | some w =>
                        rcases sz.new _ _ qq with h | h
                        · rw [hBc] at h; cases h
                        · exact (h.no (fun _ e => by cases e) hDc).elim
                    · obtain ⟨ν, eν, hν⟩ := sz.pre
                      rw [eν]
                      intro hm
                      rcases List.mem_append.mp hm with h | h
                      · exact hmc h
                      · exact (hν _ h).no (fun _ e => by cases e) hDc
                  have eoy : EnvOk W Bc μc (pureN (wipeD env vs)) (L2.wipe σ vs) := eow.step sc
                  split at eg
                  · -- kept
                    rename_i y S4 estp
                    split at eg
                    · rename_i rest' S6 eg2
                      have e6 : y :: rest' = rest ∧ S6 = S5 := by cases eg; exact ⟨rfl, rfl⟩
                      obtain ⟨e6, e7⟩ := e6
                      subst e6 e7
                      unfold lcStp at estp
                      split at estp
                      · rename_i env2 eset
                        refine ⟨Bc, μc, Sc, _, _, env2, rc, eoy, den_dk _, eset, fun σ2 eo2 off2 => ⟨wipe_off off2 hsl, ?_⟩⟩
                        split at estp
                        · rename_i S3 ec
                          refine ⟨env2, Sc, Bc, μc, true, S3, rc, eo2, ec, fun B3 μ3 H3 s3 r3 => ?_⟩
                          refine iteT ?_
                          split at estp
                          · rename_i y' S4' ev
                            cases estp
                            refine ⟨env2, S3, B3, μ3, y, S4, r3, eo2.step s3, ev, fun B4 μ4 H4 w s4 r4 d4 => ?_⟩
                            have st := s3.trans s4
                            obtain ⟨k1, k2, k3⟩ := keepD st
                            have dl : accD.length < 100000 := by
                              have : accD.length + (1 + rest'.length) = ys.length := by rw [← erest]; simp; omega
                              have hz := of_decide_eq_true hz
                              omega
                            refine ⟨acc, k3, by rw [← dc.length]; exact Nat.lt_of_lt_of_le dl (by decide), ?_⟩
                            exact ⟨m, Nat.lt_succ_self _, B4, μ4, S4, acc ++ [w], accD ++ [y], rest', r4.aside k1 k2 (fun x e => by rw [k3] at e; cases e; trivial), (sc.trans st).aside hD, k1, k2, upd_same, (DenL.mono st.grow st.p _ _ dc).append (.cons d4 .nil), by simpa using erest, eg2⟩
                          · cases estp
                        · cases estp
                        · cases estp
                      · cases estp
                    · cases eg
                  · -- left out
                    rename_i S4 estp
                    unfold lcStp at estp
                    split at estp
                    · rename_i env2 eset
                      refine ⟨Bc, μc, Sc, _, _, env2, rc, eoy, den_dk _, eset, fun σ2 eo2 off2 => ⟨wipe_off off2 hsl, ?_⟩⟩
                      split at estp
                      · split at estp <;> cases estp
                      · rename_i S3 ec
                        cases estp
                        refine ⟨env2, Sc, Bc, μc, false, S4, rc, eo2, ec, fun B3 μ3 H3 s3 r3 => ?_⟩
                        refine iteF ?_
                        obtain ⟨k1, k2, k3⟩ := keepD s3
                        exact ⟨m, Nat.lt_succ_self _, B3, μ3, S4, acc, accD, rest, r3, sc.trans s3, k1, k2, k3, DenL.mono s3.grow s3.p _ _ dc, erest, eg⟩
                      · cases estp
                    · cases estp
                  · cases eg
            · cases ee
          · cases ee
        · cases ee
      · cases ee
    · cases e1
  · cases ee
theorem snd_lcd {elt tg : Expr} {x : Str} {px : Pos} {j0 : Nat} {ifs : List Expr} {scope : Scope} {own : List (Str × Nat)} {pos : Pos} {itg : Tg} {cd : Option IE} {ie : IE} {cell : Bool} (hb : blkC c.N c.sc scope own = true) (hsl : (slots itg).all (fun j => (own.map (·.2)).contains j) = true)
    (hi : c.N[j0]? = some x) (hv : visB c.sc x = true) (hp : plainN x = true) (hg : SndG (blkCn c scope) W T mnm k tg itg) (hc : SndC (blkCn c scope) W T mnm k ifs cd) (he : SndE (blkCn c scope) W T mnm k elt ie) :
    SndE c W T mnm k (.ListComp elt [⟨tg, .Name x px, ifs, 0⟩] scope pos) (.lcd cell (own.map (·.2)) itg (.var j0) cd ie) := by
  obtain ⟨p1, p2, _⟩ := plainN_of hp
  refine snd_of (fun X ok => PE.imp (pe_lock (pe_lc ok.calm (by rw [ok.hN]; exact ok.nd) (pi_keys (pe_var (i := j0) (by rw [ok.hN]; exact hi) (by rw [ok.hs]; exact vis_of hv) p1 p2)) (blkOk_by (by rw [ok.hN, ok.hs]; exact hb)) (fun s H C cl fp => hg.1 _ (blk_ok ok)) (fun s H C cl fp => hc _ (blk_ok ok)) (fun s H C cl fp => (he _ (blk_ok ok)).1) (fun _ => rfl))) fun σ H Q q => run_lcd ?_ q) fun _ _ => rfl
  intro j hj
  have := List.all_eq_true.mp hsl j hj
  simpa using this
end LN

set_option Elab.async false
set_option linter.all false
set_option maxRecDepth 100000
set_option maxHeartbeats 1000000
namespace LN
open PySem L2
variable {W : WP} {B B' : Hp} {μ μ' : List Addr} {S S' : Store} {H H' : Hp} {c : Cn} {T : Tab} {mnm : Nat → Str} {k : Nat} {X : Cx}

/-! ### calls with defaults, with keywords -/
theorem evL_app {T : Tab} : ∀ {as bs : List IE} {env : DEnv} {S : Store}, evL T (as ++ bs) env S = match evL T as env S with
    | some (ds, S1) => match evL T bs env S1 with
      | some (es, S2) => some (ds ++ es, S2)
      | none => none
    | none => none
  | [], bs, env, S => by
    simp only [evL, List.nil_append]
    cases evL T bs env S with
    | none => rfl
    | some p => rfl
  | a :: as, bs, env, S => by
    simp only [evL, List.cons_append]
    cases evE T a env S with
    | none => rfl
    | some p =>
      dsimp only
      rw [evL_app (as := as)]
      cases evL T as env p.2 with
      | none => rfl
      | some q =>
        dsimp only
        cases evL T bs env q.2 with
        | none => rfl
        | some z => rfl
theorem evL_con {T : Tab} : ∀ {ds : List D} {env : DEnv} {S : Store}, evL T (ds.map .con) env S = some (ds, S)
  | [], _, _ => rfl
  | d :: ds, env, S => by simp only [List.map_cons, evL, evE, evL_con (ds := ds)]
theorem snd_callk {x : Str} {f np : Nat} {ks : List Str} {dfl : List D} {e : Expr} {es : List Expr} {ies : List IE} {p1 pos : Pos} (hg : glB c.sc x = true) (hl : c.G.lookup x = some (.fnk f np ks dfl)) (hp : plainN x = true)
    (ha : SndL c W T mnm k (e :: es) ies) : SndE c W T mnm k (.Call (.Name x p1) (e :: es) [] pos) (.call f (ies ++ dfl.map .con)) := by
  refine snd_of (fun X ok => ?_) fun _ _ => rfl
  obtain ⟨a, hm, hk, fd, ps, hps, ⟨_, ⟨ds0, dvs, hb, hv, hd⟩, _⟩, F⟩ := ok.gl x _ hl
  have hs := ha.2
  rw [List.all_cons, Bool.and_eq_true] at hs
  refine PE.imp (pe_call F ok.r0 (gl_of ok hg) hm hk hb hv pass0 (ha.1 X ok) (plainN_of hp).1 (star_cons hs.1) (star_any hs.2)) ?_
  rintro σ H Q ⟨env, S, B, μ, d, S', r, eo, ee, q⟩
  simp only [evE, evL_app] at ee
  cases e1 : evL T ies env S with
  | none => rw [e1] at ee; cases ee
  | some p =>
    obtain ⟨ds, S1⟩ := p
    rw [e1] at ee
    dsimp only at ee
    rw [evL_con] at ee
    dsimp only at ee
    refine ⟨env, S, B, μ, ds, S1, r, eo, e1, fun B1 μ1 H1 vs s1 r1 d1 => ?_⟩
    exact ⟨B1, μ1, S1, ds ++ dfl, d, S', r1, d1.append (hd _ _), ee, fun B2 μ2 H2 v s2 r2 d2 => q _ _ _ _ (s1.trans s2) r2 d2⟩

/-- f(e, .., kn = v) -/
theorem snd_callkw {x kn : Str} {f np : Nat} {dfl : List D} {e v : Expr} {es : List Expr} {ies : List IE} {iv : IE} {p1 pos kpos : Pos} (hg : glB c.sc x = true) (hl : c.G.lookup x = some (.fnk f np [kn] dfl)) (hp : plainN x = true) (hn : (e :: es).length + 1 = np) (hii : ies.length = (e :: es).length)
    (ha : SndL c W T mnm k (e :: es) ies) (hv : SndE c W T mnm k v iv) : SndE c W T mnm k (.Call (.Name x p1) (e :: es) [⟨some kn, v, kpos⟩] pos) (.call f (ies ++ [iv])) := by
  refine snd_of (fun X ok => ?_) fun _ _ => rfl
  obtain ⟨a, hm, hk, fd, ps, hps, ⟨_, _, g, hb⟩, F⟩ := ok.gl x _ hl
  have hs := ha.2
  rw [List.all_cons, Bool.and_eq_true] at hs
  have h1 : (backTo pos (starEach (e :: es) X.env)).any (·.1) = false := star_any ha.2
  refine PE.imp (pe_callN (ks := [kn]) (n := ps.length - 1) F ok.r0 (gl_of ok hg) hm hk hb pass0 (ha.1 X ok) (pk_cons (hv X ok).1 pk_nil) rfl rfl (plainN_of hp).1 (star_cons hs.1) (by rw [h1]; rfl)) ?_
  rintro σ H Q ⟨env, S, B, μ, d, S', r, eo, ee, q⟩
  simp only [evE, evL_app] at ee
  cases e1 : evL T ies env S with
  | none => rw [e1] at ee; cases ee
  | some p =>
    obtain ⟨ds, S1⟩ := p
    rw [e1] at ee
    simp only [evL] at ee
    cases e2 : evE T iv env S1 with
    | none => rw [e2] at ee; cases ee
    | some p2 =>
      obtain ⟨dv, S2⟩ := p2
      rw [e2] at ee
      dsimp only at ee
      have hlen : ds.length = ies.length := evL_len e1
      refine ⟨env, S, B, μ, ds, S1, r, eo, e1, fun B1 μ1 H1 vs s1 r1 d1 => ?_⟩
      refine ⟨env, S1, B1, μ1, dv, S2, r1, eo.step s1, e2, fun B2 μ2 H2 w s2 r2 d2 => ?_⟩
      refine ⟨?_, rfl, ?_⟩
      · rw [← d1.length, hlen, hii, hps, ← hn]; rfl
      · exact ⟨B2, μ2, S2, ds ++ [dv], d, S', r2, (DenL.mono s2.grow s2.p _ _ d1).append (.cons d2 .nil), ee, fun B3 μ3 H3 u s3 r3 d3 => q _ _ _ _ ((s1.trans s2).trans s3) r3 d3⟩

/-! ### list(f(..)) of a generator def -/
theorem snd_listgen {x : Str} {f np : Nat} {e : Expr} {es : List Expr} {ies : List IE} {cell : Bool} {p0 p1 p2 p3 : Pos} (hgL : glB c.sc "list" = true) (hlL : c.G.lookup ("list" : Str) = some .bn) (hv : bootBuiltins "list" = some (.type "list")) (hg : glB c.sc x = true) (hl : c.G.lookup x = some (.gen f np)) (hp : plainN x = true)
    (ha : SndL c W T mnm k (e :: es) ies) : SndE c W T mnm k (.Call (.Name "list" p0) [.Call (.Name x p1) (e :: es) [] p2] [] p3) (.pb .list cell [.call f ies]) := by
  refine snd_of (fun X ok => ?_) fun _ _ => rfl
  obtain ⟨a, hm, hk, hgen⟩ := ok.gl x _ hl
  have hs := ha.2
  rw [List.all_cons, Bool.and_eq_true] at hs
  rcases hgen with hnone | ⟨hlst, j, fd, ps, hj, hps, hb, F⟩
  · refine ⟨fun pins s σ H Q I h => ?_⟩
    obtain ⟨env, S, B, μ, d, S', r, eo, ee, q⟩ := h
    simp only [evE, evL] at ee
    cases e1 : evL T ies env S with
    | none => rw [e1] at ee; cases ee
    | some p =>
      obtain ⟨ds, S1⟩ := p
      rw [e1] at ee
      dsimp only at ee
      rw [hnone] at ee
      cases ee
  · refine PE.imp (pe_listG (E := fun _ _ _ => False) (pgen_call F (ok.room.mono (by omega)) (gl_of ok hg) hm hk hb .nil (ha.1 X ok) (plainN_of hp).1 (star_cons hs.1) (star_any hs.2)) ?_ (fun _ _ _ h => h.elim) (ok.room.mono hj) (gl_of ok hgL) (ok.gl _ _ hlL) hv (by decide) (by decide) rfl) ?_
    · rintro pins σ H s e' s' I hc
      obtain ⟨_, _, _, _, _, _, _, _, _, _, _, _, hW⟩ := hc
      exact hW.elim
    · rintro σ H Q ⟨env, S, B, μ, d, S', r, eo, ee, q⟩
      simp only [evE, evL] at ee
      cases e1 : evL T ies env S with
      | none => rw [e1] at ee; cases ee
      | some p =>
        obtain ⟨ds, S1⟩ := p
        rw [e1] at ee
        dsimp only at ee
        cases e2 : T.fn f ds S1 with
        | none => rw [e2] at ee; cases ee
        | some p2 =>
          obtain ⟨d2, S2⟩ := p2
          obtain ⟨ys, rfl⟩ := hlst _ _ _ _ e2
          rw [e2] at ee
          dsimp only at ee
          have ee2 : newL cell ys S2 = (d, S') := Option.some.inj ee
          refine ⟨env, S, B, μ, ds, S1, r, eo, e1, fun B1 μ1 H1 vs s1 r1 d1 => ?_⟩
          show spG W (T.fn f) (vs ++ []) H1 _ _
          rw [List.append_nil]
          refine ⟨B1, μ1, S1, ds, ys, S2, r1, d1, e2, fun B2 μ2 H2 out s2 r2 d2 l hl => ?_⟩
          obtain ⟨B3, μ3, s3, r3, d3⟩ := newL_ok r2 cell hl d2
          rw [ee2] at r3 d3
          exact q _ _ _ _ ((s1.trans s2).trans s3) r3 d3
end LN

set_option Elab.async false
set_option linter.all false
set_option maxRecDepth 100000
set_option maxHeartbeats 4000000
namespace LN
open PySem L2

/-! ### the text held against the small language -/
inductive Ok (P : Prop) where
  | no
  | yes (h : P)
def Ok.b {P : Prop} : Ok P → Bool
  | .no => false
  | .yes _ => true
theorem Ok.get {P : Prop} : (o : Ok P) → o.b = true → P
  | .yes h, _ => h
  | .no, h => by cases h
def Ok.of {P : Prop} [d : Decidable P] : Ok P := if h : P then .yes h else .no
def Ok.imp {P Q : Prop} (o : Ok P) (f : P → Q) : Ok Q := match o with
  | .yes h => .yes (f h)
  | .no => .no
def Ok.and {P Q R : Prop} (o : Ok P) (o' : Ok Q) (f : P → Q → R) : Ok R := match o with
  | .yes h => match o' with
    | .yes h' => .yes (f h h')
    | .no => .no
  | .no => .no
theorem ba {a b : Bool} (h : (a && b) = true) : a = true ∧ b = true := by rwa [Bool.and_eq_true] at h
variable {W : WP} {T : Tab} {mnm : Nat → Str} {k : Nat}

def vOp (c : Cn) (W : WP) (T : Tab) (mnm : Nat → Str) (k : Nat) (op : Operator) (p : P2) : Ok (∀ X, CxOk c W T mnm k X → OpR X (binaryOp op) (r2 W p)) := match op, p with
  | .Add, .add => .yes fun X ok => (op_p2 ok).1
  | .Sub, .sub => .yes fun X ok => (op_p2 ok).2.1
  | .Mult, .mul => .yes fun X ok => (op_p2 ok).2.2.1
  | .FloorDiv, .fdiv => .yes fun X ok => (op_p2 ok).2.2.2.1
  | .Mod, .mod => .yes fun X ok => (op_p2 ok).2.2.2.2.1
  | .Pow, .pow => .yes fun X ok => (op_p2 ok).2.2.2.2.2
  | _, _ => .no
def vAg (c : Cn) (W : WP) (T : Tab) (mnm : Nat → Str) (k : Nat) (op : Operator) (p : P2) : Ok (∀ X, CxOk c W T mnm k X → OpR X (inplaceOp op) (r2A W p)) := match op, p with
  | .Add, .add => .yes fun X ok => (ia_p2 ok).1
  | .Sub, .sub => .yes fun X ok => (ia_p2 ok).2.1
  | .Mult, .mul => .yes fun X ok => (ia_p2 ok).2.2.1
  | .FloorDiv, .fdiv => .yes fun X ok => (ia_p2 ok).2.2.2.1
  | .Mod, .mod => .yes fun X ok => (ia_p2 ok).2.2.2.2
  | _, _ => .no
def vCm (c : Cn) (W : WP) (T : Tab) (mnm : Nat → Str) (k : Nat) (op : CmpOp) (p : P2) : Ok (∀ X, CxOk c W T mnm k X → OpR X (compareOp op) (r2 W p)) := match op, p with
  | .Eq, .eq => .yes fun X ok => (op_c2 ok).1
  | .NotEq, .ne => .yes fun X ok => (op_c2 ok).2.1
  | .Lt, .lt => .yes fun X ok => (op_c2 ok).2.2.1
  | .LtE, .le => .yes fun X ok => (op_c2 ok).2.2.2.1
  | .Gt, .gt => .yes fun X ok => (op_c2 ok).2.2.2.2.1
  | .GtE, .ge => .yes fun X ok => (op_c2 ok).2.2.2.2.2.1
  | .Is, .isN => .yes fun X ok => (op_c2 ok).2.2.2.2.2.2.1
  | .IsNot, .notN => .yes fun X ok => (op_c2 ok).2.2.2.2.2.2.2.1
  | .In, .inn => .yes fun X ok => (op_c2 ok).2.2.2.2.2.2.2.2.1
  | .NotIn, .notin => .yes fun X ok => (op_c2 ok).2.2.2.2.2.2.2.2.2
  | .Is, .isB => .yes fun X ok => op_isB ok
  | .IsNot, .notB => .yes fun X ok => op_notB ok
  | _, _ => .no
abbrev VE (W : WP) (T : Tab) (mnm : Nat → Str) (k : Nat) := (c : Cn) → (e : Expr) → (ie : IE) → Ok (SndE c W T mnm k e ie)
section
variable (v : VE W T mnm k) (c : Cn)
def vL : (es : List Expr) → (ies : List IE) → Ok (SndL c W T mnm k es ies)
  | [], [] => .yes sndL_nil
  | e :: es, i :: is => if h : nstar e = true then (v c e i).and (vL es is) fun a b => sndL_cons h a b else .no
  | _, _ => .no
def vP : (es : List Expr) → (st : List Bool) → (ies : List IE) → Ok (SndP c W T mnm k es st ies)
  | [], _, [] => .yes sndP_nil
  | .Starred e p :: es, true :: st, i :: is => (v c e i).and (vP es st is) fun a b => sndP_star a b
  | e :: es, false :: st, i :: is => if h : nstar e = true then (v c e i).and (vP es st is) fun a b => sndP_cons h a b else .no
  | _, _, _ => .no
def vO : (e : Option Expr) → (ie : Option IE) → Ok (SndO c W T mnm k e ie)
  | none, none => .yes sndO_none
  | some e, some i => (v c e i).imp sndO_some
  | _, _ => .no
def vC : (es : List Expr) → (ie : Option IE) → Ok (SndC c W T mnm k es ie)
  | [], none => .yes sndC_nil
  | [e], some i => (v c e i).imp sndC_one
  | _, _ => .no
def vBa : (es : List Expr) → (ie : IE) → Ok (SndB c W T mnm k .And es ie)
  | [a], ia => (v c a ia).imp sndB_and1
  | a :: b :: r, .and ia ib => (v c a ia).and (vBa (b :: r) ib) fun x y => sndB_and x y
  | _, _ => .no
def vBo : (es : List Expr) → (ie : IE) → Ok (SndB c W T mnm k .Or es ie)
  | [a], ia => (v c a ia).imp sndB_or1
  | a :: b :: r, .or ia ib => (v c a ia).and (vBo (b :: r) ib) fun x y => sndB_or x y
  | _, _ => .no
def isBn (x : Str) : Ok (c.G.lookup x = some .bn) := match h : c.G.lookup x with
  | some .bn => .yes rfl
  | _ => .no
end
theorem boot_len : bootBuiltins "len" = some (.builtin "len") := by decide +kernel
theorem boot_max : bootBuiltins "max" = some (.builtin "max") := by decide +kernel
theorem boot_min : bootBuiltins "min" = some (.builtin "min") := by decide +kernel
theorem boot_sum : bootBuiltins "sum" = some (.builtin "sum") := by decide +kernel
theorem boot_all : bootBuiltins "all" = some (.builtin "all") := by decide +kernel
theorem boot_any : bootBuiltins "any" = some (.builtin "any") := by decide +kernel
theorem boot_abs : bootBuiltins "abs" = some (.builtin "abs") := by decide +kernel
theorem boot_sorted : bootBuiltins "sorted" = some (.builtin "sorted") := by decide +kernel
theorem boot_list : bootBuiltins "list" = some (.type "list") := by decide +kernel
theorem boot_tuple : bootBuiltins "tuple" = some (.type "tuple") := by decide +kernel
theorem boot_int : bootBuiltins "int" = some (.type "int") := by decide +kernel
theorem boot_str : bootBuiltins "str" = some (.type "str") := by decide +kernel
theorem boot_bool : bootBuiltins "bool" = some (.type "bool") := by decide +kernel
theorem boot_dict : bootBuiltins "dict" = some (.type "dict") := by decide +kernel
def vPBn (x : Str) (p : PB) : Ok ((∃ id, p.fv = .builtin id ∧ bootBuiltins x = some (.builtin id)) ∨ (∃ id, p.fv = .type id ∧ bootBuiltins x = some (.type id))) := match p with
  | .len => if h : x = "len" then .yes (.inl ⟨_, rfl, h ▸ boot_len⟩) else .no
  | .max => if h : x = "max" then .yes (.inl ⟨_, rfl, h ▸ boot_max⟩) else .no
  | .min => if h : x = "min" then .yes (.inl ⟨_, rfl, h ▸ boot_min⟩) else .no
  | .sum => if h : x = "sum" then .yes (.inl ⟨_, rfl, h ▸ boot_sum⟩) else .no
  | .all => if h : x = "all" then .yes (.inl ⟨_, rfl, h ▸ boot_all⟩) else .no
  | .any => if h : x = "any" then .yes (.inl ⟨_, rfl, h ▸ boot_any⟩) else .no
  | .abs => if h : x = "abs" then .yes (.inl ⟨_, rfl, h ▸ boot_abs⟩) else .no
  | .sorted => if h : x = "sorted" then .yes (.inl ⟨_, rfl, h ▸ boot_sorted⟩) else .no
  | .list => if h : x = "list" then .yes (.inr ⟨_, rfl, h ▸ boot_list⟩) else .no
  | .tuple => if h : x = "tuple" then .yes (.inr ⟨_, rfl, h ▸ boot_tuple⟩) else .no
  | .int => if h : x = "int" then .yes (.inr ⟨_, rfl, h ▸ boot_int⟩) else .no
  | .str => if h : x = "str" then .yes (.inr ⟨_, rfl, h ▸ boot_str⟩) else .no
  | _ => .no
def vBT (x : Str) (b : BTy) : Ok (bootBuiltins x = some (.type b.nm)) := match b with
  | .int => if h : x = "int" then .yes (h ▸ boot_int) else .no
  | .bool => if h : x = "bool" then .yes (h ▸ boot_bool) else .no
  | .str => if h : x = "str" then .yes (h ▸ boot_str) else .no
  | .tup => if h : x = "tuple" then .yes (h ▸ boot_tuple) else .no
  | .lst => if h : x = "list" then .yes (h ▸ boot_list) else .no
  | .dct => if h : x = "dict" then .yes (h ▸ boot_dict) else .no
def vT (c : Cn) (W : WP) (T : Tab) (mnm : Nat → Str) (k : Nat) (e : Expr) (t : TyS) : Ok (SndT c W T mnm k e t) := match e, t with
  | .Name x p, .bt b => if h : (glB c.sc x && plainN x) = true then (isBn c x).and (vBT x b) fun h1 h2 => sndT_bt (ba h).1 h1 (ba h).2 h2 else .no
  | .Name x p, .cls cc => if h : (glB c.sc x && plainN x) = true then match hl : c.G.lookup x with
      | some (.cls c' f np) => if e : c' = cc then .yes (sndT_cls (ba h).1 (e ▸ hl) (ba h).2) else .no
      | _ => .no
    else .no
  | _, _ => .no
def vTs (c : Cn) (W : WP) (T : Tab) (mnm : Nat → Str) (k : Nat) : (es : List Expr) → (ts : List TyS) → Ok (SndTs c W T mnm k es ts)
  | [], [] => .yes sndTs_nil
  | e :: es, t :: ts => (vT c W T mnm k e t).and (vTs c W T mnm k es ts) sndTs_cons
  | _, _ => .no
mutual
def vG (c : Cn) (W : WP) (T : Tab) (mnm : Nat → Str) (k : Nat) (t : Tg) (e : Expr) : Ok (SndG c W T mnm k e t) := match t, e with
  | .nm i, .Name x p => if h : (decide (c.N[i]? = some x) && locB c x) = true then .yes (sndG_nm (of_decide_eq_true (ba h).1) (ba h).2) else .no
  | .tup ts, .Tuple es kk p => (vGs c W T mnm k ts es).imp sndG_tup
  | _, _ => .no
  termination_by structural t
def vGs (c : Cn) (W : WP) (T : Tab) (mnm : Nat → Str) (k : Nat) (ts : List Tg) (es : List Expr) : Ok (SndGs c W T mnm k es ts) := match ts, es with
  | [], [] => .yes sndGs_nil
  | t :: ts, e :: es => (vG c W T mnm k t e).and (vGs c W T mnm k ts es) sndGs_cons
  | _, _ => .no
  termination_by structural ts
end
end LN

set_option Elab.async false
set_option linter.all false
set_option maxRecDepth 100000
set_option maxHeartbeats 1000000
namespace LN
open PySem L2 PyProof.Rows

theorem tup_len {P : Program} {w : World} {A : Around} {E : Value → Shared → Prop} {s : Shared} {env : Env} {nm x : Str} {t : Tok} {mg mb m : Str → Option Value} {p1 p2 p3 p4 p5 : Pos} {kk : Nat}
    (hk : env.scope.kind = .function) (hnm : env.kindOf nm = some .local) (hlen : env.kindOf "len" = some .globalImplicit) (hg : s.heap.Ns env.globals mg) (hm : mg "len" = none) (hb : s.heap.Ns env.builtins mb) (hbb : mb "len" = some (.builtin "len"))
    (hn : s.heap.Ns env.locals m) (hv : m nm = some (.str x t)) (hx : x.length ≤ sizeLine) (hd : (nm == ("__debug__" : Str)) = false) :
    wpAny (model P w) A (eval (.Tuple [.Call (.Name "len" p1) [.Name nm p2] [] p3, .Name nm p4] kk p5) env) (PySem.W.KeyPure (.tuple [.int x.length, .str x]) s) E s := by
  have hl := line63
  have hz : sizeLine = 16777216 := sizeLine_eq
  refine wpAny_Tuple_spliced ?_
  show wpAny _ _ (spliced ((false, eval (.Call (.Name "len" p1) [.Name nm p2] [] p3) env) :: backTo p5 (starEach [.Name nm p4] env))) _ _ s
  refine Calls.spliced_cons ?_
  refine wpAny_Call_Name_kw (Calls.Name_function_global hk hlen (Calls.loadGlobal_builtin hg hm hb hbb ?_) (by decide))
  refine PyProof.Rows.callWith_builtin1 ?_ rfl rfl
  show wpAny _ _ (spliced ((false, eval (.Name nm p2) env) :: backTo p3 (starEach [] env))) _ _ s
  refine Calls.spliced_cons (wpAny_Name (wpAny_loadName_local hk hnm hn hv ?_) hd)
  refine Calls.spliced_nil ?_
  refine len_str (by omega) ?_
  show wpAny _ _ (spliced ((false, eval (.Name nm p4) env) :: backTo p5 (starEach [] env))) _ _ _
  refine Calls.spliced_cons (wpAny_Name (wpAny_loadName_local hk hnm hn hv ?_) hd)
  refine Calls.spliced_nil ⟨by show 2 ≤ sizeLine; decide, ?_⟩
  refine ⟨_, _, rfl, fun b o e => Heap.get?_push_of_some _ e, ?_⟩
  exact .tuple (Heap.get?_push_size _ rfl) rfl rfl (.cons (.int _ _) (.cons (.str _ _) .nil))
/-- lambda nm: (len(nm), nm), called with a text -/
theorem lam_len_key {P : Program} {w : World} {A : Around} {s : Shared} {f c' : Addr} {qual nm x : Str} {t : Tok} {params : Arguments} {scope : Scope} {pm ctv : Value} {mg mb : Str → Option Value} {p1 p2 p3 p4 p5 : Pos} {kk : Nat}
    (hroom : A.depth < recursionLimit) (hf : s.heap.get? f = some (PySem.W.kla_obj "<lambda>" qual params (.Tuple [.Call (.Name "len" p1) [.Name nm p2] [] p3, .Name nm p4] kk p5) scope [] pm c' ctv)) (hrec : s.heap.CodeRec (.ref c') qual) (lim : s.heap.NoLimit)
    (hg : s.heap.Ns mainGlobals mg) (hm : mg "len" = none) (hb : s.heap.Ns builtinsNs mb) (hbb : mb "len" = some (.builtin "len")) (hx : x.length ≤ sizeLine)
    (hk : scope.kind = .function) (hco : scope.isCoroutine = false) (hgen : scope.isGenerator = false) (hcell : ∀ y ∈ scope.names, y.2 ≠ .cell) (hnm : scope.names.lookup nm = some .local) (hlen : scope.names.lookup ("len" : Str) = some .globalImplicit)
    (hbind : ∀ u : Value, bindArgs (PySem.W.kla_fn "<lambda>" qual params (.Tuple [.Call (.Name "len" p1) [.Name nm p2] [] p3, .Name nm p4] kk p5) scope [] pm (.ref c') ctv) ⟨[u], []⟩ = pure [(nm, u)]) (hd : (nm == ("__debug__" : Str)) = false) :
    wpAny (model P w) A (call (.ref f) [.str x t]) (PySem.W.KeyPure (.tuple [.int x.length, .str x]) s) (fun _ _ => False) s := by
  refine wpAny_call (PySem.W.kla_callFunE hroom hf rfl hco hgen rfl hrec ?_)
  rw [hbind]
  refine wpAny_pure (wpAny_newFunctionEnv hcell (fun y hy => ?_) (fun h₁ hns hsb => ⟨lim.fresh _ hsb, ?_⟩) hk)
  · simp at hy; subst hy; exact hnm
  have kp : ∀ b o, s.heap.get? b = some o → h₁.get? b = some o := fun b o e => hsb.extBut b o (Nat.ne_of_lt (Heap.lt_size e)) (Heap.get?_push_of_some _ e)
  refine PySem.W.kla_codeExpr ?_
  refine wpAny_mono (tup_len (t := t) (m := fun y => ([(nm, Value.str x t)] : List (Str × Value)).reverse.lookup y) hk hnm hlen (hg.keeps kp) hm (hb.keeps kp) hbb hns (by
    show List.lookup nm [(nm, Value.str x t)] = _
    simp [List.lookup]) hx hd (E := fun _ _ => False)) ?_ fun _ _ z => z.elim
  rintro v s2 ⟨h2, tk, rfl, k2, rd⟩
  exact ⟨h2, tk, rfl, fun b o e => k2 b o (kp b o e), rd⟩
end LN

set_option Elab.async false
set_option linter.all false
set_option maxRecDepth 100000
set_option maxHeartbeats 1000000
namespace LN
open PySem L2 PyProof.Rows

/-! ### the order of names -/
def kLN (s : List Nat) : PyData := .tuple [.int s.length, .str ⟨s.toArray⟩]
theorem lexN_iff : ∀ {a b : List Nat}, lexN a b = true ↔ a ≤ b
  | [], b => by simp [lexN]
  | x :: a, [] => by simp [lexN]
  | x :: a, y :: b => by
    have ih := lexN_iff (a := a) (b := b)
    unfold lexN
    rw [List.cons_le_cons_iff]
    by_cases h : x < y
    · simp [h]
    · by_cases e : x = y
      · subst e; simp [ih]
      · simp [h, e]
theorem lexN_self (a : List Nat) : lexN a a = true := lexN_iff.mpr (List.le_refl a)
theorem dataLe_LN : PySem.W.dataLe false kLN = leLN := by
  funext p q
  show (!PySem.W.dataLt (kLN q) (kLN p)) = _
  unfold kLN
  rw [PySem.W.dataLt_pair (by simp [PySem.W.alike]) (by simp [PySem.W.alike]), PySem.W.dataLt_int, PySem.W.dataLt_str]
  unfold leLN
  have hs : PyData.eqv (.str ⟨q.toArray⟩) (.str ⟨p.toArray⟩) = decide (q = p) := by
    simp only [PyData.eqv]
    by_cases e : q = p
    · subst e; simp
    · simp [e]
  have hi : PyData.eqv (.int q.length) (.int p.length) = decide (q.length = p.length) := by
    simp only [PyData.eqv]
    by_cases e : q.length = p.length
    · rw [e]; simp
    · simp [e]; omega
  rw [hs, hi]
  by_cases h1 : p.length < q.length
  · have h2 : ¬ q.length = p.length := by omega
    have h3 : ¬ ((q.length : Int) < p.length) := by omega
    simp [h1, h2, h3]
  · by_cases h2 : q.length = p.length
    · have h3 : p.length = q.length := h2.symm
      rw [if_neg h1, if_pos h3, if_pos (by simpa using h2)]
      by_cases e : q = p
      · subst e
        simp [lexN_self]
      · rw [if_neg (by simpa using e)]
        show (!decide (q < p)) = lexN p q
        rw [PySem.W.not_lt_str]
        cases hh : lexN p q with
        | true => simpa using lexN_iff.mp hh
        | false =>
          have : ¬ p ≤ q := fun z => by rw [lexN_iff.mpr z] at hh; cases hh
          simpa using this
    · have h3 : ¬ p.length = q.length := fun z => h2 z.symm
      have h4 : (q.length : Int) < p.length := by omega
      rw [if_neg h1, if_neg h3, if_neg (by simpa using h2)]
      simp [h4]
theorem leLN_total (a b : List Nat) : (leLN a b || leLN b a) = true := by
  unfold leLN
  by_cases h : a.length < b.length
  · simp [h]
  · by_cases h2 : b.length < a.length
    · simp [h2]
    · have e : a.length = b.length := by omega
      rw [if_neg h, if_pos e, if_neg h2, if_pos e.symm]
      rcases List.le_total a b with z | z
      · rw [lexN_iff.mpr z]; rfl
      · rw [lexN_iff.mpr z]; simp
theorem leLN_trans (a b d : List Nat) (h1 : leLN a b = true) (h2 : leLN b d = true) : leLN a d = true := by
  unfold leLN at h1 h2 ⊢
  split at h1
  · split at h2
    · rw [if_pos (by omega)]
    · split at h2
      · rw [if_pos (by omega)]
      · cases h2
  · split at h1
    · split at h2
      · rw [if_pos (by omega)]
      · split at h2
        · rw [if_neg (by omega), if_pos (by omega)]
          exact lexN_iff.mpr (List.le_trans (lexN_iff.mp h1) (lexN_iff.mp h2))
        · cases h2
    · cases h1
theorem leLN_anti {a b : List Nat} (h1 : leLN a b = true) (h2 : leLN b a = true) : a = b := by
  unfold leLN at h1 h2
  split at h1
  · rw [if_neg (by omega), if_neg (by omega)] at h2; cases h2
  · split at h1
    · rename_i e
      rw [if_neg (by omega), if_pos e.symm] at h2
      exact List.le_antisymm (lexN_iff.mp h1) (lexN_iff.mp h2)
    · cases h1
theorem insLN_perm (i : List Nat) : ∀ js, (insLN i js).Perm (i :: js)
  | [] => .refl _
  | j :: js => by
    simp only [insLN]
    split
    · exact .refl _
    · exact ((insLN_perm i js).cons j).trans (List.Perm.swap i j js)
theorem insLN_sorted (i : List Nat) : ∀ {js : List (List Nat)}, js.Pairwise (fun a b => leLN a b = true) → (insLN i js).Pairwise (fun a b => leLN a b = true)
  | [], _ => by simp [insLN]
  | j :: js, h => by
    simp only [insLN]
    rw [List.pairwise_cons] at h
    split
    · rename_i hij
      rw [List.pairwise_cons, List.pairwise_cons]
      refine ⟨fun y hy => ?_, h⟩
      rcases List.mem_cons.mp hy with e | hy
      · subst e; exact hij
      · exact leLN_trans _ _ _ hij (h.1 y hy)
    · rename_i hij
      rw [List.pairwise_cons]
      refine ⟨fun y hy => ?_, insLN_sorted i h.2⟩
      rcases List.mem_cons.mp ((insLN_perm i js).mem_iff.mp hy) with e | hy
      · subst e
        have := leLN_total y j
        rw [Bool.or_eq_true] at this
        rcases this with z | z
        · exact absurd z hij
        · exact z
      · exact h.1 y hy
theorem sortLN_perm : ∀ is, (sortLN is).Perm is
  | [] => .refl _
  | i :: is => (insLN_perm i (sortLN is)).trans ((sortLN_perm is).cons i)
theorem sortLN_sorted : ∀ is, (sortLN is).Pairwise (fun a b => leLN a b = true)
  | [] => .nil
  | i :: is => insLN_sorted i (sortLN_sorted is)
theorem uniqLN : ∀ {a b : List (List Nat)}, a.Perm b → a.Pairwise (fun a b => leLN a b = true) → b.Pairwise (fun a b => leLN a b = true) → a = b
  | [], b, p, _, _ => (List.nil_perm.mp p).symm
  | x :: a, [], p, _, _ => by have := p.length_eq; simp at this
  | x :: a, y :: b, p, ha, hb => by
    rw [List.pairwise_cons] at ha hb
    have e : x = y := by
      have h1 : x ∈ y :: b := p.mem_iff.mp (by simp)
      have h2 : y ∈ x :: a := p.mem_iff.mpr (by simp)
      rcases List.mem_cons.mp h1 with e | h1
      · exact e
      · rcases List.mem_cons.mp h2 with e | h2
        · exact e.symm
        · exact leLN_anti (ha.1 y h2) (hb.1 x h1)
    subst e
    rw [uniqLN (List.Perm.cons_inv p) ha.2 hb.2]
theorem merge_LN (l : List (List Nat)) : l.mergeSort leLN = sortLN l :=
  uniqLN ((List.mergeSort_perm l leLN).trans (sortLN_perm l).symm) (List.pairwise_mergeSort (fun a b c => leLN_trans a b c) (fun a b => leLN_total a b) l) (sortLN_sorted l)
end LN

set_option Elab.async false
set_option linter.all false
set_option maxRecDepth 100000
set_option maxHeartbeats 1000000
namespace LN
open PySem L2 PyProof.Rows
variable {W : WP} {B B' : Hp} {μ μ' : List Addr} {S S' : Store} {H H' : Hp} {c : Cn} {T : Tab} {mnm : Nat → Str} {k : Nat} {X : Cx}

/-- the tables grew, all else stayed -/
theorem ext_step (r : Rel W B μ S H) (e : LamX.ExtN H H') (t : LamX.Tabs W.tbs H') : Step B μ H B μ H' ∧ Rel W B μ S H' := by
  refine ⟨⟨⟨[], by simp, by simp⟩, Ex.refl _, fun _ _ h => .inl h, fun a o h _ hn => e a o h hn, fun a h o hn ho => h o hn (e a o ho hn)⟩, ⟨fun a o h => e a o (r.sub a o h) fun ps q => r.nt a ps (q ▸ h), r.len, r.nd, fun i a cc h1 h2 => ?_, t, r.nt⟩⟩
  obtain ⟨b1, b2⟩ := r.cell i a cc h1 h2
  exact ⟨b1, b2.at fun o hp h => e a o h (plain_nt hp)⟩
theorem strs_of : ∀ {xs : List D} {ss : List (List Nat)} {vs : List V}, strsD xs = some ss → DenL W B μ xs vs → vs = ss.map (fun s => V.str ⟨s.toArray⟩)
  | [], ss, vs, e, h => by simp [strsD] at e; subst e; cases h; rfl
  | .str s :: xs, ss, vs, e, h => by
    simp only [strsD] at e
    cases q : strsD xs with
    | none => rw [q] at e; cases e
    | some ts =>
      rw [q] at e; cases e
      cases h with | cons h1 h2 =>
        cases h1
        rw [strs_of q h2]; rfl
  | .non :: _, _, _, e, _ => by simp [strsD] at e
  | .bl _ :: _, _, _, e, _ => by simp [strsD] at e
  | .int _ :: _, _, _, e, _ => by simp [strsD] at e
  | .tup _ :: _, _, _, e, _ => by simp [strsD] at e
  | .lst _ :: _, _, _, e, _ => by simp [strsD] at e
  | .scr _ :: _, _, _, e, _ => by simp [strsD] at e
  | .ins _ _ _ :: _, _, _, e, _ => by simp [strsD] at e
  | .obj _ :: _, _, _, e, _ => by simp [strsD] at e
theorem denL_strs : ∀ ss : List (List Nat), DenL W B μ (ss.map D.str) (ss.map fun s => V.str ⟨s.toArray⟩)
  | [] => .nil
  | s :: ss => .cons (.str s) (denL_strs ss)
def isS (v : Value) (s : List Nat) : Prop := ∃ t, v = .str ⟨s.toArray⟩ t
theorem vals_strs : ∀ {ss : List (List Nat)} {us : List Value}, Vals (ss.map fun s => V.str ⟨s.toArray⟩) us → PySem.W.EachIs isS us ss
  | [], _, .nil => .nil
  | s :: ss, _, .cons h r => .cons h (vals_strs r)
theorem strs_vals : ∀ {us : List Value} {ss : List (List Nat)}, PySem.W.EachIs isS us ss → Vals (ss.map fun s => V.str ⟨s.toArray⟩) us
  | [], _, .nil => .nil
  | _ :: _, _, .cons h r => .cons h (strs_vals r)
theorem cloFrom_none {cells : List (Str × Addr)} : ∀ {ns : List (Str × NameKind)} {acc : List (Str × Addr)}, (∀ y ∈ ns, y.2 ≠ .free) → cloFrom cells ns acc = acc
  | [], _, _ => rfl
  | (n, kd) :: r, acc, h => by
    unfold cloFrom
    have hk : (kd == NameKind.free) = false := by
      have := h (n, kd) (by simp)
      cases kd <;> first | rfl | exact absurd rfl this
    rw [hk]
    exact cloFrom_none fun y hy => h y (List.mem_cons_of_mem _ hy)
def lamB (scope : Scope) (nm : Str) : Bool := (match scope.kind with | .function => true | _ => false) && (!scope.isCoroutine && (!scope.isGenerator && (scope.names.all (fun y => match y.2 with | .cell => false | .free => false | _ => true) && ((match scope.names.lookup nm with | some .local => true | _ => false) && ((match scope.names.lookup ("len" : Str) with | some .globalImplicit => true | _ => false) && !(nm == ("__debug__" : Str)))))))
abbrev lamArgs (nm : Str) (apos : Pos) : Arguments := ⟨[], [⟨nm, none, apos⟩], none, [], [], none, []⟩
def LamBind (nm : Str) : Prop := ∀ (qual : Str) (apos : Pos) (body : Expr) (scope : Scope) (pm cdv ctv u : Value), bindArgs (PySem.W.kla_fn "<lambda>" qual (lamArgs nm apos) body scope [] pm cdv ctv) ⟨[u], []⟩ = pure [(nm, u)]
theorem bind_name : LamBind "name" := fun _ _ _ _ _ _ _ _ => rfl
theorem bind_law_name : LamBind "_law_name" := fun _ _ _ _ _ _ _ _ => rfl
theorem snd_sortLN {e : Expr} {ie : IE} {nm : Str} {scope : Scope} {cell : Bool} {apos lpos kpos p0 pos p1 p2 p3 p4 p5 : Pos} {kk : Nat} (hlam : c.lam = true) (hg : glB c.sc "sorted" = true) (hl : c.G.lookup ("sorted" : Str) = some .bn) (hlen : c.G.lookup ("len" : Str) = some .bn) (hn : nstar e = true) (hsc : lamB scope nm = true) (hbd : LamBind nm) (he : SndE c W T mnm k e ie) :
    SndE c W T mnm k (.Call (.Name "sorted" p0) [e] [⟨some "key", .Lambda (lamArgs nm apos) (.Tuple [.Call (.Name "len" p1) [.Name nm p2] [] p3, .Name nm p4] kk p5) scope lpos, kpos⟩] pos) (.pb .sortLN cell [ie]) := by
  refine snd_of (fun X ok => ⟨fun pins s σ H Q I h => ?_⟩) fun _ _ => rfl
  obtain ⟨env, S, B, μ, d, S', r, eo, ee, q⟩ := h
  simp only [evE] at ee
  split at ee
  · rename_i ds S1 e1
    -- the pieces
    obtain ⟨cc, P, hcode, TB, hmem, huniq⟩ := ok.lam hlam
    unfold lamB at hsc
    simp only [Bool.and_eq_true, Bool.not_eq_true', List.all_eq_true] at hsc
    obtain ⟨h1, h2, h3, h4, h5, h6, h7⟩ := hsc
    have hk : scope.kind = .function := by revert h1; cases scope.kind <;> first | (intro _; rfl) | (intro h; cases h; done)
    have hnm : scope.names.lookup nm = some .local := by
      revert h5
      cases scope.names.lookup nm with
      | none => intro h; cases h
      | some kd => cases kd <;> first | (intro _; rfl) | (intro h; cases h; done)
    have hln : scope.names.lookup ("len" : Str) = some .globalImplicit := by
      revert h6
      cases scope.names.lookup ("len" : Str) with
      | none => intro h; cases h
      | some kd => cases kd <;> first | (intro _; rfl) | (intro h; cases h; done)
    have hnf : ∀ y ∈ scope.names, y.2 ≠ .free ∧ y.2 ≠ .cell := fun y hy => by
      have := h4 y hy
      cases hy2 : y.2 <;> rw [hy2] at this <;> simp at this ⊢
    have hrec : ∀ {Hn : Hp} {sn : Shared} {c' : Addr}, Inv X pins σ Hn sn → Hn c' = some (LamX.CodeO c' (X.env.qual ++ "<lambda>")) → sn.heap.CodeRec (.ref c') (X.env.qual ++ "<lambda>") := fun {Hn sn c'} In hc => by
      obtain ⟨⟨oc, vs, t, hoc, hdc, hvc⟩, _, _⟩ := In.hok c' _ hc
      exact ⟨c', oc, vs, t, rfl, hoc, hdc, hvc⟩
    refine wpAny_Call_Name_kw (ld_blt I (gl_of ok hg) (ok.gl _ _ hl) boot_sorted ?_ (by decide) (by decide))
    have hst : backTo pos (starEach [e] X.env) = (false, eval e X.env) :: backTo pos (starEach [] X.env) := by rw [star_cons hn]; rfl
    -- the argument
    simp only [evL] at e1
    split at e1
    · rename_i d0 S2 e2
      cases e1
      have key : ∃ xs ss, lstD S1 d0 = some xs ∧ szOk xs.length = true ∧ strsD xs = some ss ∧ ss.all (fun s => szOk s.length) = true ∧ newL cell ((sortLN ss).map .str) S1 = (d, S') := by
        simp only [pb] at ee
        cases hx : lstD S1 d0 with
        | none => rw [hx] at ee; cases ee
        | some xs =>
          rw [hx] at ee
          dsimp only at ee
          cases hz : szOk xs.length with
          | false => rw [hz] at ee; cases ee
          | true =>
            rw [hz] at ee
            cases hss : strsD xs with
            | none => rw [hss] at ee; cases ee
            | some ss =>
              rw [hss] at ee
              dsimp only at ee
              cases hal : ss.all (fun s => szOk s.length) with
              | false => rw [hal] at ee; cases ee
              | true =>
                rw [hal] at ee
                exact ⟨xs, ss, rfl, hz, hss, hal, Option.some.inj ee⟩
      refine PyProof.Rows.callWith_kw (thn ((pa_cons (he X ok).1 pa_nil (star_cons hn)).run pos pins s σ H (fun vs H1 => ∃ B1 μ1 v, vs = [v] ∧ Step B μ H B1 μ1 H1 ∧ Rel W B1 μ1 S1 H1 ∧ Den W B1 μ1 d0 v) I ⟨env, S, B, μ, _, _, r, eo, e2, fun B1 μ1 H1 v s1 r1 d1 => ⟨B1, μ1, v, rfl, s1, r1, d1⟩⟩) fun us s1 h1 => ?_) hst (by rw [hst]; rfl) rfl rfl
      obtain ⟨vs, H1, I1, rv, B1, μ1, v, rfl, st1, r1, d1⟩ := h1
      obtain ⟨u, rfl, ru⟩ := vals1 rv
      show wpAny _ _ (evalAll ((do let v ← eval (.Lambda (lamArgs nm apos) (.Tuple [.Call (.Name "len" p1) [.Name nm p2] [] p3, .Name nm p4] kk p5) scope lpos) X.env; standAt pos; pure v) :: (backToKw pos (keywordEach [] X.env)).map (·.2))) _ _ s1
      have hclo : cloFrom X.env.cells scope.names [] = [] := cloFrom_none fun y hy => (hnf y hy).1
      refine wpAny_evalAll_cons (wpAny_bind (LamX.lam_make2 (T := W.tbs) (c := cc) (P := P) I1 TB hcode hmem huniq r1.tb rfl (fun y hy hf => absurd hf (hnf y hy).1) fun f c' pm ctv H2 s2 I2 ext tabs hf hfn hfr hco => ?_))
      rw [hclo] at hf
      refine wpAny_bind (wpAny_standAt (wpAny_pure ?_))
      refine wpAny_evalAll_nil ?_
      obtain ⟨st2, r2⟩ := ext_step r1 ext tabs
      have d2 := Den.mono st2.grow st2.p _ _ d1
      -- the list
      obtain ⟨xs, ss, hxs, hz, hss, hal, hnew⟩ := key
      obtain ⟨l, ws, rfl, hsq, hden⟩ := lst_ok r2 d2 hxs
      have hws := strs_of hss hden
      subst hws
      cases (show u = Value.ref l from ru)
      obtain ⟨its, rvs, pl, hz2⟩ := I2.list (by rw [ok.hK]; exact SqL.of hsq)
      have hzz : ss.length ≤ sizeLine := by simpa using hz2
      have hun := ok.hu
      refine PySem.W.sorted_key_data (b := false) (bs := ss) (R := isS) kLN pl.isList (vals_strs rvs) (PySem.W.AllAlike.of fun _ _ => by simp [kLN, PySem.W.alike, PySem.W.alikeAll]) (PySem.W.Sortable.tuples fun _ => ⟨_, _, rfl⟩) hzz (fun x _ => ?_) (ksk_s1 _ _) (fun _ => ksk_l1 _ _) (fun _ => ksk_t1 _ _) ?_ ?_
      · have hd : (kLN x).depth = 1 := by simp [kLN, PyData.depth, PyData.depthAll]
        omega
      · rintro v x ⟨t, rfl⟩ hx h tk kp
        have I3 := I2.kept (t' := tk) kp
        obtain ⟨mb, hb1, hb2⟩ := I3.mod.blt
        refine lam_len_key (P := X.prog) (w := X.w) (mg := X.mg) (mb := mb) ?_ (kp _ _ hf) ((hrec I2 hco).keeps kp) I3.nolimit ?_ (ok.gl _ _ hlen) ?_ ((hb2 _ (by decide)).trans boot_len) ?_ hk h2 h3 (fun y hy => (hnf y hy).2) hnm hln (fun u => hbd _ _ _ _ _ _ _ u) h7
        · show X.A.depth < _
          have := ok.room.dp
          omega
        · exact I3.mod.glob.keeps I3.bk
        · exact hb1.keeps I3.bk
        · have := List.all_eq_true.mp hal x hx
          have := sz this
          simpa [Str.length] using this
      · intro out c' h' tk kp hnone hD hlen2 eo
        rw [dataLe_LN, merge_LN] at eo
        have hfr : H2 (s2.heap.objs.size + 1) = none := I2.hok.fresh (Nat.le_succ _)
        obtain ⟨B', μ', s3, r3, d3⟩ := newL_ok r2 cell hfr (denL_strs (W := W) (B := B1) (μ := μ1) (sortLN ss))
        rw [hnew] at r3 d3
        have hnewO : ObjOk X.prog X.w (upd H2 (s2.heap.objs.size + 1) (.lst ((sortLN ss).map fun s => V.str ⟨s.toArray⟩))) h' (s2.heap.objs.size + 1) (.lst ((sortLN ss).map fun s => V.str ⟨s.toArray⟩)) := by
          refine ⟨?_, out, c', strs_vals eo, hD⟩
          rw [List.length_map, (sortLN_perm ss).length_eq]
          exact hzz
        exact ⟨.ref (s2.heap.objs.size + 1), _, I2.laid (t' := tk) kp (Nat.le_succ _) hnewO, rfl, q _ _ _ _ ((st1.trans st2).trans s3) r3 d3⟩
    · cases e1
  · cases ee
end LN

set_option Elab.async false
set_option linter.all false
set_option maxRecDepth 100000
set_option maxHeartbeats 4000000
namespace LN
open PySem L2
variable {W : WP} {T : Tab} {mnm : Nat → Str} {k : Nat}
/-- the names of the fields, of the methods -/
structure Nms (W : WP) (mnm : Nat → Str) (fs ms : List Str) : Prop where
  f : ∀ i x, fs[i]? = some x → W.fnm i = x
  m : ∀ i x, ms[i]? = some x → mnm i = x
section
variable (v : VE W T mnm k) (c : Cn)
def vI (tg e : Expr) (kd : Nat) (it : List IE) : Ok (SndI c W T mnm k tg e kd it) := match kd, it, e with
  | 0, [i], e => if h : notSet e = true then (v c e i).imp fun a => sndI_seq h a else .no
  | 1, [i], .Call (.Name x p) [a] [] pos => if h : (decide (x = "range") && glB c.sc x) = true then (isBn c x).and (vL v c [a] [i]) fun h1 h2 => by
      obtain ⟨h, h'⟩ := ba h
      have h := of_decide_eq_true h
      subst h
      exact sndI_rng1 h' h1 h2
    else .no
  | 1, [i, j], .Call (.Name x p) [a, b] [] pos => if h : (decide (x = "range") && glB c.sc x) = true then (isBn c x).and (vL v c [a, b] [i, j]) fun h1 h2 => by
      obtain ⟨h, h'⟩ := ba h
      have h := of_decide_eq_true h
      subst h
      exact sndI_rng2 h' h1 h2
    else .no
  | 2, [i], .Call (.Name x p) [a] [] pos => match tg with
    | .Tuple elts kk tpos => if h : (decide (x = "enumerate") && glB c.sc x) = true then (isBn c x).and (vL v c [a] [i]) fun h1 h2 => by
        obtain ⟨h, h'⟩ := ba h
        have h := of_decide_eq_true h
        subst h
        exact sndI_enum h' h1 h2
      else .no
    | _ => .no
  | 3, [i, j], .Call (.Name x p) [a, b] [] pos => match tg with
    | .Tuple elts kk tpos => if h : (decide (x = "zip") && glB c.sc x) = true then (isBn c x).and (vL v c [a, b] [i, j]) fun h1 h2 => by
        obtain ⟨h, h'⟩ := ba h
        have h := of_decide_eq_true h
        subst h
        exact sndI_zip h' h1 h2
      else .no
    | _ => .no
  | _, _, _ => .no
def ownOf (N : List Str) (vs : List Nat) : List (Str × Nat) := vs.map fun j => (N.getD j "", j)
theorem ownOf_2 (N : List Str) (vs : List Nat) : (ownOf N vs).map (·.2) = vs := by
  unfold ownOf
  rw [List.map_map]
  induction vs with
  | nil => rfl
  | cons j vs ih => exact congrArg (j :: ·) ih
def vLc (elt : Expr) (gs : List Comprehension) (scope : Scope) (pos : Pos) (cell : Bool) (vs : List Nat) (itg : Tg) (kd : Nat) (it : List IE) (cd : Option IE) (ie : IE) : Ok (SndE c W T mnm k (.ListComp elt gs scope pos) (.lc cell vs itg kd it cd ie)) := match gs with
  | [⟨tg, iter, ifs, 0⟩] => if h : (blkC c.N c.sc scope (ownOf c.N vs) && (slots itg).all (fun j => vs.contains j)) = true then
      (vI v c tg iter kd it).and ((vG (blkCn c scope) W T mnm k itg tg).and ((vC v (blkCn c scope) ifs cd).and (v (blkCn c scope) elt ie) And.intro) And.intro) fun h1 h2 => by
        have := snd_lc (own := ownOf c.N vs) (pos := pos) (cell := cell) (ba h).1 (by rw [ownOf_2]; exact (ba h).2) h1 h2.1 h2.2.1 h2.2.2
        rwa [ownOf_2] at this
    else .no
  | _ => .no
def vLcd (elt : Expr) (gs : List Comprehension) (scope : Scope) (pos : Pos) (cell : Bool) (vs : List Nat) (itg : Tg) (j0 : Nat) (cd : Option IE) (ie : IE) : Ok (SndE c W T mnm k (.ListComp elt gs scope pos) (.lcd cell vs itg (.var j0) cd ie)) := match gs with
  | [⟨tg, .Name x px, ifs, 0⟩] => if h : (blkC c.N c.sc scope (ownOf c.N vs) && ((slots itg).all (fun j => vs.contains j) && (decide (c.N[j0]? = some x) && (visB c.sc x && plainN x)))) = true then
      (vG (blkCn c scope) W T mnm k itg tg).and ((vC v (blkCn c scope) ifs cd).and (v (blkCn c scope) elt ie) And.intro) fun h1 h2 => by
        have := snd_lcd (own := ownOf c.N vs) (px := px) (pos := pos) (cell := cell) (ba h).1 (by rw [ownOf_2]; exact (ba (ba h).2).1) (of_decide_eq_true (ba (ba (ba h).2).2).1) (ba (ba (ba (ba h).2).2).2).1 (ba (ba (ba (ba h).2).2).2).2 h1 h2.1 h2.2
        rwa [ownOf_2] at this
    else .no
  | _ => .no
def vDc (kx vx : Expr) (gs : List Comprehension) (scope : Scope) (pos : Pos) (vs : List Nat) (itg : Tg) (kd : Nat) (it : List IE) (cd : Option IE) (ik iv : IE) : Ok (SndE c W T mnm k (.DictComp kx vx gs scope pos) (.dc vs itg kd it cd ik iv)) := match gs with
  | [⟨tg, iter, ifs, 0⟩] => if h : (blkC c.N c.sc scope (ownOf c.N vs) && (slots itg).all (fun j => vs.contains j)) = true then
      (vI v c tg iter kd it).and ((vG (blkCn c scope) W T mnm k itg tg).and ((vC v (blkCn c scope) ifs cd).and ((v (blkCn c scope) kx ik).and (v (blkCn c scope) vx iv) And.intro) And.intro) And.intro) fun h1 h2 => by
        have := snd_dc (own := ownOf c.N vs) (pos := pos) (ba h).1 (by rw [ownOf_2]; exact (ba h).2) h1 h2.1 h2.2.1 h2.2.2.1 h2.2.2.2
        rwa [ownOf_2] at this
    else .no
  | _ => .no
end
variable {fs ms : List Str}
def vEq1 : (i : IE) → (d : D) → Ok (i = .con d)
  | .con (.bl a), .bl b => if h : a = b then .yes (h ▸ rfl) else .no
  | .con (.int a), .int b => if h : a = b then .yes (h ▸ rfl) else .no
  | .con .non, .non => .yes rfl
  | _, _ => .no
def vEqL : (is : List IE) → (ds : List D) → Ok (is = ds.map .con)
  | [], [] => .yes rfl
  | i :: is, d :: ds => (vEq1 i d).and (vEqL is ds) fun a b => by rw [a, b]; rfl
  | _, _ => .no
def vEq (as : List IE) (dfl : List D) : Ok (as.take (as.length - dfl.length) ++ dfl.map .con = as) := (vEqL (as.drop (as.length - dfl.length)) dfl).imp fun h => by rw [← h]; exact List.take_append_drop _ _
theorem last_app {α : Type} {as : List α} {x : α} (h : as.getLast? = some x) : as.dropLast ++ [x] = as := by
  obtain ⟨ys, rfl⟩ := List.getLast?_eq_some_iff.mp h
  simp
def eq1 (ks : List Str) (kn : Str) : Bool := match ks with
  | [k] => decide (k = kn)
  | _ => false
theorem eq1_of {ks : List Str} {kn : Str} (h : eq1 ks kn = true) : ks = [kn] := by
  unfold eq1 at h
  split at h
  · rw [of_decide_eq_true h]
  · cases h
def vPm (name : Str) (p : PM) (c : Cn) (W : WP) (T : Tab) (mnm : Nat → Str) (k : Nat) : Ok (∃ id, Slot "list" name id ∧ typeOf (.builtin id) = pure (.type "method_descriptor") ∧ ∀ X, CxOk c W T mnm k X → MtR X id (rM W p)) := match p with
  | .append => if h : name = "append" then .yes (h ▸ ⟨_, PySem.F.slot_list_append, rfl, fun X ok => m_append⟩) else .no
  | .extend => if h : name = "extend" then .yes (h ▸ ⟨_, PySem.F.slot_list_extend, rfl, fun X ok => m_extend⟩) else .no
  | .pop => if h : name = "pop" then .yes (h ▸ ⟨_, PySem.F.slot_list_pop, rfl, fun X ok => MtR.imp m_pop fun x xs H Q q => .inl q⟩) else .no
  | .popAt => if h : name = "pop" then .yes (h ▸ ⟨_, PySem.F.slot_list_pop, rfl, fun X ok => MtR.imp m_pop fun x xs H Q q => .inr q⟩) else .no
  | .index => if h : name = "index" then .yes (h ▸ ⟨_, PySem.F.slot_list_index, rfl, fun X ok => m_index ok⟩) else .no
  | _ => .no
def vLamN (nm : Str) : Ok (LamBind nm) := if h : nm = "name" then .yes (h ▸ bind_name) else if h : nm = "_law_name" then .yes (h ▸ bind_law_name) else .no
def vSrt (c : Cn) (W : WP) (T : Tab) (mnm : Nat → Str) (k : Nat) (v : VE W T mnm k) (x kn : Str) (px : Pos) (e : Expr) (params : Arguments) (body : Expr) (scope : Scope) (lpos kpos pos : Pos) (cell : Bool) (a : IE) : Ok (SndE c W T mnm k (.Call (.Name x px) [e] [⟨some kn, .Lambda params body scope lpos, kpos⟩] pos) (.pb .sortLN cell [a])) := match params, body with
  | ⟨[], [⟨nm, none, apos⟩], none, [], [], none, []⟩, .Tuple [.Call (.Name ln p1) [.Name n1 p2] [] p3, .Name n2 p4] kk p5 =>
    if h : x = "sorted" ∧ kn = "key" ∧ ln = "len" ∧ n1 = nm ∧ n2 = nm ∧ (c.lam && (glB c.sc "sorted" && (nstar e && lamB scope nm))) = true then
      ((isBn c "sorted").and (isBn c "len") And.intro).and ((vLamN nm).and (v c e a) And.intro) fun h1 h2 => by
        obtain ⟨rfl, rfl, rfl, rfl, rfl, hh⟩ := h
        exact snd_sortLN (ba hh).1 (ba (ba hh).2).1 h1.1 h1.2 (ba (ba (ba hh).2).2).1 (ba (ba (ba hh).2).2).2 h2.1 h2.2
    else .no
  | _, _ => .no
def Ok.or {P : Prop} (a b : Ok P) : Ok P := match a with
  | .yes h => .yes h
  | .no => b
def vLg (c : Cn) (W : WP) (T : Tab) (mnm : Nat → Str) (k : Nat) (v : VE W T mnm k) (x : Str) (px : Pos) (es : List Expr) (pos : Pos) (p : PB) (cell : Bool) (as : List IE) : Ok (SndE c W T mnm k (.Call (.Name x px) es [] pos) (.pb p cell as)) := match p, as, es with
  | .list, [.call f ies], [.Call (.Name y p1) (e :: es) [] p2] => if h : x = "list" ∧ (glB c.sc "list" && (glB c.sc y && plainN y)) = true then match hl : c.G.lookup y with
      | some (.gen f' np) => if e1 : f' = f then (isBn c "list").and (vL v c (e :: es) ies) fun h1 h2 => by
          obtain ⟨rfl, hh⟩ := h
          subst e1
          exact snd_listgen (ba hh).1 h1 boot_list (ba (ba hh).2).1 hl (ba (ba hh).2).2 h2
        else .no
      | _ => .no
    else .no
  | _, _, _ => .no
def vE (nm : Nms W mnm fs ms) : Nat → VE W T mnm k
  | 0, _, _, _ => .no
  | n + 1, c, e, ie => match ie, e with
    | .var i, .Name x p => if h : (decide (c.N[i]? = some x) && (visB c.sc x && plainN x)) = true then .yes (snd_var (of_decide_eq_true (ba h).1) (ba (ba h).2).1 (ba (ba h).2).2) else .no
    | .con (.int i), .Constant (.int j) kk p => if h : j = i then .yes (h ▸ snd_int) else .no
    | .con (.bl i), .Constant (.bool j) kk p => if h : j = i then .yes (h ▸ snd_bl) else .no
    | .con .non, .Constant .none kk p => .yes snd_non
    | .con (.str l), .Constant (.str s) kk p => if h : s = ⟨l.toArray⟩ then .yes (snd_str h) else .no
    | .con (.int i), .Name x p => if h : (glB c.sc x && plainN x) = true then match hl : c.G.lookup x with
        | some (.int j) => if e : j = i then .yes (snd_gint (ba h).1 (e ▸ hl) (ba h).2) else .no
        | _ => .no
      else .no
    | .con (.str i), .Name x p => if h : (glB c.sc x && plainN x) = true then match hl : c.G.lookup x with
        | some (.str j) => if e : j = i then .yes (snd_gstr (ba h).1 (e ▸ hl) (ba h).2) else .no
        | _ => .no
      else .no
    | .p2 .idx a b, .Subscript ea eb pos => if h : notSlice eb = true then (vE nm n c ea a).and (vE nm n c eb b) fun x y => snd_idx h x y else .no
    | .p2 p a b, .BinOp ea op eb pos => (vOp c W T mnm k op p).and ((vE nm n c ea a).and (vE nm n c eb b) And.intro) fun o h => snd_bin o h.1 h.2
    | .p2 p a b, .Compare ea [op] [eb] pos => if h : notSet eb = true then (vCm c W T mnm k op p).and ((vE nm n c ea a).and (vE nm n c eb b) And.intro) fun o g => snd_cmp o h g.1 g.2 else .no
    | .neg a, .UnaryOp .USub ea pos => (vE nm n c ea a).imp snd_neg
    | .not a, .UnaryOp .Not ea pos => (vE nm n c ea a).imp snd_not
    | .chain p q a b d, .Compare ea [op, oq] [eb, ed] pos => if h : notSet ed = true then (vCm c W T mnm k op p).and ((vCm c W T mnm k oq q).and ((vE nm n c ea a).and ((vE nm n c eb b).and (vE nm n c ed d) And.intro) And.intro) And.intro) fun o g => snd_chain o g.1 h g.2.1 g.2.2.1 g.2.2.2 else .no
    | .and a b, .BoolOp .And es pos => (vBa (vE nm n) c es (.and a b)).imp snd_bool
    | .or a b, .BoolOp .Or es pos => (vBo (vE nm n) c es (.or a b)).imp snd_bool
    | .ite f a b, .IfExp ef ea eb pos => (vE nm n c ef f).and ((vE nm n c ea a).and (vE nm n c eb b) And.intro) fun x y => snd_ite x y.1 y.2
    | .pb p cell as, .Call (.Name x px) (e :: es) [] pos => (vLg c W T mnm k (vE nm n) x px (e :: es) pos p cell as).or (if h : (glB c.sc x && plainN x) = true then (isBn c x).and ((vPBn x p).and (vL (vE nm n) c (e :: es) as) And.intro) fun h1 h2 => by
        rcases h2.1 with ⟨id, g1, g2⟩ | ⟨id, g1, g2⟩
        · exact snd_pbB g1 (ba h).1 h1 (ba h).2 g2 h2.2
        · exact snd_pbT g1 (ba h).1 h1 (ba h).2 g2 h2.2
      else .no)
    | .pb .sortLN cell [a], .Call (.Name x px) [e] [⟨some kn, .Lambda params body scope lpos, kpos⟩] pos => vSrt c W T mnm k (vE nm n) x kn px e params body scope lpos kpos pos cell a
    | .isi ts a, .Call (.Name x px) [ea, et] [] pos => if h : (decide (x = "isinstance") && (glB c.sc x && nstar ea)) = true then match et with
        | .Tuple es kk p2 => if h2 : (!ts.isEmpty && decide (ts.length < 100)) = true then (isBn c x).and ((vE nm n c ea a).and (vTs c W T mnm k es ts) And.intro) fun h1 g => by
            have e := of_decide_eq_true (ba h).1
            subst e
            exact snd_isiT (ba (ba h).2).1 h1 (ba (ba h).2).2 (by rintro rfl; simp at h2) (of_decide_eq_true (ba h2).2) g.1 g.2
          else .no
        | et => match ts with
          | [t] => (isBn c x).and ((vE nm n c ea a).and (vT c W T mnm k et t) And.intro) fun h1 g => by
            have e := of_decide_eq_true (ba h).1
            subst e
            exact snd_isi1 (ba (ba h).2).1 h1 (ba (ba h).2).2 g.1 g.2
          | _ => .no
      else .no
    | .call f as, .Call (.Name x px) es kws pos => if h : (glB c.sc x && plainN x) = true then match hl : c.G.lookup x with
        | some (.fn f' np) => if e : f' = f then match kws, es, as with
            | [], [], [] => .yes (e ▸ snd_call0 (ba h).1 hl (ba h).2)
            | [], e1 :: es, as => (vL (vE nm n) c (e1 :: es) as).imp fun g => e ▸ snd_call (ba h).1 hl (ba h).2 g
            | _, _, _ => .no
          else .no
        | some (.fnk f' np ks dfl) => if e : f' = f then match kws, es with
            | [], e1 :: es => (vEq as dfl).and (vL (vE nm n) c (e1 :: es) (as.take (as.length - dfl.length))) fun q g => by
                rw [← q]
                exact e ▸ snd_callk (ba h).1 hl (ba h).2 g
            | [⟨some kn, ev, kp⟩], e1 :: es => match hg : as.getLast? with
              | some iv => if h3 : (eq1 ks kn && (decide ((e1 :: es).length + 1 = np) && decide (as.dropLast.length = (e1 :: es).length))) = true then (vL (vE nm n) c (e1 :: es) as.dropLast).and (vE nm n c ev iv) fun g g2 => by
                  have e2 := last_app hg
                  rw [← e2]
                  have e3 := eq1_of (ba h3).1
                  subst e3
                  exact e ▸ snd_callkw (ba h).1 hl (ba h).2 (of_decide_eq_true (ba (ba h3).2).1) (of_decide_eq_true (ba (ba h3).2).2) g g2
                else .no
              | none => .no
            | _, _ => .no
          else .no
        | _ => .no
      else .no
    | .make cc f fz as, .Call (.Name x px) es [] pos => if h : (glB c.sc x && plainN x) = true then match hl : c.G.lookup x with
        | some (.cls c' f' np) => if e : c' = cc ∧ f' = f then match es, as with
            | [], [] => .yes (e.1 ▸ e.2 ▸ snd_make0 (ba h).1 hl (ba h).2)
            | e1 :: es, as => (vL (vE nm n) c (e1 :: es) as).imp fun g => e.1 ▸ e.2 ▸ snd_make (ba h).1 hl (ba h).2 g
            | _, _ => .no
          else .no
        | _ => .no
      else .no
    | .meth m o as, .Call (.Attribute eo name apos) es [] pos => if h : (decide (ms[m]? = some name) && (noSuper eo && (apos.endLine == pos.line))) = true then match es, as with
        | [], [] => (vE nm n c eo o).imp fun g => snd_meth0 (nm.m _ _ (of_decide_eq_true (ba h).1)) (ba (ba h).2).1 (ba (ba h).2).2 g
        | e1 :: es, as => if hz : (e1 :: es).length < 20 then (vE nm n c eo o).and (vL (vE nm n) c (e1 :: es) as) fun g g2 => snd_meth (nm.m _ _ (of_decide_eq_true (ba h).1)) (ba (ba h).2).1 (ba (ba h).2).2 hz g g2 else .no
        | _, _ => .no
      else .no
    | .pm p o as, .Call (.Attribute eo name apos) es [] pos => if h : (noSuper eo && (apos.endLine == pos.line)) = true then match es, as with
        | [], [] => (vPm name p c W T mnm k).and (vE nm n c eo o) fun ⟨id, q1, q2, q3⟩ g => snd_pm0 q1 q2 q3 (ba h).1 (ba h).2 g
        | e1 :: es, as => if hz : (e1 :: es).length < 20 then (vPm name p c W T mnm k).and ((vE nm n c eo o).and (vL (vE nm n) c (e1 :: es) as) And.intro) fun ⟨id, q1, q2, q3⟩ g => snd_pm q1 q2 q3 (ba h).1 (ba h).2 hz g.1 g.2 else .no
        | _, _ => .no
      else .no
    | .attr f o, .Attribute eo name pos => if h : (decide (fs[f]? = some name) && noSuper eo) = true then (vE nm n c eo o).imp fun g => snd_attr (ba h).2 (nm.f _ _ (of_decide_eq_true (ba h).1)) g else .no
    | .disp .tup st as, .Tuple es kk pos => (vP (vE nm n) c es st as).imp snd_tup
    | .disp .lst st as, .List es pos => (vP (vE nm n) c es st as).imp (snd_lst false)
    | .disp .cell st as, .List es pos => (vP (vE nm n) c es st as).imp (snd_lst true)
    | .slice a lo hi cell, .Subscript ea (.Slice el eh none p2) pos => (vE nm n c ea a).and ((vO (vE nm n) c el lo).and (vO (vE nm n) c eh hi) And.intro) fun x y => snd_slice x y.1 y.2
    | .dict [], .Dict [] [] pos => .yes snd_dict
    | .lc cell vs tg kd it cd e, .ListComp elt gs scope pos => vLc (vE nm n) c elt gs scope pos cell vs tg kd it cd e
    | .lcd cell vs tg (.var j) cd e, .ListComp elt gs scope pos => vLcd (vE nm n) c elt gs scope pos cell vs tg j cd e
    | .dc vs tg kd it cd kx vx, .DictComp ek ev gs scope pos => vDc (vE nm n) c ek ev gs scope pos vs tg kd it cd kx vx
    | _, _ => .no
end LN

set_option Elab.async false
set_option linter.all false
set_option maxRecDepth 100000
set_option maxHeartbeats 4000000
namespace LN
open PySem L2
variable {W : WP} {T : Tab} {mnm : Nat → Str} {k : Nat} {fs ms : List Str}
section
variable (v : VE W T mnm k) (c : Cn)
def vSs (f : (s : Stmt) → (i : IS) → Ok (SndS c W T mnm k s i)) : (ss : List Stmt) → (is : List IS) → Ok (SndSs c W T mnm k ss is)
  | [], [] => .yes sndSs_nil
  | s :: ss, i :: is => (f s i).and (vSs f ss is) sndSs_cons
  | _, _ => .no
def vPar2 (ts vs : List Expr) (kt k2 : Nat) (pt pt2 pos : Pos) (is : List Nat) (es : List IE) : Ok (SndS c W T mnm k (.Assign [.Tuple ts kt pt] (.Tuple vs k2 pt2) pos) (.par is es)) := match ts, vs, is with
  | [.Name x px, .Name y py], [a, b], [i, j] => if h : (fnK c && (decide (c.N[i]? = some x) && (decide (c.N[j]? = some y) && (decide (i ≠ j) && (isLoc c x && (isLoc c y && (!(x == y) && ((py.line == px.line) && (!([a, b].all (foldedForSure 8)) && !([a, b].all (constantsAlone 8))))))))))) = true then
      (vL v c [a, b] es).imp fun g => by
        simp only [Bool.and_eq_true, Bool.not_eq_true', decide_eq_true_eq] at h
        obtain ⟨h1, h2, h3, h4, h5, h6, h7, h8, h9, h10⟩ := h
        exact snd_par2 h1 h2 h3 h4 h5 h6 h7 h8 h9 h10 g
    else .no
  | [.Name x px, .Name y py, .Name z pz], [a, b, d], [i, j, l] => if h : (fnK c && (decide (c.N[i]? = some x) && (decide (c.N[j]? = some y) && (decide (c.N[l]? = some z) && (decide (i ≠ j) && (decide (i ≠ l) && (decide (j ≠ l) && (isLoc c x && (isLoc c y && (isLoc c z && (!(x == y) && (!(x == z) && (!(y == z) && ((py.line == px.line) && ((pz.line == px.line) && (!([a, b, d].all (foldedForSure 8)) && !([a, b, d].all (constantsAlone 8)))))))))))))))))) = true then
      (vL v c [a, b, d] es).imp fun g => by
        simp only [Bool.and_eq_true, Bool.not_eq_true', decide_eq_true_eq] at h
        obtain ⟨h1, h2, h3, h4, h5, h6, h7, h8, h9, h10, h11, h12, h13, h14, h15, h16, h17⟩ := h
        exact snd_par3 h1 h2 h3 h4 h5 h6 h7 h8 h9 h10 h11 h12 h13 h14 h15 h16 h17 g
    else .no
  | _, _, _ => .no
def vAsgLc (x : Str) (py : Pos) (elt : Expr) (gs : List Comprehension) (scope : Scope) (pos spos : Pos) (i : Nat) (cell : Bool) (vs : List Nat) (itg : Tg) (kd : Nat) (it : List IE) (cd : Option IE) (ie : IE) : Ok (SndS c W T mnm k (.Assign [.Name x py] (.ListComp elt gs scope pos) spos) (.asg (.nm i) (.lc cell vs itg kd it cd ie))) := match gs with
  | [⟨tg, iter, ifs, 0⟩] => if h : (decide (c.N[i]? = some x) && (swC c x scope py pos && (blkC c.N c.sc scope (ownOf c.N vs) && (slots itg).all (fun j => vs.contains j)))) = true then
      (vI v c tg iter kd it).and ((vG (blkCn c scope) W T mnm k itg tg).and ((vC v (blkCn c scope) ifs cd).and (v (blkCn c scope) elt ie) And.intro) And.intro) fun h1 h2 => by
        have := snd_asgLc (own := ownOf c.N vs) (pos := pos) (spos := spos) (cell := cell) (of_decide_eq_true (ba h).1) (ba (ba h).2).1 (ba (ba (ba h).2).2).1 (by rw [ownOf_2]; exact (ba (ba (ba h).2).2).2) h1 h2.1 h2.2.1 h2.2.2
        rwa [ownOf_2] at this
    else .no
  | _ => .no
theorem snd_asgLcd {c : Cn} {x : Str} {i : Nat} {py : Pos} {elt tg : Expr} {y : Str} {px : Pos} {j0 : Nat} {ifs : List Expr} {scope : Scope} {own : List (Str × Nat)} {pos spos : Pos} {itg : Tg} {cd : Option IE} {ie : IE} {cell : Bool} (hi : c.N[i]? = some x) (hsw : swC c x scope py pos = true)
    (hb : blkC c.N c.sc scope own = true) (hsl : (slots itg).all (fun j => (own.map (·.2)).contains j) = true) (hj : c.N[j0]? = some y) (hv : visB c.sc y = true) (hp : plainN y = true)
    (hg : SndG (blkCn c scope) W T mnm k tg itg) (hc : SndC (blkCn c scope) W T mnm k ifs cd) (he : SndE (blkCn c scope) W T mnm k elt ie) :
    SndS c W T mnm k (.Assign [.Name x py] (.ListComp elt [⟨tg, .Name y px, ifs, 0⟩] scope pos) spos) (.asg (.nm i) (.lcd cell (own.map (·.2)) itg (.var j0) cd ie)) := fun X ok => by
  unfold swC at hsw
  rw [Bool.and_eq_true, Bool.and_eq_true, Bool.and_eq_true] at hsw
  obtain ⟨⟨⟨h1, h2⟩, h3⟩, h4⟩ := hsw
  obtain ⟨p1, p2, _⟩ := plainN_of hp
  have hk : X.env.scope.kind = .function := by
    rw [ok.hs]; revert h1; split <;> intro h1
    · assumption
    · cases h1
  have hl : X.env.scope.names.lookup x = some .local := by
    rw [ok.hs]; revert h2; split <;> intro h2
    · assumption
    · cases h2
  refine PS.imp (ps_lock (ps_setLc ok.calm (by rw [ok.hN]; exact ok.nd) (by rw [ok.hN]; exact hi) hl (sw_true hk hl h3 (by simpa using h4)) (pi_keys (pe_var (i := j0) (by rw [ok.hN]; exact hj) (by rw [ok.hs]; exact vis_of hv) p1 p2)) (blkOk_by (by rw [ok.hN, ok.hs]; exact hb)) (fun s H C cl fp => hg.1 _ (blk_ok ok)) (fun s H C cl fp => hc _ (blk_ok ok)) (fun s H C cl fp => (he _ (blk_ok ok)).1) (fun _ => rfl))) ?_
  intro D σ H h
  have g := run_asg h
  have : tE W (evE T (.lcd cell (own.map (·.2)) itg (.var j0) cd ie)) σ H fun v H1 => D.nx (σ.set i (some v)) H1 := by
    obtain ⟨env, S, B, μ, d, S', r, eo, ee, q⟩ := g
    refine ⟨env, S, B, μ, d, S', r, eo, ee, fun B' μ' H' v s1 r1 d1 => ?_⟩
    obtain ⟨B2, μ2, S2, env2, d2, env', r2, eo2, hd2, es, q2⟩ := q B' μ' H' v s1 r1 d1
    simp only [setT] at es
    cases es
    exact q2 _ (eo2.set hd2) ⟨by simp, fun j hj => by rw [List.getElem?_set_ne]; simp [slots] at hj; exact Ne.symm hj⟩
  refine run_lcd ?_ this
  intro j hj
  have := List.all_eq_true.mp hsl j hj
  simpa using this
def vAsgLcd (x : Str) (py : Pos) (elt : Expr) (gs : List Comprehension) (scope : Scope) (pos spos : Pos) (i : Nat) (cell : Bool) (vs : List Nat) (itg : Tg) (j0 : Nat) (cd : Option IE) (ie : IE) : Ok (SndS c W T mnm k (.Assign [.Name x py] (.ListComp elt gs scope pos) spos) (.asg (.nm i) (.lcd cell vs itg (.var j0) cd ie))) := match gs with
  | [⟨tg, .Name y px, ifs, 0⟩] => if h : (decide (c.N[i]? = some x) && (swC c x scope py pos && (blkC c.N c.sc scope (ownOf c.N vs) && ((slots itg).all (fun j => vs.contains j) && (decide (c.N[j0]? = some y) && (visB c.sc y && plainN y)))))) = true then
      (vG (blkCn c scope) W T mnm k itg tg).and ((vC v (blkCn c scope) ifs cd).and (v (blkCn c scope) elt ie) And.intro) fun h1 h2 => by
        have a1 := ba h
        have a2 := ba a1.2
        have a3 := ba a2.2
        have a4 := ba a3.2
        have a5 := ba a4.2
        have a6 := ba a5.2
        have := snd_asgLcd (own := ownOf c.N vs) (px := px) (pos := pos) (spos := spos) (cell := cell) (of_decide_eq_true a1.1) a2.1 a3.1 (by rw [ownOf_2]; exact a4.1) (of_decide_eq_true a5.1) a6.1 a6.2 h1 h2.1 h2.2
        rwa [ownOf_2] at this
    else .no
  | _ => .no
end
def vS (nm : Nms W mnm fs ms) : Nat → (c : Cn) → (s : Stmt) → (i : IS) → Ok (SndS c W T mnm k s i)
  | 0, _, _, _ => .no
  | n + 1, c, s, i => match i, s with
    | .nev, _ => .yes snd_nev
    | .pass, .Pass pos => .yes snd_pass
    | .pass, .Expr (.Constant (.str x) j p) pos => .yes snd_doc
    | .brk, .Break pos => .yes snd_brk
    | .cnt, .Continue pos => .yes snd_cnt
    | .ret ie, .Return (some e) pos => (vE nm n c e ie).imp snd_ret
    | .ret (.con .non), .Return none pos => .yes snd_retN
    | .drop ie, .Expr e pos => if h : notComp e = true then (vE nm n c e ie).imp (snd_drop h) else .no
    | .ite ie a b, .If t ea eb pos => (vE nm n c t ie).and ((vSs c (vS nm n c) ea a).and (vSs c (vS nm n c) eb b) And.intro) fun x y => snd_if x y.1 y.2
    | .whl ie b, .While t eb [] pos => (vE nm n c t ie).and (vSs c (vS nm n c) eb b) snd_whl
    | .for tg kd it b, .For etg iter eb [] pos => (vI (vE nm n) c etg iter kd it).and ((vG c W T mnm k tg etg).and (vSs c (vS nm n c) eb b) And.intro) fun x y => snd_for x y.1 y.2
    | .aug j p ie, .AugAssign (.Name x px) op e pos => if h : (decide (c.N[j]? = some x) && locB c x) = true then (vAg c W T mnm k op p).and (vE nm n c e ie) fun x y => snd_aug (of_decide_eq_true (ba h).1) (ba h).2 x y else .no
    | .setF o f ie, .Assign [.Attribute eo attr p1] e pos => if h : decide (fs[f]? = some attr) = true then (vE nm n c eo o).and (vE nm n c e ie) fun x y => snd_setF (nm.f _ _ (of_decide_eq_true h)) x y else .no
    | .setI o i ie, .Assign [.Subscript eo ei p1] e pos => if h : notSlice ei = true then (vE nm n c eo o).and ((vE nm n c ei i).and (vE nm n c e ie) And.intro) fun x y => snd_setI h x y.1 y.2 else .no
    | .par is es, .Assign [.Tuple ts kt pt] (.Tuple vs k2 pt2) pos => vPar2 (vE nm n) c ts vs kt k2 pt pt2 pos is es
    | .asg (.nm i) (.lc cell vs itg kd it cd ie), .Assign [.Name x py] (.ListComp elt gs scope pos) spos => if h : swOffB c (.Name x py) (.ListComp elt gs scope pos) = true then (vG c W T mnm k (.nm i) (.Name x py)).and (vE nm n c (.ListComp elt gs scope pos) (.lc cell vs itg kd it cd ie)) (snd_asg h rfl) else vAsgLc (vE nm n) c x py elt gs scope pos spos i cell vs itg kd it cd ie
    | .asg (.nm i) (.lcd cell vs itg (.var j0) cd ie), .Assign [.Name x py] (.ListComp elt gs scope pos) spos => if h : swOffB c (.Name x py) (.ListComp elt gs scope pos) = true then (vG c W T mnm k (.nm i) (.Name x py)).and (vE nm n c (.ListComp elt gs scope pos) (.lcd cell vs itg (.var j0) cd ie)) (snd_asg h rfl) else vAsgLcd (vE nm n) c x py elt gs scope pos spos i cell vs itg j0 cd ie
    | .asg tg ie, .Assign [.Tuple ts kt pt] (.Tuple vs k2 pt2) pos => if h : noSwap c ts vs = true then (vG c W T mnm k tg (.Tuple ts kt pt)).and (vE nm n c (.Tuple vs k2 pt2) ie) (snd_asgT h) else .no
    | .asg tg ie, .Assign [t] e pos => if h : (swOffB c t e && (notTup t || notTup e)) = true then (vG c W T mnm k tg t).and (vE nm n c e ie) (snd_asg (ba h).1 (ba h).2) else .no
    | _, _ => .no

def vGn (nm : Nms W mnm fs ms) (n : Nat) (c : Cn) (g : GD) : (body : List Stmt) → (pre : List IS) → Ok (SndGn c W T mnm k body g pre)
  | [.For tg iter [.Expr (.Yield (some e) yp) p2] [] p3], [] => (vI (vE nm n) c tg iter g.kd g.it).and ((vG c W T mnm k g.tg tg).and (vE nm n c e g.e) And.intro) fun a b => sndGn_for a b.1 b.2
  | s :: ss, i :: is => (vS nm n c s i).and (vGn nm n c g ss is) sndGn_cons
  | _, _ => .no
def gscC (N P : List Str) (sc : Scope) : Bool :=
  decide (sc.kind = .function) && (!sc.isCoroutine && (sc.isGenerator && (decide N.Nodup && (decide (N.take P.length = P) && (P.all (fun x => decide (sc.names.lookup x = some .local) || decide (sc.names.lookup x = some .cell)) && sc.names.all (fun y => !decide (y.2 = .free)))))))
theorem gScope_by {N P : List Str} {sc : Scope} (h : gscC N P sc = true) : GScope N P sc := by
  unfold gscC at h
  simp only [Bool.and_eq_true, Bool.not_eq_true', decide_eq_true_eq, List.all_eq_true, Bool.or_eq_true, decide_eq_false_iff_not] at h
  obtain ⟨h1, h2, h3, h4, h5, h6, h7⟩ := h
  exact ⟨h1, h2, h3, h4, h5, h6, h7⟩
end LN

set_option Elab.async false
set_option linter.all false
set_option maxRecDepth 100000
set_option maxHeartbeats 1000000
namespace LN
open PySem L2

/-! ### names by number -/
def nmF (l : List Str) (z : Nat) (i : Nat) : Str := match l[i]? with
  | some x => x
  | none => ⟨(z :: List.replicate i 2).toArray⟩
def okNm (l : List Str) (z : Nat) : Bool := decide l.Nodup && l.all fun x => !(x.cps.toList.headD 99 == z)
theorem nmF_get {l : List Str} {z i : Nat} {x : Str} (h : l[i]? = some x) : nmF l z i = x := by unfold nmF; rw [h]
theorem nmF_cases (l : List Str) (z i : Nat) : (∃ x, l[i]? = some x ∧ nmF l z i = x) ∨ (l[i]? = none ∧ nmF l z i = ⟨(z :: List.replicate i 2).toArray⟩) := by
  unfold nmF
  cases h : l[i]? with
  | some x => exact .inl ⟨x, rfl, rfl⟩
  | none => exact .inr ⟨rfl, rfl⟩
theorem okNm_head {l : List Str} {z i n : Nat} {x : Str} (h : okNm l z = true) (hx : l[i]? = some x) : x ≠ ⟨(z :: List.replicate n 2).toArray⟩ := by
  unfold okNm at h
  obtain ⟨_, h2⟩ := ba h
  have := List.all_eq_true.mp h2 x (List.mem_of_getElem? hx)
  rintro rfl
  simp at this
theorem nodupS {l : List Str} (nd : l.Nodup) {i j : Nat} {a : Str} (h1 : l[i]? = some a) (h2 : l[j]? = some a) : i = j := by
  obtain ⟨hi, e1⟩ := List.getElem?_eq_some_iff.mp h1
  obtain ⟨hj, e2⟩ := List.getElem?_eq_some_iff.mp h2
  exact (List.getElem_inj nd).mp (e1.trans e2.symm)
theorem nmF_inj {l : List Str} {z : Nat} (h : okNm l z = true) : ∀ f g, nmF l z f = nmF l z g → f = g := by
  intro f g e
  rcases nmF_cases l z f with ⟨x, h1, h2⟩ | ⟨h1, h2⟩ <;> rcases nmF_cases l z g with ⟨y, g1, g2⟩ | ⟨g1, g2⟩
  · rw [h2, g2] at e
    subst e
    obtain ⟨nd, _⟩ := ba h
    exact nodupS (of_decide_eq_true nd) h1 g1
  · rw [h2, g2] at e
    exact absurd e (okNm_head h h1)
  · rw [h2, g2] at e
    exact absurd e.symm (okNm_head h g1)
  · rw [h2, g2] at e
    have := congrArg (fun s : Str => s.cps.size) e
    simpa using this
theorem nmF_apart {l m : List Str} {y z : Nat} (hl : okNm l y = true) (hm : okNm m z = true) (h : (l.all fun a => !(m.contains a) && !(a.cps.toList.headD 99 == z)) = true) (h2 : (m.all fun a => !(a.cps.toList.headD 99 == y)) = true) (hyz : y ≠ z) : ∀ i j, nmF l y j ≠ nmF m z i := by
  intro i j e
  rcases nmF_cases l y j with ⟨a, h1, g1⟩ | ⟨h1, g1⟩ <;> rcases nmF_cases m z i with ⟨b, k1, k2⟩ | ⟨k1, k2⟩
  · rw [g1, k2] at e
    subst e
    have := (ba (List.all_eq_true.mp h a (List.mem_of_getElem? h1))).1
    rw [Bool.not_eq_true'] at this
    have hm2 : m.contains a = true := by simpa using List.mem_of_getElem? k1
    rw [hm2] at this
    cases this
  · rw [g1, k2] at e
    subst e
    have := (ba (List.all_eq_true.mp h _ (List.mem_of_getElem? h1))).2
    simp at this
  · rw [g1, k2] at e
    subst e
    have := List.all_eq_true.mp h2 _ (List.mem_of_getElem? k1)
    simp at this
  · rw [g1, k2] at e
    have := congrArg (fun s : Str => s.cps.toList.head?) e
    simp at this
    exact hyz this
/-! ### tables of facts -/
def AllD (P : Nat → FD → Prop) : Nat → List (Option FD) → Prop
  | _, [] => True
  | i, some d :: r => P i d ∧ AllD P (i + 1) r
  | i, none :: r => AllD P (i + 1) r
theorem AllD.get {P : Nat → FD → Prop} : ∀ {l : List (Option FD)} {i f : Nat} {d : FD}, AllD P i l → l[f]? = some (some d) → P (i + f) d
  | [], _, _, _, _, e => by simp at e
  | some a :: r, i, 0, d, h, e => by simp at e; subst e; exact h.1
  | none :: r, i, 0, d, h, e => by simp at e
  | some a :: r, i, f + 1, d, h, e => by
    have := AllD.get (f := f) h.2 (by simpa using e)
    rwa [show i + 1 + f = i + (f + 1) by omega] at this
  | none :: r, i, f + 1, d, h, e => by
    have := AllD.get (l := r) (i := i + 1) (f := f) h (by simpa using e)
    rwa [show i + 1 + f = i + (f + 1) by omega] at this
def AllG (P : Str → GK → Prop) : List (Str × GK) → Prop
  | [] => True
  | p :: r => P p.1 p.2 ∧ AllG P r
theorem AllG.get {P : Str → GK → Prop} : ∀ {l : List (Str × GK)} {x : Str} {g : GK}, AllG P l → l.lookup x = some g → P x g
  | [], _, _, _, e => by cases e
  | (y, k) :: r, x, g, h, e => by
    have e2 : (match x == y with | true => some k | false => r.lookup x) = some g := e
    cases q : (x == y) with
    | true =>
      rw [q] at e2
      have : k = g := Option.some.inj e2
      subst this
      rw [beq_iff_eq.mp q]
      exact h.1
    | false =>
      rw [q] at e2
      exact AllG.get h.2 e2
theorem AllG.app {P : Str → GK → Prop} : ∀ {l m : List (Str × GK)}, AllG P l → AllG P m → AllG P (l ++ m)
  | [], _, _, h => h
  | _ :: _, _, h, k => ⟨h.1, AllG.app h.2 k⟩
end LN

set_option Elab.async false
set_option linter.all false
set_option maxRecDepth 100000
set_option maxHeartbeats 0
namespace LP
open PySem PySem.Spec PyProof.Rows L2 LN

def fnms : List Str := [("told" : PySem.Str), ("binder" : PySem.Str), ("names" : PySem.Str), ("pool" : PySem.Str), ("most" : PySem.Str), ("nodes" : PySem.Str), ("around" : PySem.Str), ("binder_nodes" : PySem.Str), ("use_nodes" : PySem.Str), ("own_tree" : PySem.Str), ("own_nodes" : PySem.Str), ("own_around" : PySem.Str)] ++ [("own_names" : PySem.Str), ("use_around" : PySem.Str), ("own_meaning" : PySem.Str)]
def mnms : List Str := [("__init__" : PySem.Str), ("add" : PySem.Str), ("meant" : PySem.Str), ("tree" : PySem.Str), ("listed" : PySem.Str), ("binders" : PySem.Str), ("uses" : PySem.Str), ("depth" : PySem.Str), ("__len__" : PySem.Str), ("__getitem__" : PySem.Str), ("__contains__" : PySem.Str), ("__iter__" : PySem.Str)] ++ [("__eq__" : PySem.Str), ("of_use" : PySem.Str), ("of_join" : PySem.Str), ("of_bind" : PySem.Str)]
def G0 : List (Str × GK) := [(("all_namings" : PySem.Str), .gen 69 2), (("is_whole" : PySem.Str), .fn 6 1), (("is_number" : PySem.Str), .fn 7 3), (("is_name" : PySem.Str), .fn 8 1), (("is_line" : PySem.Str), .fn 9 1), (("are_unlike" : PySem.Str), .fn 10 1), (("each_once" : PySem.Str), .fn 11 1), (("ordered" : PySem.Str), .fn 12 1), (("name_at" : PySem.Str), .fn 13 1), (("first_names" : PySem.Str), .fn 14 2), (("is_tree" : PySem.Str), .fn 15 1), (("are_trees" : PySem.Str), .fn 16 1)]
def G1 : List (Str × GK) := [(("parts_of" : PySem.Str), .fn 17 1), (("deep_of" : PySem.Str), .fn 18 1), (("look_at_term" : PySem.Str), .fn 36 1), (("look_at_binder" : PySem.Str), .fn 37 2), (("are_such_names" : PySem.Str), .fn 38 2), (("look_at_names" : PySem.Str), .fn 39 2), (("name_for" : PySem.Str), .fn 40 2), (("inner" : PySem.Str), .fn 41 2), (("catches_of" : PySem.Str), .fn 42 2), (("is_right" : PySem.Str), .fn 43 2), (("catches" : PySem.Str), .fn 44 2), (("all_live" : PySem.Str), .fn 45 1)]
def G2 : List (Str × GK) := [(("in_line" : PySem.Str), .fn 46 1), (("live_at" : PySem.Str), .fn 47 2), (("pairs_of" : PySem.Str), .fn 48 1), (("clashes" : PySem.Str), .fn 49 1), (("free_of" : PySem.Str), .fn 50 1), (("free_names" : PySem.Str), .fn 51 1), (("meaning" : PySem.Str), .fn 52 1), (("binders_in" : PySem.Str), .fn 53 1), (("width_of" : PySem.Str), .fn 54 1), (("width" : PySem.Str), .fn 55 1), (("fewest" : PySem.Str), .fnk 56 2 [("apart" : PySem.Str)] [(.bl false)]), (("pool_for" : PySem.Str), .fn 57 2)]
def G3 : List (Str × GK) := [(("told_for" : PySem.Str), .fn 58 2), (("told_naming" : PySem.Str), .fnk 59 2 [("apart" : PySem.Str)] [(.bl false)]), (("names_used" : PySem.Str), .fn 60 2), (("accepts_fewest" : PySem.Str), .fn 61 2), (("is_pool" : PySem.Str), .fn 62 1), (("look_at_pool" : PySem.Str), .fn 63 2), (("choices_for" : PySem.Str), .fn 64 2), (("product" : PySem.Str), .fn 65 1), (("how_many" : PySem.Str), .fn 66 2), (("let_at" : PySem.Str), .fn 67 3), (("naming_by" : PySem.Str), .fn 68 3), (("_law_pool" : PySem.Str), .fn 70 2)]
def G4 : List (Str × GK) := [(("_law_take" : PySem.Str), .fn 71 2), (("_law_turned" : PySem.Str), .fn 72 2), (("_law_use" : PySem.Str), .fn 73 1), (("_law_two_right" : PySem.Str), .fn 74 2), (("_law_three_right" : PySem.Str), .fn 75 3), (("_law_free_right" : PySem.Str), .fn 76 2), (("_law_ahead_right" : PySem.Str), .fn 77 2), (("law" : PySem.Str), .fn 78 1), (("Flat" : PySem.Str), .cls 0 19 1), (("Term" : PySem.Str), .cls 1 21 1), (("LETTERS" : PySem.Str), .str [97,98,99,100,101,102,103,104,105,106,107,108,109,110,111,112,113,114,115,116,117,118,119,120,121,122]), (("MOST_LETTERS" : PySem.Str), .int 8)]
def G5 : List (Str × GK) := [(("MOST_NODES" : PySem.Str), .int 400), (("MOST_BINDERS" : PySem.Str), .int 60), (("MOST_DEEP" : PySem.Str), .int 100), (("MOST_POOL" : PySem.Str), .int 60), (("len" : PySem.Str), .bn), (("list" : PySem.Str), .bn), (("tuple" : PySem.Str), .bn), (("max" : PySem.Str), .bn), (("min" : PySem.Str), .bn), (("all" : PySem.Str), .bn), (("int" : PySem.Str), .bn), (("sorted" : PySem.Str), .bn)]
def G6 : List (Str × GK) := [(("str" : PySem.Str), .bn), (("bool" : PySem.Str), .bn), (("isinstance" : PySem.Str), .bn), (("range" : PySem.Str), .bn), (("enumerate" : PySem.Str), .bn)]
def G : List (Str × GK) := G0 ++ G1 ++ G2 ++ G3 ++ G4 ++ G5 ++ G6
def N6 : List Str := [("value" : PySem.Str)]
def B6 : List IS := [(.ret (.and (.isi [.bt .int] (.var 0)) (.not (.isi [.bt .bool] (.var 0)))))]
def D6 : FD := ⟨0, 1, 1, B6, .pl, false⟩ -- is_whole
theorem s6 {W : WP} {T : Tab} {mnm : Nat → Str} {k : Nat} (nm : Nms W mnm fnms mnms) : SndSs ⟨N6, defScope (top 12), none, G, D6.lam⟩ W T mnm k (defBody (top 12)) B6 := (vSs _ (vS nm 60 _) (defBody (top 12)) B6).get (by kernel_rfl)
theorem f6 : FnScope N6 (N6.take 1) (defScope (top 12)) := C8.fnScope_by (by kernel_rfl)
def N7 : List Str := [("value" : PySem.Str), ("low" : PySem.Str), ("high" : PySem.Str)]
def B7 : List IS := [(.ret (.and (.call 6 [(.var 0)]) (.chain .le .le (.var 1) (.var 0) (.var 2))))]
def D7 : FD := ⟨0, 3, 3, B7, .pl, false⟩ -- is_number
theorem s7 {W : WP} {T : Tab} {mnm : Nat → Str} {k : Nat} (nm : Nms W mnm fnms mnms) : SndSs ⟨N7, defScope (top 13), none, G, D7.lam⟩ W T mnm k (defBody (top 13)) B7 := (vSs _ (vS nm 60 _) (defBody (top 13)) B7).get (by kernel_rfl)
theorem f7 : FnScope N7 (N7.take 3) (defScope (top 13)) := C8.fnScope_by (by kernel_rfl)
def N8 : List Str := [("value" : PySem.Str), ("sign" : PySem.Str)]
def B8 : List IS := [(.ite (.or (.not (.isi [.bt .str] (.var 0))) (.not (.chain .le .le (.con (.int 1)) (.pb .len false [(.var 0)]) (.con (.int 8))))) [(.ret (.con (.bl false)))] []), (.ret (.pb .all false [(.lc false [1] (.nm 1) 0 [(.var 0)] none (.p2 .inn (.var 1) (.con (.str [97,98,99,100,101,102,103,104,105,106,107,108,109,110,111,112,113,114,115,116,117,118,119,120,121,122]))))]))]
def D8 : FD := ⟨0, 1, 2, B8, .pl, false⟩ -- is_name
theorem s8 {W : WP} {T : Tab} {mnm : Nat → Str} {k : Nat} (nm : Nms W mnm fnms mnms) : SndSs ⟨N8, defScope (top 14), none, G, D8.lam⟩ W T mnm k (defBody (top 14)) B8 := (vSs _ (vS nm 60 _) (defBody (top 14)) B8).get (by kernel_rfl)
theorem f8 : FnScope N8 (N8.take 1) (defScope (top 14)) := C8.fnScope_by (by kernel_rfl)
def N9 : List Str := [("value" : PySem.Str)]
def B9 : List IS := [(.ret (.isi [.bt .lst,.bt .tup] (.var 0)))]
def D9 : FD := ⟨0, 1, 1, B9, .pl, false⟩ -- is_line
theorem s9 {W : WP} {T : Tab} {mnm : Nat → Str} {k : Nat} (nm : Nms W mnm fnms mnms) : SndSs ⟨N9, defScope (top 15), none, G, D9.lam⟩ W T mnm k (defBody (top 15)) B9 := (vSs _ (vS nm 60 _) (defBody (top 15)) B9).get (by kernel_rfl)
theorem f9 : FnScope N9 (N9.take 1) (defScope (top 15)) := C8.fnScope_by (by kernel_rfl)
def N10 : List Str := [("some" : PySem.Str), ("one" : PySem.Str)]
def B10 : List IS := [(.ret (.p2 .eq (.pb .len false [(.dc [1] (.nm 1) 0 [(.var 0)] none (.var 1) (.con (.bl true)))]) (.pb .len false [(.var 0)])))]
def D10 : FD := ⟨0, 1, 2, B10, .pl, false⟩ -- are_unlike
theorem s10 {W : WP} {T : Tab} {mnm : Nat → Str} {k : Nat} (nm : Nms W mnm fnms mnms) : SndSs ⟨N10, defScope (top 16), none, G, D10.lam⟩ W T mnm k (defBody (top 16)) B10 := (vSs _ (vS nm 60 _) (defBody (top 16)) B10).get (by kernel_rfl)
theorem f10 : FnScope N10 (N10.take 1) (defScope (top 16)) := C8.fnScope_by (by kernel_rfl)
def N11 : List Str := [("some" : PySem.Str), ("one" : PySem.Str)]
def B11 : List IS := [(.ret (.pb .list false [(.dc [1] (.nm 1) 0 [(.var 0)] none (.var 1) (.con (.bl true)))]))]
def D11 : FD := ⟨0, 1, 2, B11, .pl, false⟩ -- each_once
theorem s11 {W : WP} {T : Tab} {mnm : Nat → Str} {k : Nat} (nm : Nms W mnm fnms mnms) : SndSs ⟨N11, defScope (top 17), none, G, D11.lam⟩ W T mnm k (defBody (top 17)) B11 := (vSs _ (vS nm 60 _) (defBody (top 17)) B11).get (by kernel_rfl)
theorem f11 : FnScope N11 (N11.take 1) (defScope (top 17)) := C8.fnScope_by (by kernel_rfl)
def N12 : List Str := [("names" : PySem.Str)]
def B12 : List IS := [(.ret (.pb .sortLN false [(.call 11 [(.var 0)])]))]
def D12 : FD := ⟨0, 1, 1, B12, .pl, true⟩ -- ordered
theorem s12 {W : WP} {T : Tab} {mnm : Nat → Str} {k : Nat} (nm : Nms W mnm fnms mnms) : SndSs ⟨N12, defScope (top 18), none, G, D12.lam⟩ W T mnm k (defBody (top 18)) B12 := (vSs _ (vS nm 60 _) (defBody (top 18)) B12).get (by kernel_rfl)
theorem f12 : FnScope N12 (N12.take 1) (defScope (top 18)) := C8.fnScope_by (by kernel_rfl)
def N13 : List Str := [("place" : PySem.Str), ("turn" : PySem.Str), ("size" : PySem.Str), ("first" : PySem.Str), ("many" : PySem.Str), ("left" : PySem.Str), ("signs" : PySem.Str)]
def B13 : List IS := [(.asg (.tup [(.nm 2),(.nm 3),(.nm 4)]) (.disp .tup [false,false,false] [(.con (.int 1)),(.con (.int 0)),(.con (.int 26))])), (.whl (.p2 .ge (.var 0) (.p2 .add (.var 3) (.var 4))) [(.par [3,4,2] [(.p2 .add (.var 3) (.var 4)),(.p2 .mul (.var 4) (.con (.int 26))),(.p2 .add (.var 2) (.con (.int 1)))])]), (.par [5,6] [(.p2 .sub (.var 0) (.var 3)),(.con (.str []))]), (.for (.nm 1) 1 [(.var 2)] [(.asg (.nm 6) (.p2 .add (.p2 .idx (.con (.str [97,98,99,100,101,102,103,104,105,106,107,108,109,110,111,112,113,114,115,116,117,118,119,120,121,122])) (.p2 .mod (.var 5) (.con (.int 26)))) (.var 6))), (.aug 5 .fdiv (.con (.int 26)))]), (.ret (.var 6))]
def D13 : FD := ⟨0, 1, 7, B13, .pl, false⟩ -- name_at
theorem s13 {W : WP} {T : Tab} {mnm : Nat → Str} {k : Nat} (nm : Nms W mnm fnms mnms) : SndSs ⟨N13, defScope (top 19), none, G, D13.lam⟩ W T mnm k (defBody (top 19)) B13 := (vSs _ (vS nm 60 _) (defBody (top 19)) B13).get (by kernel_rfl)
theorem f13 : FnScope N13 (N13.take 1) (defScope (top 19)) := C8.fnScope_by (by kernel_rfl)
def N14 : List Str := [("many" : PySem.Str), ("shut" : PySem.Str), ("found" : PySem.Str), ("place" : PySem.Str), ("name" : PySem.Str)]
def B14 : List IS := [(.par [2,3] [(.disp .cell [] []),(.con (.int 0))]), (.whl (.p2 .lt (.pb .len false [(.var 2)]) (.var 0)) [(.asg (.nm 4) (.call 13 [(.var 3)])), (.ite (.p2 .notin (.var 4) (.var 1)) [(.drop (.pm .append (.var 2) [(.var 4)]))] []), (.aug 3 .add (.con (.int 1)))]), (.ret (.var 2))]
def D14 : FD := ⟨0, 2, 5, B14, .pl, false⟩ -- first_names
theorem s14 {W : WP} {T : Tab} {mnm : Nat → Str} {k : Nat} (nm : Nms W mnm fnms mnms) : SndSs ⟨N14, defScope (top 20), none, G, D14.lam⟩ W T mnm k (defBody (top 20)) B14 := (vSs _ (vS nm 60 _) (defBody (top 20)) B14).get (by kernel_rfl)
theorem f14 : FnScope N14 (N14.take 2) (defScope (top 20)) := C8.fnScope_by (by kernel_rfl)
def N15 : List Str := [("value" : PySem.Str)]
def B15 : List IS := [(.ite (.or (.not (.isi [.bt .tup] (.var 0))) (.or (.not (.chain .le .le (.con (.int 2)) (.pb .len false [(.var 0)]) (.con (.int 4)))) (.not (.call 8 [(.p2 .idx (.var 0) (.con (.int 1)))])))) [(.ret (.con (.bl false)))] []), (.ite (.not (.isi [.bt .str] (.p2 .idx (.var 0) (.con (.int 0))))) [(.ret (.con (.bl false)))] []), (.ite (.p2 .eq (.p2 .idx (.var 0) (.con (.int 0))) (.con (.str [117,115,101]))) [(.ret (.p2 .eq (.pb .len false [(.var 0)]) (.con (.int 2))))] []), (.ite (.p2 .eq (.p2 .idx (.var 0) (.con (.int 0))) (.con (.str [106,111,105,110]))) [(.ret (.and (.p2 .eq (.pb .len false [(.var 0)]) (.con (.int 3))) (.call 16 [(.p2 .idx (.var 0) (.con (.int 2)))])))] []), (.ret (.and (.p2 .eq (.p2 .idx (.var 0) (.con (.int 0))) (.con (.str [98,105,110,100]))) (.and (.p2 .eq (.pb .len false [(.var 0)]) (.con (.int 4))) (.and (.call 16 [(.p2 .idx (.var 0) (.con (.int 2)))]) (.call 15 [(.p2 .idx (.var 0) (.con (.int 3)))])))))]
def D15 : FD := ⟨0, 1, 1, B15, .pl, false⟩ -- is_tree
theorem s15 {W : WP} {T : Tab} {mnm : Nat → Str} {k : Nat} (nm : Nms W mnm fnms mnms) : SndSs ⟨N15, defScope (top 25), none, G, D15.lam⟩ W T mnm k (defBody (top 25)) B15 := (vSs _ (vS nm 60 _) (defBody (top 25)) B15).get (by kernel_rfl)
theorem f15 : FnScope N15 (N15.take 1) (defScope (top 25)) := C8.fnScope_by (by kernel_rfl)
def N16 : List Str := [("value" : PySem.Str), ("one" : PySem.Str)]
def B16 : List IS := [(.ret (.and (.isi [.bt .tup] (.var 0)) (.pb .all false [(.lc false [1] (.nm 1) 0 [(.var 0)] none (.call 15 [(.var 1)]))])))]
def D16 : FD := ⟨0, 1, 2, B16, .pl, false⟩ -- are_trees
theorem s16 {W : WP} {T : Tab} {mnm : Nat → Str} {k : Nat} (nm : Nms W mnm fnms mnms) : SndSs ⟨N16, defScope (top 26), none, G, D16.lam⟩ W T mnm k (defBody (top 26)) B16 := (vSs _ (vS nm 60 _) (defBody (top 26)) B16).get (by kernel_rfl)
theorem f16 : FnScope N16 (N16.take 1) (defScope (top 26)) := C8.fnScope_by (by kernel_rfl)
def N17 : List Str := [("tree" : PySem.Str)]
def B17 : List IS := [(.ite (.p2 .eq (.p2 .idx (.var 0) (.con (.int 0))) (.con (.str [117,115,101]))) [(.ret (.disp .lst [] []))] []), (.ret (.ite (.p2 .eq (.p2 .idx (.var 0) (.con (.int 0))) (.con (.str [106,111,105,110]))) (.pb .list false [(.p2 .idx (.var 0) (.con (.int 2)))]) (.disp .lst [true,false] [(.p2 .idx (.var 0) (.con (.int 2))),(.p2 .idx (.var 0) (.con (.int 3)))])))]
def D17 : FD := ⟨0, 1, 1, B17, .pl, false⟩ -- parts_of
theorem s17 {W : WP} {T : Tab} {mnm : Nat → Str} {k : Nat} (nm : Nms W mnm fnms mnms) : SndSs ⟨N17, defScope (top 27), none, G, D17.lam⟩ W T mnm k (defBody (top 27)) B17 := (vSs _ (vS nm 60 _) (defBody (top 27)) B17).get (by kernel_rfl)
theorem f17 : FnScope N17 (N17.take 1) (defScope (top 27)) := C8.fnScope_by (by kernel_rfl)
def N18 : List Str := [("tree" : PySem.Str), ("part" : PySem.Str)]
def B18 : List IS := [(.ret (.p2 .add (.con (.int 1)) (.pb .max false [(.disp .lst [false,true] [(.con (.int 0)),(.lc false [1] (.nm 1) 0 [(.call 17 [(.var 0)])] none (.pb .int false [(.call 18 [(.var 1)])]))])])))]
def D18 : FD := ⟨0, 1, 2, B18, .pl, false⟩ -- deep_of
theorem s18 {W : WP} {T : Tab} {mnm : Nat → Str} {k : Nat} (nm : Nms W mnm fnms mnms) : SndSs ⟨N18, defScope (top 28), none, G, D18.lam⟩ W T mnm k (defBody (top 28)) B18 := (vSs _ (vS nm 60 _) (defBody (top 28)) B18).get (by kernel_rfl)
theorem f18 : FnScope N18 (N18.take 1) (defScope (top 28)) := C8.fnScope_by (by kernel_rfl)
def N19 : List Str := [("self" : PySem.Str), ("tree" : PySem.Str)]
def B19 : List IS := [(.setF (.var 0) 5 (.disp .cell [] [])), (.setF (.var 0) 6 (.disp .cell [] [])), (.setF (.var 0) 7 (.disp .cell [] [])), (.setF (.var 0) 8 (.disp .cell [] [])), (.drop (.meth 1 (.var 0) [(.var 1),(.disp .tup [] [])]))]
def D19 : FD := ⟨2, 2, 2, B19, .pl, false⟩ -- Flat.__init__
theorem s19 {W : WP} {T : Tab} {mnm : Nat → Str} {k : Nat} (nm : Nms W mnm fnms mnms) : SndSs ⟨N19, defScope (inClass (top 29) 0), none, G, D19.lam⟩ W T mnm k (defBody (inClass (top 29) 0)) B19 := (vSs _ (vS nm 60 _) (defBody (inClass (top 29) 0)) B19).get (by kernel_rfl)
theorem f19 : FnScope N19 (N19.take 2) (defScope (inClass (top 29) 0)) := C8.fnScope_by (by kernel_rfl)
def N20 : List Str := [("self" : PySem.Str), ("tree" : PySem.Str), ("around" : PySem.Str), ("part" : PySem.Str), ("number" : PySem.Str)]
def B20 : List IS := [(.drop (.pm .append (.attr 5 (.var 0)) [(.var 1)])), (.drop (.pm .append (.attr 6 (.var 0)) [(.var 2)])), (.ite (.p2 .eq (.p2 .idx (.var 1) (.con (.int 0))) (.con (.str [117,115,101]))) [(.drop (.pm .append (.attr 8 (.var 0)) [(.p2 .sub (.pb .len false [(.attr 5 (.var 0))]) (.con (.int 1)))]))] [(.ite (.p2 .eq (.p2 .idx (.var 1) (.con (.int 0))) (.con (.str [106,111,105,110]))) [(.for (.nm 3) 0 [(.p2 .idx (.var 1) (.con (.int 2)))] [(.drop (.meth 1 (.var 0) [(.var 3),(.var 2)]))])] [(.asg (.nm 4) (.pb .len false [(.attr 7 (.var 0))])), (.drop (.pm .append (.attr 7 (.var 0)) [(.p2 .sub (.pb .len false [(.attr 5 (.var 0))]) (.con (.int 1)))])), (.for (.nm 3) 0 [(.p2 .idx (.var 1) (.con (.int 2)))] [(.drop (.meth 1 (.var 0) [(.var 3),(.var 2)]))]), (.drop (.meth 1 (.var 0) [(.p2 .idx (.var 1) (.con (.int 3))),(.disp .tup [true,false] [(.var 2),(.var 4)])]))])])]
def D20 : FD := ⟨2, 3, 5, B20, .pl, false⟩ -- Flat.add
theorem s20 {W : WP} {T : Tab} {mnm : Nat → Str} {k : Nat} (nm : Nms W mnm fnms mnms) : SndSs ⟨N20, defScope (inClass (top 29) 1), none, G, D20.lam⟩ W T mnm k (defBody (inClass (top 29) 1)) B20 := (vSs _ (vS nm 60 _) (defBody (inClass (top 29) 1)) B20).get (by kernel_rfl)
theorem f20 : FnScope N20 (N20.take 3) (defScope (inClass (top 29) 1)) := C8.fnScope_by (by kernel_rfl)
def N21 : List Str := [("self" : PySem.Str), ("tree" : PySem.Str), ("flat" : PySem.Str), ("at" : PySem.Str)]
def B21 : List IS := [(.ite (.not (.call 15 [(.var 1)])) [.nev] []), (.asg (.nm 2) (.make 0 19 false [(.var 1)])), (.ite (.p2 .gt (.pb .len false [(.attr 5 (.var 2))]) (.con (.int 400))) [.nev] []), (.ite (.p2 .gt (.pb .len false [(.attr 7 (.var 2))]) (.con (.int 60))) [.nev] []), (.ite (.p2 .gt (.call 18 [(.var 1)]) (.con (.int 100))) [.nev] []), (.setF (.var 0) 9 (.var 1)), (.setF (.var 0) 10 (.attr 5 (.var 2))), (.setF (.var 0) 11 (.attr 6 (.var 2))), (.setF (.var 0) 7 (.attr 7 (.var 2))), (.setF (.var 0) 8 (.attr 8 (.var 2))), (.setF (.var 0) 12 (.pb .tuple true [(.lc false [3] (.nm 3) 0 [(.attr 7 (.var 2))] none (.p2 .idx (.p2 .idx (.attr 5 (.var 2)) (.var 3)) (.con (.int 1))))])), (.setF (.var 0) 13 (.lc true [3] (.nm 3) 0 [(.attr 8 (.var 2))] none (.p2 .idx (.attr 6 (.var 2)) (.var 3)))), (.setF (.var 0) 14 (.lc true [3] (.nm 3) 0 [(.attr 8 (.var 2))] none (.meth 2 (.var 0) [(.var 3)])))]
def D21 : FD := ⟨2, 2, 4, B21, .pl, false⟩ -- Term.__init__
theorem s21 {W : WP} {T : Tab} {mnm : Nat → Str} {k : Nat} (nm : Nms W mnm fnms mnms) : SndSs ⟨N21, defScope (inClass (top 30) 0), none, G, D21.lam⟩ W T mnm k (defBody (inClass (top 30) 0)) B21 := (vSs _ (vS nm 60 _) (defBody (inClass (top 30) 0)) B21).get (by kernel_rfl)
theorem f21 : FnScope N21 (N21.take 2) (defScope (inClass (top 30) 0)) := C8.fnScope_by (by kernel_rfl)
def N22 : List Str := [("self" : PySem.Str), ("at" : PySem.Str), ("name" : PySem.Str), ("some" : PySem.Str), ("binder" : PySem.Str)]
def B22 : List IS := [(.asg (.nm 2) (.p2 .idx (.p2 .idx (.attr 10 (.var 0)) (.var 1)) (.con (.int 1)))), (.asg (.nm 3) (.lc false [4] (.nm 4) 0 [(.p2 .idx (.attr 11 (.var 0)) (.var 1))] (some (.p2 .eq (.p2 .idx (.attr 12 (.var 0)) (.var 4)) (.var 2))) (.var 4))), (.ret (.ite (.p2 .ne (.var 3) (.disp .lst [] [])) (.p2 .idx (.var 3) (.neg (.con (.int 1)))) (.var 2)))]
def D22 : FD := ⟨2, 2, 5, B22, .pl, false⟩ -- Term.meant
theorem s22 {W : WP} {T : Tab} {mnm : Nat → Str} {k : Nat} (nm : Nms W mnm fnms mnms) : SndSs ⟨N22, defScope (inClass (top 30) 1), none, G, D22.lam⟩ W T mnm k (defBody (inClass (top 30) 1)) B22 := (vSs _ (vS nm 60 _) (defBody (inClass (top 30) 1)) B22).get (by kernel_rfl)
theorem f22 : FnScope N22 (N22.take 2) (defScope (inClass (top 30) 1)) := C8.fnScope_by (by kernel_rfl)
def N23 : List Str := [("self" : PySem.Str)]
def B23 : List IS := [(.ret (.attr 9 (.var 0)))]
def D23 : FD := ⟨0, 1, 1, B23, .pl, false⟩ -- Term.tree
theorem s23 {W : WP} {T : Tab} {mnm : Nat → Str} {k : Nat} (nm : Nms W mnm fnms mnms) : SndSs ⟨N23, defScope (inClass (top 30) 2), none, G, D23.lam⟩ W T mnm k (defBody (inClass (top 30) 2)) B23 := (vSs _ (vS nm 60 _) (defBody (inClass (top 30) 2)) B23).get (by kernel_rfl)
theorem f23 : FnScope N23 (N23.take 1) (defScope (inClass (top 30) 2)) := C8.fnScope_by (by kernel_rfl)
def N25 : List Str := [("self" : PySem.Str)]
def B25 : List IS := [(.ret (.pb .list false [(.attr 7 (.var 0))]))]
def D25 : FD := ⟨0, 1, 1, B25, .pl, false⟩ -- Term.binders
theorem s25 {W : WP} {T : Tab} {mnm : Nat → Str} {k : Nat} (nm : Nms W mnm fnms mnms) : SndSs ⟨N25, defScope (inClass (top 30) 4), none, G, D25.lam⟩ W T mnm k (defBody (inClass (top 30) 4)) B25 := (vSs _ (vS nm 60 _) (defBody (inClass (top 30) 4)) B25).get (by kernel_rfl)
theorem f25 : FnScope N25 (N25.take 1) (defScope (inClass (top 30) 4)) := C8.fnScope_by (by kernel_rfl)
def N26 : List Str := [("self" : PySem.Str)]
def B26 : List IS := [(.ret (.pb .list false [(.attr 8 (.var 0))]))]
def D26 : FD := ⟨0, 1, 1, B26, .pl, false⟩ -- Term.uses
theorem s26 {W : WP} {T : Tab} {mnm : Nat → Str} {k : Nat} (nm : Nms W mnm fnms mnms) : SndSs ⟨N26, defScope (inClass (top 30) 5), none, G, D26.lam⟩ W T mnm k (defBody (inClass (top 30) 5)) B26 := (vSs _ (vS nm 60 _) (defBody (inClass (top 30) 5)) B26).get (by kernel_rfl)
theorem f26 : FnScope N26 (N26.take 1) (defScope (inClass (top 30) 5)) := C8.fnScope_by (by kernel_rfl)
def N28 : List Str := [("self" : PySem.Str)]
def B28 : List IS := [(.ret (.pb .len false [(.attr 10 (.var 0))]))]
def D28 : FD := ⟨0, 1, 1, B28, .pl, false⟩ -- Term.__len__
theorem s28 {W : WP} {T : Tab} {mnm : Nat → Str} {k : Nat} (nm : Nms W mnm fnms mnms) : SndSs ⟨N28, defScope (inClass (top 30) 7), none, G, D28.lam⟩ W T mnm k (defBody (inClass (top 30) 7)) B28 := (vSs _ (vS nm 60 _) (defBody (inClass (top 30) 7)) B28).get (by kernel_rfl)
theorem f28 : FnScope N28 (N28.take 1) (defScope (inClass (top 30) 7)) := C8.fnScope_by (by kernel_rfl)
def N29 : List Str := [("self" : PySem.Str), ("index" : PySem.Str)]
def B29 : List IS := [(.ite (.not (.call 7 [(.var 1),(.con (.int 0)),(.p2 .sub (.pb .len false [(.attr 10 (.var 0))]) (.con (.int 1)))])) [.nev] []), (.ret (.p2 .idx (.attr 10 (.var 0)) (.var 1)))]
def D29 : FD := ⟨0, 2, 2, B29, .pl, false⟩ -- Term.__getitem__
theorem s29 {W : WP} {T : Tab} {mnm : Nat → Str} {k : Nat} (nm : Nms W mnm fnms mnms) : SndSs ⟨N29, defScope (inClass (top 30) 8), none, G, D29.lam⟩ W T mnm k (defBody (inClass (top 30) 8)) B29 := (vSs _ (vS nm 60 _) (defBody (inClass (top 30) 8)) B29).get (by kernel_rfl)
theorem f29 : FnScope N29 (N29.take 2) (defScope (inClass (top 30) 8)) := C8.fnScope_by (by kernel_rfl)
def N30 : List Str := [("self" : PySem.Str), ("tree" : PySem.Str)]
def B30 : List IS := [(.ret (.and (.call 15 [(.var 1)]) (.p2 .inn (.var 1) (.attr 10 (.var 0)))))]
def D30 : FD := ⟨0, 2, 2, B30, .pl, false⟩ -- Term.__contains__
theorem s30 {W : WP} {T : Tab} {mnm : Nat → Str} {k : Nat} (nm : Nms W mnm fnms mnms) : SndSs ⟨N30, defScope (inClass (top 30) 9), none, G, D30.lam⟩ W T mnm k (defBody (inClass (top 30) 9)) B30 := (vSs _ (vS nm 60 _) (defBody (inClass (top 30) 9)) B30).get (by kernel_rfl)
theorem f30 : FnScope N30 (N30.take 2) (defScope (inClass (top 30) 9)) := C8.fnScope_by (by kernel_rfl)
def N32 : List Str := [("self" : PySem.Str), ("other" : PySem.Str)]
def B32 : List IS := [(.ret (.and (.isi [.cls 1] (.var 1)) (.p2 .eq (.attr 9 (.var 0)) (.attr 9 (.var 1)))))]
def D32 : FD := ⟨0, 2, 2, B32, .pl, false⟩ -- Term.__eq__
theorem s32 {W : WP} {T : Tab} {mnm : Nat → Str} {k : Nat} (nm : Nms W mnm fnms mnms) : SndSs ⟨N32, defScope (inClass (top 30) 11), none, G, D32.lam⟩ W T mnm k (defBody (inClass (top 30) 11)) B32 := (vSs _ (vS nm 60 _) (defBody (inClass (top 30) 11)) B32).get (by kernel_rfl)
theorem f32 : FnScope N32 (N32.take 2) (defScope (inClass (top 30) 11)) := C8.fnScope_by (by kernel_rfl)
def N36 : List Str := [("term" : PySem.Str)]
def B36 : List IS := [(.ite (.not (.isi [.cls 1] (.var 0))) [.nev] [])]
def D36 : FD := ⟨0, 1, 1, B36, .pl, false⟩ -- look_at_term
theorem s36 {W : WP} {T : Tab} {mnm : Nat → Str} {k : Nat} (nm : Nms W mnm fnms mnms) : SndSs ⟨N36, defScope (top 31), none, G, D36.lam⟩ W T mnm k (defBody (top 31)) B36 := (vSs _ (vS nm 60 _) (defBody (top 31)) B36).get (by kernel_rfl)
theorem f36 : FnScope N36 (N36.take 1) (defScope (top 31)) := C8.fnScope_by (by kernel_rfl)
def N37 : List Str := [("term" : PySem.Str), ("binder" : PySem.Str)]
def B37 : List IS := [(.drop (.call 36 [(.var 0)])), (.ite (.not (.call 7 [(.var 1),(.con (.int 0)),(.p2 .sub (.pb .len false [(.attr 12 (.var 0))]) (.con (.int 1)))])) [.nev] [])]
def D37 : FD := ⟨0, 2, 2, B37, .pl, false⟩ -- look_at_binder
theorem s37 {W : WP} {T : Tab} {mnm : Nat → Str} {k : Nat} (nm : Nms W mnm fnms mnms) : SndSs ⟨N37, defScope (top 32), none, G, D37.lam⟩ W T mnm k (defBody (top 32)) B37 := (vSs _ (vS nm 60 _) (defBody (top 32)) B37).get (by kernel_rfl)
theorem f37 : FnScope N37 (N37.take 2) (defScope (top 32)) := C8.fnScope_by (by kernel_rfl)
def N38 : List Str := [("term" : PySem.Str), ("value" : PySem.Str), ("name" : PySem.Str)]
def B38 : List IS := [(.ite (.or (.not (.call 9 [(.var 1)])) (.p2 .ne (.pb .len false [(.var 1)]) (.pb .len false [(.attr 12 (.var 0))]))) [(.ret (.con (.bl false)))] []), (.ret (.pb .all false [(.lc false [2] (.nm 2) 0 [(.var 1)] none (.call 8 [(.var 2)]))]))]
def D38 : FD := ⟨0, 2, 3, B38, .pl, false⟩ -- are_such_names
theorem s38 {W : WP} {T : Tab} {mnm : Nat → Str} {k : Nat} (nm : Nms W mnm fnms mnms) : SndSs ⟨N38, defScope (top 34), none, G, D38.lam⟩ W T mnm k (defBody (top 34)) B38 := (vSs _ (vS nm 60 _) (defBody (top 34)) B38).get (by kernel_rfl)
theorem f38 : FnScope N38 (N38.take 2) (defScope (top 34)) := C8.fnScope_by (by kernel_rfl)
def N39 : List Str := [("term" : PySem.Str), ("names" : PySem.Str)]
def B39 : List IS := [(.drop (.call 36 [(.var 0)])), (.ite (.not (.call 38 [(.var 0),(.var 1)])) [.nev] [])]
def D39 : FD := ⟨0, 2, 2, B39, .pl, false⟩ -- look_at_names
theorem s39 {W : WP} {T : Tab} {mnm : Nat → Str} {k : Nat} (nm : Nms W mnm fnms mnms) : SndSs ⟨N39, defScope (top 35), none, G, D39.lam⟩ W T mnm k (defBody (top 35)) B39 := (vSs _ (vS nm 60 _) (defBody (top 35)) B39).get (by kernel_rfl)
theorem f39 : FnScope N39 (N39.take 2) (defScope (top 35)) := C8.fnScope_by (by kernel_rfl)
def N40 : List Str := [("names" : PySem.Str), ("meant" : PySem.Str)]
def B40 : List IS := [(.ret (.ite (.isi [.bt .str] (.var 1)) (.var 1) (.p2 .idx (.var 0) (.var 1))))]
def D40 : FD := ⟨2, 2, 2, B40, .pl, false⟩ -- name_for
theorem s40 {W : WP} {T : Tab} {mnm : Nat → Str} {k : Nat} (nm : Nms W mnm fnms mnms) : SndSs ⟨N40, defScope (top 36), none, G, D40.lam⟩ W T mnm k (defBody (top 36)) B40 := (vSs _ (vS nm 60 _) (defBody (top 36)) B40).get (by kernel_rfl)
theorem f40 : FnScope N40 (N40.take 2) (defScope (top 36)) := C8.fnScope_by (by kernel_rfl)
def N41 : List Str := [("around" : PySem.Str), ("meant" : PySem.Str), ("binder" : PySem.Str)]
def B41 : List IS := [(.ret (.ite (.isi [.bt .str] (.var 1)) (.pb .list false [(.var 0)]) (.lc false [2] (.nm 2) 0 [(.var 0)] (some (.p2 .gt (.var 2) (.var 1))) (.var 2))))]
def D41 : FD := ⟨0, 2, 3, B41, .pl, false⟩ -- inner
theorem s41 {W : WP} {T : Tab} {mnm : Nat → Str} {k : Nat} (nm : Nms W mnm fnms mnms) : SndSs ⟨N41, defScope (top 37), none, G, D41.lam⟩ W T mnm k (defBody (top 37)) B41 := (vSs _ (vS nm 60 _) (defBody (top 37)) B41).get (by kernel_rfl)
theorem f41 : FnScope N41 (N41.take 2) (defScope (top 37)) := C8.fnScope_by (by kernel_rfl)
def N42 : List Str := [("term" : PySem.Str), ("names" : PySem.Str), ("found" : PySem.Str), ("use" : PySem.Str), ("meant" : PySem.Str), ("some" : PySem.Str), ("binder" : PySem.Str)]
def B42 : List IS := [(.asg (.nm 2) (.disp .cell [] [])), (.for (.tup [(.nm 3),(.nm 4)]) 2 [(.attr 14 (.var 0))] [(.asg (.nm 5) (.lc false [6] (.nm 6) 0 [(.call 41 [(.p2 .idx (.attr 13 (.var 0)) (.var 3)),(.var 4)])] (some (.p2 .eq (.p2 .idx (.var 1) (.var 6)) (.call 40 [(.var 1),(.var 4)]))) (.var 6))), (.drop (.pm .extend (.var 2) [(.lc false [6] (.nm 6) 0 [(.var 5)] none (.disp .tup [false,false,false] [(.var 3),(.var 6),(.var 4)]))]))]), (.ret (.var 2))]
def D42 : FD := ⟨0, 2, 7, B42, .pl, false⟩ -- catches_of
theorem s42 {W : WP} {T : Tab} {mnm : Nat → Str} {k : Nat} (nm : Nms W mnm fnms mnms) : SndSs ⟨N42, defScope (top 38), none, G, D42.lam⟩ W T mnm k (defBody (top 38)) B42 := (vSs _ (vS nm 60 _) (defBody (top 38)) B42).get (by kernel_rfl)
theorem f42 : FnScope N42 (N42.take 2) (defScope (top 38)) := C8.fnScope_by (by kernel_rfl)
def N43 : List Str := [("term" : PySem.Str), ("names" : PySem.Str)]
def B43 : List IS := [(.drop (.call 39 [(.var 0),(.var 1)])), (.ret (.p2 .eq (.call 42 [(.var 0),(.var 1)]) (.disp .lst [] [])))]
def D43 : FD := ⟨0, 2, 2, B43, .pl, false⟩ -- is_right
theorem s43 {W : WP} {T : Tab} {mnm : Nat → Str} {k : Nat} (nm : Nms W mnm fnms mnms) : SndSs ⟨N43, defScope (top 39), none, G, D43.lam⟩ W T mnm k (defBody (top 39)) B43 := (vSs _ (vS nm 60 _) (defBody (top 39)) B43).get (by kernel_rfl)
theorem f43 : FnScope N43 (N43.take 2) (defScope (top 39)) := C8.fnScope_by (by kernel_rfl)
def N44 : List Str := [("term" : PySem.Str), ("names" : PySem.Str)]
def B44 : List IS := [(.drop (.call 39 [(.var 0),(.var 1)])), (.ret (.call 42 [(.var 0),(.var 1)]))]
def D44 : FD := ⟨0, 2, 2, B44, .pl, false⟩ -- catches
theorem s44 {W : WP} {T : Tab} {mnm : Nat → Str} {k : Nat} (nm : Nms W mnm fnms mnms) : SndSs ⟨N44, defScope (top 40), none, G, D44.lam⟩ W T mnm k (defBody (top 40)) B44 := (vSs _ (vS nm 60 _) (defBody (top 40)) B44).get (by kernel_rfl)
theorem f44 : FnScope N44 (N44.take 2) (defScope (top 40)) := C8.fnScope_by (by kernel_rfl)
def N45 : List Str := [("term" : PySem.Str), ("found" : PySem.Str), ("use" : PySem.Str), ("meant" : PySem.Str), ("binder" : PySem.Str), ("name" : PySem.Str), ("some" : PySem.Str)]
def B45 : List IS := [(.asg (.nm 1) (.lc true [5] (.nm 5) 0 [(.attr 12 (.var 0))] none (.dict []))), (.for (.tup [(.nm 2),(.nm 3)]) 2 [(.attr 14 (.var 0))] [(.for (.nm 4) 0 [(.call 41 [(.p2 .idx (.attr 13 (.var 0)) (.var 2)),(.var 3)])] [(.setI (.p2 .idx (.var 1) (.var 4)) (.var 3) (.con (.bl true)))])]), (.ret (.lc false [6] (.nm 6) 0 [(.var 1)] none (.call 46 [(.var 6)])))]
def D45 : FD := ⟨0, 1, 7, B45, .pl, false⟩ -- all_live
theorem s45 {W : WP} {T : Tab} {mnm : Nat → Str} {k : Nat} (nm : Nms W mnm fnms mnms) : SndSs ⟨N45, defScope (top 42), none, G, D45.lam⟩ W T mnm k (defBody (top 42)) B45 := (vSs _ (vS nm 60 _) (defBody (top 42)) B45).get (by kernel_rfl)
theorem f45 : FnScope N45 (N45.take 1) (defScope (top 42)) := C8.fnScope_by (by kernel_rfl)
def N46 : List Str := [("some" : PySem.Str), ("binders" : PySem.Str), ("one" : PySem.Str)]
def B46 : List IS := [(.asg (.nm 1) (.lcd false [2] (.nm 2) (.var 0) (some (.not (.isi [.bt .str] (.var 2)))) (.var 2))), (.ret (.disp .lst [true,true] [(.pb .sorted false [(.var 1)]),(.call 12 [(.lcd false [2] (.nm 2) (.var 0) (some (.isi [.bt .str] (.var 2))) (.var 2))])]))]
def D46 : FD := ⟨2, 1, 3, B46, .pl, false⟩ -- in_line
theorem s46 {W : WP} {T : Tab} {mnm : Nat → Str} {k : Nat} (nm : Nms W mnm fnms mnms) : SndSs ⟨N46, defScope (top 43), none, G, D46.lam⟩ W T mnm k (defBody (top 43)) B46 := (vSs _ (vS nm 60 _) (defBody (top 43)) B46).get (by kernel_rfl)
theorem f46 : FnScope N46 (N46.take 1) (defScope (top 43)) := C8.fnScope_by (by kernel_rfl)
def N47 : List Str := [("term" : PySem.Str), ("binder" : PySem.Str)]
def B47 : List IS := [(.drop (.call 37 [(.var 0),(.var 1)])), (.ret (.p2 .idx (.call 45 [(.var 0)]) (.var 1)))]
def D47 : FD := ⟨0, 2, 2, B47, .pl, false⟩ -- live_at
theorem s47 {W : WP} {T : Tab} {mnm : Nat → Str} {k : Nat} (nm : Nms W mnm fnms mnms) : SndSs ⟨N47, defScope (top 44), none, G, D47.lam⟩ W T mnm k (defBody (top 44)) B47 := (vSs _ (vS nm 60 _) (defBody (top 44)) B47).get (by kernel_rfl)
theorem f47 : FnScope N47 (N47.take 2) (defScope (top 44)) := C8.fnScope_by (by kernel_rfl)
def N48 : List Str := [("term" : PySem.Str), ("found" : PySem.Str), ("binder" : PySem.Str), ("some" : PySem.Str), ("one" : PySem.Str)]
def B48 : List IS := [(.asg (.nm 1) (.disp .cell [] [])), (.for (.tup [(.nm 2),(.nm 3)]) 2 [(.call 45 [(.var 0)])] [(.drop (.pm .extend (.var 1) [(.lc false [4] (.nm 4) 0 [(.var 3)] none (.disp .tup [false,false] [(.var 4),(.var 2)]))]))]), (.ret (.var 1))]
def D48 : FD := ⟨0, 1, 5, B48, .pl, false⟩ -- pairs_of
theorem s48 {W : WP} {T : Tab} {mnm : Nat → Str} {k : Nat} (nm : Nms W mnm fnms mnms) : SndSs ⟨N48, defScope (top 45), none, G, D48.lam⟩ W T mnm k (defBody (top 45)) B48 := (vSs _ (vS nm 60 _) (defBody (top 45)) B48).get (by kernel_rfl)
theorem f48 : FnScope N48 (N48.take 1) (defScope (top 45)) := C8.fnScope_by (by kernel_rfl)
def N49 : List Str := [("term" : PySem.Str)]
def B49 : List IS := [(.drop (.call 36 [(.var 0)])), (.ret (.call 48 [(.var 0)]))]
def D49 : FD := ⟨0, 1, 1, B49, .pl, false⟩ -- clashes
theorem s49 {W : WP} {T : Tab} {mnm : Nat → Str} {k : Nat} (nm : Nms W mnm fnms mnms) : SndSs ⟨N49, defScope (top 46), none, G, D49.lam⟩ W T mnm k (defBody (top 46)) B49 := (vSs _ (vS nm 60 _) (defBody (top 46)) B49).get (by kernel_rfl)
theorem f49 : FnScope N49 (N49.take 1) (defScope (top 46)) := C8.fnScope_by (by kernel_rfl)
def N50 : List Str := [("term" : PySem.Str), ("one" : PySem.Str)]
def B50 : List IS := [(.ret (.call 12 [(.lc false [1] (.nm 1) 0 [(.attr 14 (.var 0))] (some (.isi [.bt .str] (.var 1))) (.var 1))]))]
def D50 : FD := ⟨0, 1, 2, B50, .pl, false⟩ -- free_of
theorem s50 {W : WP} {T : Tab} {mnm : Nat → Str} {k : Nat} (nm : Nms W mnm fnms mnms) : SndSs ⟨N50, defScope (top 48), none, G, D50.lam⟩ W T mnm k (defBody (top 48)) B50 := (vSs _ (vS nm 60 _) (defBody (top 48)) B50).get (by kernel_rfl)
theorem f50 : FnScope N50 (N50.take 1) (defScope (top 48)) := C8.fnScope_by (by kernel_rfl)
def N51 : List Str := [("term" : PySem.Str)]
def B51 : List IS := [(.drop (.call 36 [(.var 0)])), (.ret (.call 50 [(.var 0)]))]
def D51 : FD := ⟨0, 1, 1, B51, .pl, false⟩ -- free_names
theorem s51 {W : WP} {T : Tab} {mnm : Nat → Str} {k : Nat} (nm : Nms W mnm fnms mnms) : SndSs ⟨N51, defScope (top 49), none, G, D51.lam⟩ W T mnm k (defBody (top 49)) B51 := (vSs _ (vS nm 60 _) (defBody (top 49)) B51).get (by kernel_rfl)
theorem f51 : FnScope N51 (N51.take 1) (defScope (top 49)) := C8.fnScope_by (by kernel_rfl)
def N52 : List Str := [("term" : PySem.Str)]
def B52 : List IS := [(.drop (.call 36 [(.var 0)])), (.ret (.pb .list false [(.attr 14 (.var 0))]))]
def D52 : FD := ⟨0, 1, 1, B52, .pl, false⟩ -- meaning
theorem s52 {W : WP} {T : Tab} {mnm : Nat → Str} {k : Nat} (nm : Nms W mnm fnms mnms) : SndSs ⟨N52, defScope (top 50), none, G, D52.lam⟩ W T mnm k (defBody (top 50)) B52 := (vSs _ (vS nm 60 _) (defBody (top 50)) B52).get (by kernel_rfl)
theorem f52 : FnScope N52 (N52.take 1) (defScope (top 50)) := C8.fnScope_by (by kernel_rfl)
def N53 : List Str := [("some" : PySem.Str), ("one" : PySem.Str)]
def B53 : List IS := [(.ret (.lc false [1] (.nm 1) 0 [(.var 0)] (some (.not (.isi [.bt .str] (.var 1)))) (.var 1)))]
def D53 : FD := ⟨0, 1, 2, B53, .pl, false⟩ -- binders_in
theorem s53 {W : WP} {T : Tab} {mnm : Nat → Str} {k : Nat} (nm : Nms W mnm fnms mnms) : SndSs ⟨N53, defScope (top 52), none, G, D53.lam⟩ W T mnm k (defBody (top 52)) B53 := (vSs _ (vS nm 60 _) (defBody (top 52)) B53).get (by kernel_rfl)
theorem f53 : FnScope N53 (N53.take 1) (defScope (top 52)) := C8.fnScope_by (by kernel_rfl)
def N54 : List Str := [("term" : PySem.Str), ("some" : PySem.Str)]
def B54 : List IS := [(.ret (.pb .max false [(.disp .lst [false,true] [(.pb .len false [(.call 50 [(.var 0)])]),(.lc false [1] (.nm 1) 0 [(.call 45 [(.var 0)])] none (.p2 .add (.pb .len false [(.var 1)]) (.con (.int 1))))])]))]
def D54 : FD := ⟨0, 1, 2, B54, .pl, false⟩ -- width_of
theorem s54 {W : WP} {T : Tab} {mnm : Nat → Str} {k : Nat} (nm : Nms W mnm fnms mnms) : SndSs ⟨N54, defScope (top 53), none, G, D54.lam⟩ W T mnm k (defBody (top 53)) B54 := (vSs _ (vS nm 60 _) (defBody (top 53)) B54).get (by kernel_rfl)
theorem f54 : FnScope N54 (N54.take 1) (defScope (top 53)) := C8.fnScope_by (by kernel_rfl)
def N55 : List Str := [("term" : PySem.Str)]
def B55 : List IS := [(.drop (.call 36 [(.var 0)])), (.ret (.call 54 [(.var 0)]))]
def D55 : FD := ⟨0, 1, 1, B55, .pl, false⟩ -- width
theorem s55 {W : WP} {T : Tab} {mnm : Nat → Str} {k : Nat} (nm : Nms W mnm fnms mnms) : SndSs ⟨N55, defScope (top 54), none, G, D55.lam⟩ W T mnm k (defBody (top 54)) B55 := (vSs _ (vS nm 60 _) (defBody (top 54)) B55).get (by kernel_rfl)
theorem f55 : FnScope N55 (N55.take 1) (defScope (top 54)) := C8.fnScope_by (by kernel_rfl)
def N56 : List Str := [("term" : PySem.Str), ("apart" : PySem.Str), ("some" : PySem.Str)]
def B56 : List IS := [(.drop (.call 36 [(.var 0)])), (.ite (.p2 .notB (.var 1) (.con (.bl true))) [(.ret (.call 54 [(.var 0)]))] []), (.ret (.p2 .add (.pb .len false [(.call 50 [(.var 0)])]) (.pb .max false [(.disp .lst [false,true] [(.con (.int 0)),(.lc false [2] (.nm 2) 0 [(.call 45 [(.var 0)])] none (.p2 .add (.pb .len false [(.call 53 [(.var 2)])]) (.con (.int 1))))])])))]
def D56 : FD := ⟨0, 2, 3, B56, .kw [("apart" : PySem.Str)] [(.bl false)], false⟩ -- fewest
theorem s56 {W : WP} {T : Tab} {mnm : Nat → Str} {k : Nat} (nm : Nms W mnm fnms mnms) : SndSs ⟨N56, defScope (top 55), none, G, D56.lam⟩ W T mnm k (defBody (top 55)) B56 := (vSs _ (vS nm 60 _) (defBody (top 55)) B56).get (by kernel_rfl)
theorem f56 : FnScope N56 (N56.take 2) (defScope (top 55)) := C8.fnScope_by (by kernel_rfl)
def N57 : List Str := [("term" : PySem.Str), ("is_apart" : PySem.Str), ("free" : PySem.Str), ("others" : PySem.Str)]
def B57 : List IS := [(.asg (.nm 2) (.call 50 [(.var 0)])), (.asg (.nm 3) (.call 14 [(.pb .len false [(.attr 12 (.var 0))]),(.var 2)])), (.ret (.ite (.var 1) (.var 3) (.disp .lst [true,true] [(.var 2),(.var 3)])))]
def D57 : FD := ⟨0, 2, 4, B57, .pl, false⟩ -- pool_for
theorem s57 {W : WP} {T : Tab} {mnm : Nat → Str} {k : Nat} (nm : Nms W mnm fnms mnms) : SndSs ⟨N57, defScope (top 56), none, G, D57.lam⟩ W T mnm k (defBody (top 56)) B57 := (vSs _ (vS nm 60 _) (defBody (top 56)) B57).get (by kernel_rfl)
theorem f57 : FnScope N57 (N57.take 2) (defScope (top 56)) := C8.fnScope_by (by kernel_rfl)
def N58 : List Str := [("term" : PySem.Str), ("is_apart" : PySem.Str), ("some" : PySem.Str), ("pool" : PySem.Str), ("found" : PySem.Str), ("shut" : PySem.Str), ("one" : PySem.Str), ("name" : PySem.Str)]
def B58 : List IS := [(.asg (.tup [(.nm 3),(.nm 4)]) (.disp .tup [false,false] [(.call 57 [(.var 0),(.var 1)]),(.disp .cell [] [])])), (.for (.nm 2) 0 [(.call 45 [(.var 0)])] [(.asg (.nm 5) (.lc false [6] (.nm 6) 0 [(.var 2)] none (.call 40 [(.var 4),(.var 6)]))), (.drop (.pm .append (.var 4) [(.p2 .idx (.lc false [7] (.nm 7) 0 [(.var 3)] (some (.p2 .notin (.var 7) (.var 5))) (.var 7)) (.con (.int 0)))]))]), (.ret (.pb .tuple false [(.var 4)]))]
def D58 : FD := ⟨0, 2, 8, B58, .pl, false⟩ -- told_for
theorem s58 {W : WP} {T : Tab} {mnm : Nat → Str} {k : Nat} (nm : Nms W mnm fnms mnms) : SndSs ⟨N58, defScope (top 57), none, G, D58.lam⟩ W T mnm k (defBody (top 57)) B58 := (vSs _ (vS nm 60 _) (defBody (top 57)) B58).get (by kernel_rfl)
theorem f58 : FnScope N58 (N58.take 2) (defScope (top 57)) := C8.fnScope_by (by kernel_rfl)
def N59 : List Str := [("term" : PySem.Str), ("apart" : PySem.Str)]
def B59 : List IS := [(.drop (.call 36 [(.var 0)])), (.ret (.call 58 [(.var 0),(.p2 .isB (.var 1) (.con (.bl true)))]))]
def D59 : FD := ⟨0, 2, 2, B59, .kw [("apart" : PySem.Str)] [(.bl false)], false⟩ -- told_naming
theorem s59 {W : WP} {T : Tab} {mnm : Nat → Str} {k : Nat} (nm : Nms W mnm fnms mnms) : SndSs ⟨N59, defScope (top 58), none, G, D59.lam⟩ W T mnm k (defBody (top 58)) B59 := (vSs _ (vS nm 60 _) (defBody (top 58)) B59).get (by kernel_rfl)
theorem f59 : FnScope N59 (N59.take 2) (defScope (top 58)) := C8.fnScope_by (by kernel_rfl)
def N60 : List Str := [("term" : PySem.Str), ("names" : PySem.Str), ("name" : PySem.Str)]
def B60 : List IS := [(.ret (.pb .len false [(.dc [2] (.nm 2) 0 [(.disp .lst [true,true] [(.call 50 [(.var 0)]),(.var 1)])] none (.var 2) (.con (.bl true)))]))]
def D60 : FD := ⟨0, 2, 3, B60, .pl, false⟩ -- names_used
theorem s60 {W : WP} {T : Tab} {mnm : Nat → Str} {k : Nat} (nm : Nms W mnm fnms mnms) : SndSs ⟨N60, defScope (top 59), none, G, D60.lam⟩ W T mnm k (defBody (top 59)) B60 := (vSs _ (vS nm 60 _) (defBody (top 59)) B60).get (by kernel_rfl)
theorem f60 : FnScope N60 (N60.take 2) (defScope (top 59)) := C8.fnScope_by (by kernel_rfl)
def N61 : List Str := [("term" : PySem.Str), ("paper" : PySem.Str), ("names" : PySem.Str), ("binder" : PySem.Str)]
def B61 : List IS := [(.drop (.call 36 [(.var 0)])), (.ite (.or (.not (.isi [.bt .tup] (.var 1))) (.or (.p2 .ne (.pb .len false [(.var 1)]) (.con (.int 2))) (.not (.isi [.bt .tup] (.p2 .idx (.var 1) (.con (.int 0))))))) [(.ret (.con (.bl false)))] []), (.asg (.tup [(.nm 2),(.nm 3)]) (.var 1)), (.ite (.or (.not (.call 38 [(.var 0),(.var 2)])) (.p2 .ne (.call 42 [(.var 0),(.var 2)]) (.disp .lst [] []))) [(.ret (.con (.bl false)))] []), (.ite (.p2 .isN (.var 3) (.con .non)) [(.ret (.p2 .eq (.call 60 [(.var 0),(.var 2)]) (.pb .len false [(.call 50 [(.var 0)])])))] []), (.ite (.not (.call 7 [(.var 3),(.con (.int 0)),(.p2 .sub (.pb .len false [(.attr 12 (.var 0))]) (.con (.int 1)))])) [(.ret (.con (.bl false)))] []), (.ret (.p2 .eq (.call 60 [(.var 0),(.var 2)]) (.p2 .add (.pb .len false [(.p2 .idx (.call 45 [(.var 0)]) (.var 3))]) (.con (.int 1)))))]
def D61 : FD := ⟨0, 2, 4, B61, .pl, false⟩ -- accepts_fewest
theorem s61 {W : WP} {T : Tab} {mnm : Nat → Str} {k : Nat} (nm : Nms W mnm fnms mnms) : SndSs ⟨N61, defScope (top 60), none, G, D61.lam⟩ W T mnm k (defBody (top 60)) B61 := (vSs _ (vS nm 60 _) (defBody (top 60)) B61).get (by kernel_rfl)
theorem f61 : FnScope N61 (N61.take 2) (defScope (top 60)) := C8.fnScope_by (by kernel_rfl)
def N62 : List Str := [("value" : PySem.Str), ("name" : PySem.Str)]
def B62 : List IS := [(.ite (.or (.not (.call 9 [(.var 0)])) (.or (.p2 .gt (.pb .len false [(.var 0)]) (.con (.int 60))) (.not (.pb .all false [(.lc false [1] (.nm 1) 0 [(.var 0)] none (.call 8 [(.var 1)]))])))) [(.ret (.con (.bl false)))] []), (.ret (.call 10 [(.var 0)]))]
def D62 : FD := ⟨0, 1, 2, B62, .pl, false⟩ -- is_pool
theorem s62 {W : WP} {T : Tab} {mnm : Nat → Str} {k : Nat} (nm : Nms W mnm fnms mnms) : SndSs ⟨N62, defScope (top 63), none, G, D62.lam⟩ W T mnm k (defBody (top 63)) B62 := (vSs _ (vS nm 60 _) (defBody (top 63)) B62).get (by kernel_rfl)
theorem f62 : FnScope N62 (N62.take 1) (defScope (top 63)) := C8.fnScope_by (by kernel_rfl)
def N63 : List Str := [("term" : PySem.Str), ("pool" : PySem.Str)]
def B63 : List IS := [(.drop (.call 36 [(.var 0)])), (.ite (.not (.call 62 [(.var 1)])) [.nev] [])]
def D63 : FD := ⟨0, 2, 2, B63, .pl, false⟩ -- look_at_pool
theorem s63 {W : WP} {T : Tab} {mnm : Nat → Str} {k : Nat} (nm : Nms W mnm fnms mnms) : SndSs ⟨N63, defScope (top 64), none, G, D63.lam⟩ W T mnm k (defBody (top 64)) B63 := (vSs _ (vS nm 60 _) (defBody (top 64)) B63).get (by kernel_rfl)
theorem f63 : FnScope N63 (N63.take 2) (defScope (top 64)) := C8.fnScope_by (by kernel_rfl)
def N64 : List Str := [("term" : PySem.Str), ("pool" : PySem.Str), ("found" : PySem.Str), ("some" : PySem.Str), ("shut" : PySem.Str), ("one" : PySem.Str)]
def B64 : List IS := [(.asg (.nm 2) (.disp .cell [] [])), (.for (.nm 3) 0 [(.call 45 [(.var 0)])] [(.asg (.nm 4) (.lc false [5] (.nm 5) 0 [(.var 3)] (some (.or (.not (.isi [.bt .str] (.var 5))) (.p2 .inn (.var 5) (.var 1)))) (.var 5))), (.drop (.pm .append (.var 2) [(.pb .max false [(.con (.int 0)),(.p2 .sub (.pb .len false [(.var 1)]) (.pb .len false [(.var 4)]))])]))]), (.ret (.var 2))]
def D64 : FD := ⟨0, 2, 6, B64, .pl, false⟩ -- choices_for
theorem s64 {W : WP} {T : Tab} {mnm : Nat → Str} {k : Nat} (nm : Nms W mnm fnms mnms) : SndSs ⟨N64, defScope (top 65), none, G, D64.lam⟩ W T mnm k (defBody (top 65)) B64 := (vSs _ (vS nm 60 _) (defBody (top 65)) B64).get (by kernel_rfl)
theorem f64 : FnScope N64 (N64.take 2) (defScope (top 65)) := C8.fnScope_by (by kernel_rfl)
def N65 : List Str := [("numbers" : PySem.Str), ("found" : PySem.Str), ("number" : PySem.Str)]
def B65 : List IS := [(.asg (.nm 1) (.con (.int 1))), (.for (.nm 2) 0 [(.var 0)] [(.aug 1 .mul (.var 2))]), (.ret (.var 1))]
def D65 : FD := ⟨0, 1, 3, B65, .pl, false⟩ -- product
theorem s65 {W : WP} {T : Tab} {mnm : Nat → Str} {k : Nat} (nm : Nms W mnm fnms mnms) : SndSs ⟨N65, defScope (top 66), none, G, D65.lam⟩ W T mnm k (defBody (top 66)) B65 := (vSs _ (vS nm 60 _) (defBody (top 66)) B65).get (by kernel_rfl)
theorem f65 : FnScope N65 (N65.take 1) (defScope (top 66)) := C8.fnScope_by (by kernel_rfl)
def N66 : List Str := [("term" : PySem.Str), ("pool" : PySem.Str)]
def B66 : List IS := [(.drop (.call 63 [(.var 0),(.var 1)])), (.ret (.call 65 [(.call 64 [(.var 0),(.var 1)])]))]
def D66 : FD := ⟨0, 2, 2, B66, .pl, false⟩ -- how_many
theorem s66 {W : WP} {T : Tab} {mnm : Nat → Str} {k : Nat} (nm : Nms W mnm fnms mnms) : SndSs ⟨N66, defScope (top 67), none, G, D66.lam⟩ W T mnm k (defBody (top 67)) B66 := (vSs _ (vS nm 60 _) (defBody (top 67)) B66).get (by kernel_rfl)
theorem f66 : FnScope N66 (N66.take 2) (defScope (top 67)) := C8.fnScope_by (by kernel_rfl)
def N67 : List Str := [("term_live" : PySem.Str), ("found" : PySem.Str), ("pool" : PySem.Str), ("shut" : PySem.Str), ("one" : PySem.Str), ("name" : PySem.Str)]
def B67 : List IS := [(.asg (.nm 3) (.lc false [4] (.nm 4) 0 [(.var 0)] none (.call 40 [(.var 1),(.var 4)]))), (.ret (.lc false [5] (.nm 5) 0 [(.var 2)] (some (.p2 .notin (.var 5) (.var 3))) (.var 5)))]
def D67 : FD := ⟨2, 3, 6, B67, .pl, false⟩ -- let_at
theorem s67 {W : WP} {T : Tab} {mnm : Nat → Str} {k : Nat} (nm : Nms W mnm fnms mnms) : SndSs ⟨N67, defScope (top 68), none, G, D67.lam⟩ W T mnm k (defBody (top 68)) B67 := (vSs _ (vS nm 60 _) (defBody (top 68)) B67).get (by kernel_rfl)
theorem f67 : FnScope N67 (N67.take 3) (defScope (top 68)) := C8.fnScope_by (by kernel_rfl)
def N68 : List Str := [("term" : PySem.Str), ("pool" : PySem.Str), ("number" : PySem.Str), ("sizes" : PySem.Str), ("found" : PySem.Str), ("left" : PySem.Str), ("binder" : PySem.Str), ("some" : PySem.Str), ("below" : PySem.Str)]
def B68 : List IS := [(.par [3,4,5] [(.call 64 [(.var 0),(.var 1)]),(.disp .cell [] []),(.var 2)]), (.for (.tup [(.nm 6),(.nm 7)]) 2 [(.call 45 [(.var 0)])] [(.asg (.nm 8) (.call 65 [(.slice (.var 3) (some (.p2 .add (.var 6) (.con (.int 1)))) none false)])), (.drop (.pm .append (.var 4) [(.p2 .idx (.call 67 [(.var 7),(.var 4),(.var 1)]) (.p2 .fdiv (.var 5) (.var 8)))])), (.aug 5 .mod (.var 8))]), (.ret (.pb .tuple false [(.var 4)]))]
def D68 : FD := ⟨0, 3, 9, B68, .pl, false⟩ -- naming_by
theorem s68 {W : WP} {T : Tab} {mnm : Nat → Str} {k : Nat} (nm : Nms W mnm fnms mnms) : SndSs ⟨N68, defScope (top 69), none, G, D68.lam⟩ W T mnm k (defBody (top 69)) B68 := (vSs _ (vS nm 60 _) (defBody (top 69)) B68).get (by kernel_rfl)
theorem f68 : FnScope N68 (N68.take 3) (defScope (top 69)) := C8.fnScope_by (by kernel_rfl)
def N70 : List Str := [("_law_script" : PySem.Str), ("_law_k" : PySem.Str), ("_law_cell" : PySem.Str), ("_law_big" : PySem.Str), ("_law_mixed" : PySem.Str)]
def B70 : List IS := [(.asg (.nm 2) (.con (.int 0))), (.ite (.p2 .lt (.var 1) (.pb .len false [(.var 0)])) [(.asg (.nm 2) (.p2 .idx (.var 0) (.var 1)))] []), (.asg (.nm 3) (.pb .max false [(.pb .int false [(.var 2)]),(.pb .int false [(.p2 .sub (.neg (.con (.int 1))) (.var 2))])])), (.asg (.nm 4) (.p2 .mod (.pb .int false [(.p2 .mul (.p2 .add (.p2 .add (.p2 .add (.p2 .mod (.pb .int false [(.var 3)]) (.con (.int 2147483629))) (.p2 .mul (.p2 .mul (.con (.int 7919)) (.var 1)) (.var 1))) (.p2 .mul (.con (.int 31)) (.var 1))) (.con (.int 17))) (.con (.int 48271)))]) (.con (.int 2147483647)))), (.ret (.disp .cell [false,false] [(.p2 .mul (.var 3) (.pb .int false [(.p2 .ge (.var 3) (.p2 .pow (.con (.int 10)) (.con (.int 18))))])),(.var 4)]))]
def D70 : FD := ⟨2, 2, 5, B70, .pl, false⟩ -- _law_pool
theorem s70 {W : WP} {T : Tab} {mnm : Nat → Str} {k : Nat} (nm : Nms W mnm fnms mnms) : SndSs ⟨N70, defScope (top 72), none, G, D70.lam⟩ W T mnm k (defBody (top 72)) B70 := (vSs _ (vS nm 60 _) (defBody (top 72)) B70).get (by kernel_rfl)
theorem f70 : FnScope N70 (N70.take 2) (defScope (top 72)) := C8.fnScope_by (by kernel_rfl)
def N71 : List Str := [("_law_source" : PySem.Str), ("_law_top" : PySem.Str), ("_law_told" : PySem.Str)]
def B71 : List IS := [(.ite (.p2 .gt (.p2 .idx (.var 0) (.con (.int 0))) (.con (.int 0))) [(.asg (.nm 2) (.p2 .mod (.pb .int false [(.p2 .idx (.var 0) (.con (.int 0)))]) (.var 1))), (.setI (.var 0) (.con (.int 0)) (.p2 .fdiv (.p2 .idx (.var 0) (.con (.int 0))) (.var 1))), (.ret (.var 2))] []), (.setI (.var 0) (.con (.int 1)) (.p2 .mod (.pb .int false [(.p2 .add (.p2 .mul (.p2 .idx (.var 0) (.con (.int 1))) (.con (.int 39373))) (.con (.int 7)))]) (.con (.int 2147483647)))), (.ret (.p2 .mod (.pb .int false [(.p2 .fdiv (.p2 .mod (.pb .int false [(.p2 .mul (.p2 .idx (.var 0) (.con (.int 1))) (.p2 .idx (.var 0) (.con (.int 1))))]) (.con (.int 2147483629))) (.con (.int 32)))]) (.var 1)))]
def D71 : FD := ⟨2, 2, 3, B71, .pl, false⟩ -- _law_take
theorem s71 {W : WP} {T : Tab} {mnm : Nat → Str} {k : Nat} (nm : Nms W mnm fnms mnms) : SndSs ⟨N71, defScope (top 73), none, G, D71.lam⟩ W T mnm k (defBody (top 73)) B71 := (vSs _ (vS nm 60 _) (defBody (top 73)) B71).get (by kernel_rfl)
theorem f71 : FnScope N71 (N71.take 2) (defScope (top 73)) := C8.fnScope_by (by kernel_rfl)
def N72 : List Str := [("_law_source" : PySem.Str), ("_law_things" : PySem.Str), ("_law_left" : PySem.Str), ("_law_found" : PySem.Str)]
def B72 : List IS := [(.par [2,3] [(.pb .list true [(.var 1)]),(.disp .cell [] [])]), (.whl (.p2 .ne (.var 2) (.disp .lst [] [])) [(.drop (.pm .append (.var 3) [(.pm .popAt (.var 2) [(.call 71 [(.var 0),(.pb .len false [(.var 2)])])])]))]), (.ret (.var 3))]
def D72 : FD := ⟨2, 2, 4, B72, .pl, false⟩ -- _law_turned
theorem s72 {W : WP} {T : Tab} {mnm : Nat → Str} {k : Nat} (nm : Nms W mnm fnms mnms) : SndSs ⟨N72, defScope (top 74), none, G, D72.lam⟩ W T mnm k (defBody (top 74)) B72 := (vSs _ (vS nm 60 _) (defBody (top 74)) B72).get (by kernel_rfl)
theorem f72 : FnScope N72 (N72.take 2) (defScope (top 74)) := C8.fnScope_by (by kernel_rfl)
def N73 : List Str := [("_law_name" : PySem.Str)]
def B73 : List IS := [(.ret (.disp .tup [false,false] [(.con (.str [117,115,101])),(.var 0)]))]
def D73 : FD := ⟨0, 1, 1, B73, .pl, false⟩ -- _law_use
theorem s73 {W : WP} {T : Tab} {mnm : Nat → Str} {k : Nat} (nm : Nms W mnm fnms mnms) : SndSs ⟨N73, defScope (top 75), none, G, D73.lam⟩ W T mnm k (defBody (top 75)) B73 := (vSs _ (vS nm 60 _) (defBody (top 75)) B73).get (by kernel_rfl)
theorem f73 : FnScope N73 (N73.take 1) (defScope (top 75)) := C8.fnScope_by (by kernel_rfl)
def N74 : List Str := [("_law_x" : PySem.Str), ("_law_y" : PySem.Str), ("_law_both" : PySem.Str), ("_law_alone" : PySem.Str)]
def B74 : List IS := [(.asg (.nm 2) (.make 1 21 true [(.disp .tup [false,false,false,false] [(.con (.str [98,105,110,100])),(.var 0),(.disp .tup [] []),(.disp .tup [false,false,false,false] [(.con (.str [98,105,110,100])),(.var 1),(.disp .tup [] []),(.disp .tup [false,false,false] [(.con (.str [106,111,105,110])),(.con (.str [102])),(.disp .tup [false,false] [(.call 73 [(.var 0)]),(.call 73 [(.var 1)])])])])])])), (.ite (.or (.p2 .ne (.call 49 [(.var 2)]) (.disp .lst [false] [(.disp .tup [false,false] [(.con (.int 0)),(.con (.int 1))])])) (.p2 .ne (.call 55 [(.var 2)]) (.con (.int 2)))) [(.ret (.con (.bl false)))] []), (.ite (.or (.p2 .ne (.call 59 [(.var 2),(.con (.bl false))]) (.disp .tup [false,false] [(.con (.str [97])),(.con (.str [98]))])) (.p2 .ne (.call 52 [(.var 2)]) (.disp .lst [false,false] [(.con (.int 0)),(.con (.int 1))]))) [(.ret (.con (.bl false)))] []), (.ite (.p2 .ne (.call 44 [(.var 2),(.disp .tup [false,false] [(.var 1),(.var 1)])]) (.disp .lst [false] [(.disp .tup [false,false,false] [(.con (.int 0)),(.con (.int 1)),(.con (.int 0))])])) [(.ret (.con (.bl false)))] []), (.ite (.p2 .ne (.call 66 [(.var 2),(.disp .lst [false,false,false] [(.con (.str [97])),(.con (.str [98])),(.con (.str [99]))])]) (.con (.int 6))) [(.ret (.con (.bl false)))] []), (.ite (.p2 .ne (.call 66 [(.var 2),(.disp .lst [false] [(.con (.str [97]))])]) (.con (.int 0))) [(.ret (.con (.bl false)))] []), (.ite (.p2 .ne (.pb .list false [(.call 69 [(.var 2),(.disp .tup [false,false] [(.con (.str [98])),(.con (.str [97]))])])]) (.disp .lst [false,false] [(.disp .tup [false,false] [(.con (.str [98])),(.con (.str [97]))]),(.disp .tup [false,false] [(.con (.str [97])),(.con (.str [98]))])])) [(.ret (.con (.bl false)))] []), (.asg (.nm 3) (.make 1 21 true [(.disp .tup [false,false,false,false] [(.con (.str [98,105,110,100])),(.var 0),(.disp .tup [] []),(.disp .tup [false,false,false,false] [(.con (.str [98,105,110,100])),(.var 1),(.disp .tup [] []),(.call 73 [(.var 1)])])])])), (.ite (.or (.p2 .ne (.call 49 [(.var 3)]) (.disp .lst [] [])) (.p2 .ne (.call 55 [(.var 3)]) (.con (.int 1)))) [(.ret (.con (.bl false)))] []), (.ite (.p2 .ne (.call 59 [(.var 3),(.con (.bl false))]) (.disp .tup [false,false] [(.con (.str [97])),(.con (.str [97]))])) [(.ret (.con (.bl false)))] []), (.ite (.p2 .ne (.call 66 [(.var 3),(.disp .lst [false,false,false] [(.con (.str [97])),(.con (.str [98])),(.con (.str [99]))])]) (.con (.int 9))) [(.ret (.con (.bl false)))] []), (.ret (.and (.call 61 [(.var 3),(.disp .tup [false,false] [(.disp .tup [false,false] [(.con (.str [97])),(.con (.str [97]))]),(.con (.int 0))])]) (.not (.call 61 [(.var 3),(.disp .tup [false,false] [(.disp .tup [false,false] [(.con (.str [97])),(.con (.str [98]))]),(.con (.int 0))])]))))]
def D74 : FD := ⟨0, 2, 4, B74, .pl, false⟩ -- _law_two_right
theorem s74 {W : WP} {T : Tab} {mnm : Nat → Str} {k : Nat} (nm : Nms W mnm fnms mnms) : SndSs ⟨N74, defScope (top 76), none, G, D74.lam⟩ W T mnm k (defBody (top 76)) B74 := (vSs _ (vS nm 60 _) (defBody (top 76)) B74).get (by kernel_rfl)
theorem f74 : FnScope N74 (N74.take 2) (defScope (top 76)) := C8.fnScope_by (by kernel_rfl)
def N75 : List Str := [("_law_x" : PySem.Str), ("_law_y" : PySem.Str), ("_law_z" : PySem.Str), ("_law_inmost" : PySem.Str), ("_law_tree" : PySem.Str), ("_law_made" : PySem.Str), ("_law_binder" : PySem.Str)]
def B75 : List IS := [(.asg (.nm 3) (.disp .tup [false,false,false,false] [(.con (.str [98,105,110,100])),(.var 2),(.disp .tup [] []),(.disp .tup [false,false,false] [(.con (.str [106,111,105,110])),(.con (.str [102])),(.disp .tup [false,false] [(.call 73 [(.var 0)]),(.call 73 [(.var 2)])])])])), (.asg (.nm 4) (.disp .tup [false,false,false,false] [(.con (.str [98,105,110,100])),(.var 0),(.disp .tup [] []),(.disp .tup [false,false,false] [(.con (.str [106,111,105,110])),(.con (.str [102])),(.disp .tup [false,false] [(.call 73 [(.var 0)]),(.disp .tup [false,false,false,false] [(.con (.str [98,105,110,100])),(.var 1),(.disp .tup [] []),(.disp .tup [false,false,false] [(.con (.str [106,111,105,110])),(.con (.str [103])),(.disp .tup [false,false] [(.call 73 [(.var 1)]),(.var 3)])])])])])])), (.asg (.nm 5) (.make 1 21 true [(.var 4)])), (.ite (.p2 .ne (.lc false [6] (.nm 6) 0 [(.disp .lst [false,false,false] [(.con (.int 0)),(.con (.int 1)),(.con (.int 2))])] none (.call 47 [(.var 5),(.var 6)])) (.disp .lst [false,false,false] [(.disp .lst [] []),(.disp .lst [false] [(.con (.int 0))]),(.disp .lst [false] [(.con (.int 0))])])) [(.ret (.con (.bl false)))] []), (.ite (.p2 .ne (.call 55 [(.var 5)]) (.con (.int 2))) [(.ret (.con (.bl false)))] []), (.ret (.and (.p2 .eq (.call 59 [(.var 5),(.con (.bl false))]) (.disp .tup [false,false,false] [(.con (.str [97])),(.con (.str [98])),(.con (.str [98]))])) (.p2 .eq (.call 66 [(.var 5),(.disp .lst [false,false,false] [(.con (.str [112])),(.con (.str [113])),(.con (.str [114]))])]) (.con (.int 12)))))]
def D75 : FD := ⟨0, 3, 7, B75, .pl, false⟩ -- _law_three_right
theorem s75 {W : WP} {T : Tab} {mnm : Nat → Str} {k : Nat} (nm : Nms W mnm fnms mnms) : SndSs ⟨N75, defScope (top 77), none, G, D75.lam⟩ W T mnm k (defBody (top 77)) B75 := (vSs _ (vS nm 60 _) (defBody (top 77)) B75).get (by kernel_rfl)
theorem f75 : FnScope N75 (N75.take 3) (defScope (top 77)) := C8.fnScope_by (by kernel_rfl)
def N76 : List Str := [("_law_x" : PySem.Str), ("_law_y" : PySem.Str), ("_law_made" : PySem.Str), ("_law_spare" : PySem.Str)]
def B76 : List IS := [(.asg (.nm 2) (.make 1 21 true [(.disp .tup [false,false,false,false] [(.con (.str [98,105,110,100])),(.var 1),(.disp .tup [] []),(.disp .tup [false,false,false] [(.con (.str [106,111,105,110])),(.con (.str [102])),(.disp .tup [false,false] [(.call 73 [(.var 1)]),(.call 73 [(.var 0)])])])])])), (.ite (.or (.p2 .ne (.call 47 [(.var 2),(.con (.int 0))]) (.disp .lst [false] [(.var 0)])) (.p2 .ne (.call 51 [(.var 2)]) (.disp .lst [false] [(.var 0)]))) [(.ret (.con (.bl false)))] []), (.ite (.or (.p2 .ne (.call 55 [(.var 2)]) (.con (.int 2))) (.p2 .ne (.call 56 [(.var 2),(.con (.bl true))]) (.con (.int 2)))) [(.ret (.con (.bl false)))] []), (.ite (.or (.call 43 [(.var 2),(.disp .tup [false] [(.var 0)])]) (.p2 .ne (.call 44 [(.var 2),(.disp .tup [false] [(.var 0)])]) (.disp .lst [false] [(.disp .tup [false,false,false] [(.con (.int 1)),(.con (.int 0)),(.var 0)])]))) [(.ret (.con (.bl false)))] []), (.ite (.p2 .ne (.call 66 [(.var 2),(.disp .tup [false,false] [(.var 0),(.var 1)])]) (.con (.int 1))) [(.ret (.con (.bl false)))] []), (.asg (.nm 3) (.make 1 21 true [(.disp .tup [false,false,false] [(.con (.str [106,111,105,110])),(.con (.str [102])),(.disp .tup [false,false] [(.disp .tup [false,false,false,false] [(.con (.str [98,105,110,100])),(.var 1),(.disp .tup [] []),(.call 73 [(.var 1)])]),(.call 73 [(.var 0)])])])])), (.ite (.or (.p2 .ne (.call 59 [(.var 3),(.con (.bl false))]) (.disp .tup [false] [(.var 0)])) (.p2 .ne (.call 55 [(.var 3)]) (.con (.int 1)))) [(.ret (.con (.bl false)))] []), (.ite (.p2 .ne (.call 56 [(.var 3),(.con (.bl true))]) (.con (.int 2))) [(.ret (.con (.bl false)))] []), (.ret (.p2 .eq (.call 59 [(.var 3),(.con (.bl true))]) (.disp .tup [false] [(.ite (.p2 .eq (.var 0) (.con (.str [97]))) (.con (.str [98])) (.con (.str [97])))])))]
def D76 : FD := ⟨0, 2, 4, B76, .pl, false⟩ -- _law_free_right
theorem s76 {W : WP} {T : Tab} {mnm : Nat → Str} {k : Nat} (nm : Nms W mnm fnms mnms) : SndSs ⟨N76, defScope (top 78), none, G, D76.lam⟩ W T mnm k (defBody (top 78)) B76 := (vSs _ (vS nm 60 _) (defBody (top 78)) B76).get (by kernel_rfl)
theorem f76 : FnScope N76 (N76.take 2) (defScope (top 78)) := C8.fnScope_by (by kernel_rfl)
def N77 : List Str := [("_law_x" : PySem.Str), ("_law_y" : PySem.Str), ("_law_made" : PySem.Str), ("_law_empty" : PySem.Str)]
def B77 : List IS := [(.asg (.nm 2) (.make 1 21 true [(.disp .tup [false,false,false,false] [(.con (.str [98,105,110,100])),(.var 0),(.disp .tup [false,false] [(.call 73 [(.var 0)]),(.disp .tup [false,false,false,false] [(.con (.str [98,105,110,100])),(.var 0),(.disp .tup [] []),(.call 73 [(.var 0)])])]),(.disp .tup [false,false,false,false] [(.con (.str [98,105,110,100])),(.var 0),(.disp .tup [false] [(.call 73 [(.var 0)])]),(.call 73 [(.var 0)])])])])), (.ite (.or (.p2 .ne (.call 52 [(.var 2)]) (.disp .lst [false,false,false,false] [(.var 0),(.con (.int 1)),(.con (.int 0)),(.con (.int 2))])) (.or (.p2 .ne (.call 51 [(.var 2)]) (.disp .lst [false] [(.var 0)])) (.p2 .ne (.call 49 [(.var 2)]) (.disp .lst [] [])))) [(.ret (.con (.bl false)))] []), (.ite (.or (.p2 .ne (.call 59 [(.var 2),(.con (.bl false))]) (.disp .tup [false,false,false] [(.var 0),(.var 0),(.var 0)])) (.p2 .ne (.call 55 [(.var 2)]) (.con (.int 1)))) [(.ret (.con (.bl false)))] []), (.ite (.p2 .ne (.call 56 [(.var 2),(.con (.bl true))]) (.con (.int 2))) [(.ret (.con (.bl false)))] []), (.asg (.nm 3) (.make 1 21 true [(.disp .tup [false,false,false] [(.con (.str [106,111,105,110])),(.var 1),(.disp .tup [] [])])])), (.ite (.or (.p2 .ne (.call 55 [(.var 3)]) (.con (.int 0))) (.p2 .ne (.call 59 [(.var 3),(.con (.bl false))]) (.disp .tup [] []))) [(.ret (.con (.bl false)))] []), (.ite (.p2 .ne (.call 66 [(.var 3),(.disp .lst [] [])]) (.con (.int 1))) [(.ret (.con (.bl false)))] []), (.ite (.p2 .ne (.pb .list false [(.call 69 [(.var 3),(.disp .lst [] [])])]) (.disp .lst [false] [(.disp .tup [] [])])) [(.ret (.con (.bl false)))] []), (.ret (.and (.call 61 [(.var 3),(.disp .tup [false,false] [(.disp .tup [] []),(.con .non)])]) (.p2 .eq (.call 55 [(.make 1 21 true [(.call 73 [(.var 0)])])]) (.con (.int 1)))))]
def D77 : FD := ⟨0, 2, 4, B77, .pl, false⟩ -- _law_ahead_right
theorem s77 {W : WP} {T : Tab} {mnm : Nat → Str} {k : Nat} (nm : Nms W mnm fnms mnms) : SndSs ⟨N77, defScope (top 79), none, G, D77.lam⟩ W T mnm k (defBody (top 79)) B77 := (vSs _ (vS nm 60 _) (defBody (top 79)) B77).get (by kernel_rfl)
theorem f77 : FnScope N77 (N77.take 2) (defScope (top 79)) := C8.fnScope_by (by kernel_rfl)
def N78 : List Str := [("_law_script" : PySem.Str), ("_law_k" : PySem.Str), ("_law_source" : PySem.Str), ("_law_turn" : PySem.Str), ("_law_x" : PySem.Str), ("_law_y" : PySem.Str), ("_law_z" : PySem.Str)]
def B78 : List IS := [(.for (.nm 1) 1 [(.pb .max false [(.con (.int 1)),(.pb .min false [(.con (.int 3)),(.pb .len false [(.var 0)])])])] [(.asg (.nm 2) (.call 70 [(.var 0),(.var 1)])), (.for (.nm 3) 1 [(.con (.int 3))] [(.asg (.tup [(.nm 4),(.nm 5),(.nm 6)]) (.slice (.call 72 [(.var 2),(.disp .lst [false,false,false,false,false] [(.con (.str [120])),(.con (.str [97])),(.con (.str [97,97])),(.con (.str [97,98,99,100,101,102,103,104])),(.con (.str [117,115,101]))])]) none (some (.con (.int 3))) false)), (.ite (.or (.not (.call 74 [(.var 4),(.var 5)])) (.not (.call 75 [(.var 4),(.var 5),(.var 6)]))) [(.ret (.con (.bl false)))] []), (.ite (.or (.not (.call 76 [(.var 4),(.var 5)])) (.not (.call 77 [(.var 4),(.var 5)]))) [(.ret (.con (.bl false)))] [])])]), (.ret (.con (.bl true)))]
def D78 : FD := ⟨0, 1, 7, B78, .pl, false⟩ -- law
theorem s78 {W : WP} {T : Tab} {mnm : Nat → Str} {k : Nat} (nm : Nms W mnm fnms mnms) : SndSs ⟨N78, defScope (top 80), none, G, D78.lam⟩ W T mnm k (defBody (top 80)) B78 := (vSs _ (vS nm 60 _) (defBody (top 80)) B78).get (by kernel_rfl)
theorem f78 : FnScope N78 (N78.take 1) (defScope (top 80)) := C8.fnScope_by (by kernel_rfl)
def N69 : List Str := [("term" : PySem.Str), ("pool" : PySem.Str), ("number" : PySem.Str)]
def D69 : GD := ⟨2, 3, [(.drop (.call 63 [(.var 0),(.var 1)]))], (.nm 2), 1, [(.call 65 [(.call 64 [(.var 0),(.var 1)])])], (.call 68 [(.var 0),(.var 1),(.var 2)])⟩ -- all_namings
theorem s69 {W : WP} {T : Tab} {mnm : Nat → Str} {k : Nat} (nm : Nms W mnm fnms mnms) : SndGn ⟨N69, defScope (top 70), none, G, false⟩ W T mnm k (defBody (top 70)) D69 D69.pre := (vGn nm 60 _ D69 (defBody (top 70)) D69.pre).get (by kernel_rfl)
theorem f69 : GScope N69 (N69.take 2) (defScope (top 70)) := gScope_by (by kernel_rfl)
def fdL : List (Option FD) := [none, none, none, none, none, none, some D6, some D7, some D8, some D9, some D10, some D11] ++ [some D12, some D13, some D14, some D15, some D16, some D17, some D18, some D19, some D20, some D21, some D22, some D23] ++ [none, some D25, some D26, none, some D28, some D29, some D30, none, some D32, none, none, none] ++ [some D36, some D37, some D38, some D39, some D40, some D41, some D42, some D43, some D44, some D45, some D46, some D47] ++ [some D48, some D49, some D50, some D51, some D52, some D53, some D54, some D55, some D56, some D57, some D58, some D59] ++ [some D60, some D61, some D62, some D63, some D64, some D65, some D66, some D67, some D68, none, some D70, some D71] ++ [some D72, some D73, some D74, some D75, some D76, some D77, some D78]
def gdL : List (Nat × GD) := [(69, D69)]
def mtL : List ((Nat × Nat) × Nat) := [((0, 1), 20), ((1, 2), 22), ((1, 3), 23), ((1, 5), 25), ((1, 6), 26), ((1, 8), 28), ((1, 9), 29), ((1, 10), 30), ((1, 12), 32)]
def flL : List (Nat × Nat) := [(0, 6), (0, 7), (0, 5), (0, 8), (1, 7), (1, 11), (1, 14), (1, 12), (1, 10), (1, 9), (1, 13), (1, 8)]
def prog : Prog where
  fs := fun f => match fdL[f]? with
    | some (some d) => some d
    | _ => none
  mt := fun c m => mtL.lookup (c, m)
  ck := fun c => decide (c < 2)
  fl := fun c f => flL.contains (c, f)
  ic := fun c => decide (c = 1)
  nv := fun _ => none
  gs := fun f => gdL.lookup f
def lawIx : Nat := 78
end LP
set_option Elab.async false
set_option linter.all false
set_option maxRecDepth 100000
set_option maxHeartbeats 0
namespace LP
open PySem PySem.Spec PyProof.Rows L2 LN
def clsN : List Str := [("Flat" : PySem.Str), ("Term" : PySem.Str)]
def ats : List He.Defn := [(("NoTerm" : PySem.Str), some ("__init__" : PySem.Str)), (("NoNode" : PySem.Str), some ("__init__" : PySem.Str)), (("NoBinder" : PySem.Str), some ("__init__" : PySem.Str)), (("NoNames" : PySem.Str), some ("__init__" : PySem.Str)), (("NoPool" : PySem.Str), some ("__init__" : PySem.Str)), (("TooMany" : PySem.Str), some ("__init__" : PySem.Str)), (("is_whole" : PySem.Str), none), (("is_number" : PySem.Str), none), (("is_name" : PySem.Str), none), (("is_line" : PySem.Str), none), (("are_unlike" : PySem.Str), none), (("each_once" : PySem.Str), none)] ++ [(("ordered" : PySem.Str), none), (("name_at" : PySem.Str), none), (("first_names" : PySem.Str), none), (("is_tree" : PySem.Str), none), (("are_trees" : PySem.Str), none), (("parts_of" : PySem.Str), none), (("deep_of" : PySem.Str), none), (("Flat" : PySem.Str), some ("__init__" : PySem.Str)), (("Flat" : PySem.Str), some ("add" : PySem.Str)), (("Term" : PySem.Str), some ("__init__" : PySem.Str)), (("Term" : PySem.Str), some ("meant" : PySem.Str)), (("Term" : PySem.Str), some ("tree" : PySem.Str))] ++ [(("Term" : PySem.Str), some ("listed" : PySem.Str)), (("Term" : PySem.Str), some ("binders" : PySem.Str)), (("Term" : PySem.Str), some ("uses" : PySem.Str)), (("Term" : PySem.Str), some ("depth" : PySem.Str)), (("Term" : PySem.Str), some ("__len__" : PySem.Str)), (("Term" : PySem.Str), some ("__getitem__" : PySem.Str)), (("Term" : PySem.Str), some ("__contains__" : PySem.Str)), (("Term" : PySem.Str), some ("__iter__" : PySem.Str)), (("Term" : PySem.Str), some ("__eq__" : PySem.Str)), (("Term" : PySem.Str), some ("of_use" : PySem.Str)), (("Term" : PySem.Str), some ("of_join" : PySem.Str)), (("Term" : PySem.Str), some ("of_bind" : PySem.Str))] ++ [(("look_at_term" : PySem.Str), none), (("look_at_binder" : PySem.Str), none), (("are_such_names" : PySem.Str), none), (("look_at_names" : PySem.Str), none), (("name_for" : PySem.Str), none), (("inner" : PySem.Str), none), (("catches_of" : PySem.Str), none), (("is_right" : PySem.Str), none), (("catches" : PySem.Str), none), (("all_live" : PySem.Str), none), (("in_line" : PySem.Str), none), (("live_at" : PySem.Str), none)] ++ [(("pairs_of" : PySem.Str), none), (("clashes" : PySem.Str), none), (("free_of" : PySem.Str), none), (("free_names" : PySem.Str), none), (("meaning" : PySem.Str), none), (("binders_in" : PySem.Str), none), (("width_of" : PySem.Str), none), (("width" : PySem.Str), none), (("fewest" : PySem.Str), none), (("pool_for" : PySem.Str), none), (("told_for" : PySem.Str), none), (("told_naming" : PySem.Str), none)] ++ [(("names_used" : PySem.Str), none), (("accepts_fewest" : PySem.Str), none), (("is_pool" : PySem.Str), none), (("look_at_pool" : PySem.Str), none), (("choices_for" : PySem.Str), none), (("product" : PySem.Str), none), (("how_many" : PySem.Str), none), (("let_at" : PySem.Str), none), (("naming_by" : PySem.Str), none), (("all_namings" : PySem.Str), none), (("_law_pool" : PySem.Str), none), (("_law_take" : PySem.Str), none)] ++ [(("_law_turned" : PySem.Str), none), (("_law_use" : PySem.Str), none), (("_law_two_right" : PySem.Str), none), (("_law_three_right" : PySem.Str), none), (("_law_free_right" : PySem.Str), none), (("_law_ahead_right" : PySem.Str), none), (("law" : PySem.Str), none)]
def adK (K : PySem.W.Frag) (f : Nat) : Addr := He.fAd K (ats.getD f ("", none))
def tabs (K : PySem.W.Frag) : List (Addr × Str) := [((He.cT K (("ordered" : PySem.Str), none)).2, ((("ordered" : PySem.Str) : PySem.Str) ++ ".<locals>.") ++ "<lambda>")]
def Wk (K : PySem.W.Frag) : WP := ⟨K, fun c => He.ga K (clsN.getD c ""), nmF fnms 0, tabs K⟩
theorem nmsOk (K : PySem.W.Frag) : Nms (Wk K) (nmF mnms 1) fnms mnms := ⟨fun i x h => nmF_get h, fun i x h => nmF_get h⟩
section
variable {K : PySem.W.Frag} (c : He.SaysD fa fn K) (P : Program) (w : World) (mg : Str → Option Value) (base : Heap)
include c
theorem i6 : DefI (Wk K) ⟨P, w, K, mg, base⟩ G (nmF mnms 1) D6 (adK K 6) := by
  obtain ⟨fd, F⟩ := c.def_ 0 (d := d6) rfl
  exact ⟨_, _, _, _, _, _, _, fd, N6, N6.take 1, F, f6, F.bindsN (fun _ _ _ _ _ _ us hl => match us, hl with | [_], _ => rfl), rfl, rfl, fun T k => s6 (nmsOk K)⟩
theorem i7 : DefI (Wk K) ⟨P, w, K, mg, base⟩ G (nmF mnms 1) D7 (adK K 7) := by
  obtain ⟨fd, F⟩ := c.def_ 1 (d := d7) rfl
  exact ⟨_, _, _, _, _, _, _, fd, N7, N7.take 3, F, f7, F.bindsN (fun _ _ _ _ _ _ us hl => match us, hl with | [_, _, _], _ => rfl), rfl, rfl, fun T k => s7 (nmsOk K)⟩
theorem i8 : DefI (Wk K) ⟨P, w, K, mg, base⟩ G (nmF mnms 1) D8 (adK K 8) := by
  obtain ⟨fd, F⟩ := c.def_ 2 (d := d8) rfl
  exact ⟨_, _, _, _, _, _, _, fd, N8, N8.take 1, F, f8, F.bindsN (fun _ _ _ _ _ _ us hl => match us, hl with | [_], _ => rfl), rfl, rfl, fun T k => s8 (nmsOk K)⟩
theorem i9 : DefI (Wk K) ⟨P, w, K, mg, base⟩ G (nmF mnms 1) D9 (adK K 9) := by
  obtain ⟨fd, F⟩ := c.def_ 3 (d := d9) rfl
  exact ⟨_, _, _, _, _, _, _, fd, N9, N9.take 1, F, f9, F.bindsN (fun _ _ _ _ _ _ us hl => match us, hl with | [_], _ => rfl), rfl, rfl, fun T k => s9 (nmsOk K)⟩
theorem i10 : DefI (Wk K) ⟨P, w, K, mg, base⟩ G (nmF mnms 1) D10 (adK K 10) := by
  obtain ⟨fd, F⟩ := c.def_ 4 (d := d10) rfl
  exact ⟨_, _, _, _, _, _, _, fd, N10, N10.take 1, F, f10, F.bindsN (fun _ _ _ _ _ _ us hl => match us, hl with | [_], _ => rfl), rfl, rfl, fun T k => s10 (nmsOk K)⟩
theorem i11 : DefI (Wk K) ⟨P, w, K, mg, base⟩ G (nmF mnms 1) D11 (adK K 11) := by
  obtain ⟨fd, F⟩ := c.def_ 5 (d := d11) rfl
  exact ⟨_, _, _, _, _, _, _, fd, N11, N11.take 1, F, f11, F.bindsN (fun _ _ _ _ _ _ us hl => match us, hl with | [_], _ => rfl), rfl, rfl, fun T k => s11 (nmsOk K)⟩
theorem i12 : DefI (Wk K) ⟨P, w, K, mg, base⟩ G (nmF mnms 1) D12 (adK K 12) := by
  obtain ⟨fd, F⟩ := c.def_ 6 (d := d12) rfl
  exact ⟨_, _, _, _, _, _, _, fd, N12, N12.take 1, F, f12, F.bindsN (fun _ _ _ _ _ _ us hl => match us, hl with | [_], _ => rfl), rfl, rfl, fun T k => s12 (nmsOk K)⟩
theorem i13 : DefI (Wk K) ⟨P, w, K, mg, base⟩ G (nmF mnms 1) D13 (adK K 13) := by
  obtain ⟨fd, F⟩ := c.def_ 7 (d := d13) rfl
  exact ⟨_, _, _, _, _, _, _, fd, N13, N13.take 1, F, f13, F.bindsN (fun _ _ _ _ _ _ us hl => match us, hl with | [_], _ => rfl), rfl, rfl, fun T k => s13 (nmsOk K)⟩
theorem i14 : DefI (Wk K) ⟨P, w, K, mg, base⟩ G (nmF mnms 1) D14 (adK K 14) := by
  obtain ⟨fd, F⟩ := c.def_ 8 (d := d14) rfl
  exact ⟨_, _, _, _, _, _, _, fd, N14, N14.take 2, F, f14, F.bindsN (fun _ _ _ _ _ _ us hl => match us, hl with | [_, _], _ => rfl), rfl, rfl, fun T k => s14 (nmsOk K)⟩
theorem i15 : DefI (Wk K) ⟨P, w, K, mg, base⟩ G (nmF mnms 1) D15 (adK K 15) := by
  obtain ⟨fd, F⟩ := c.def_ 9 (d := d15) rfl
  exact ⟨_, _, _, _, _, _, _, fd, N15, N15.take 1, F, f15, F.bindsN (fun _ _ _ _ _ _ us hl => match us, hl with | [_], _ => rfl), rfl, rfl, fun T k => s15 (nmsOk K)⟩
theorem i16 : DefI (Wk K) ⟨P, w, K, mg, base⟩ G (nmF mnms 1) D16 (adK K 16) := by
  obtain ⟨fd, F⟩ := c.def_ 10 (d := d16) rfl
  exact ⟨_, _, _, _, _, _, _, fd, N16, N16.take 1, F, f16, F.bindsN (fun _ _ _ _ _ _ us hl => match us, hl with | [_], _ => rfl), rfl, rfl, fun T k => s16 (nmsOk K)⟩
theorem i17 : DefI (Wk K) ⟨P, w, K, mg, base⟩ G (nmF mnms 1) D17 (adK K 17) := by
  obtain ⟨fd, F⟩ := c.def_ 11 (d := d17) rfl
  exact ⟨_, _, _, _, _, _, _, fd, N17, N17.take 1, F, f17, F.bindsN (fun _ _ _ _ _ _ us hl => match us, hl with | [_], _ => rfl), rfl, rfl, fun T k => s17 (nmsOk K)⟩
theorem i18 : DefI (Wk K) ⟨P, w, K, mg, base⟩ G (nmF mnms 1) D18 (adK K 18) := by
  obtain ⟨fd, F⟩ := c.def_ 12 (d := d18) rfl
  exact ⟨_, _, _, _, _, _, _, fd, N18, N18.take 1, F, f18, F.bindsN (fun _ _ _ _ _ _ us hl => match us, hl with | [_], _ => rfl), rfl, rfl, fun T k => s18 (nmsOk K)⟩
theorem i19 : DefI (Wk K) ⟨P, w, K, mg, base⟩ G (nmF mnms 1) D19 (adK K 19) := by
  obtain ⟨fd, F⟩ := c.def_ 13 (d := d19) rfl
  exact ⟨_, _, _, _, _, _, _, fd, N19, N19.take 2, F, f19, F.bindsN (fun _ _ _ _ _ _ us hl => match us, hl with | [_, _], _ => rfl), rfl, rfl, fun T k => s19 (nmsOk K)⟩
theorem i20 : DefI (Wk K) ⟨P, w, K, mg, base⟩ G (nmF mnms 1) D20 (adK K 20) := by
  obtain ⟨fd, F⟩ := c.def_ 14 (d := d20) rfl
  exact ⟨_, _, _, _, _, _, _, fd, N20, N20.take 3, F, f20, F.bindsN (fun _ _ _ _ _ _ us hl => match us, hl with | [_, _, _], _ => rfl), rfl, rfl, fun T k => s20 (nmsOk K)⟩
theorem i21 : DefI (Wk K) ⟨P, w, K, mg, base⟩ G (nmF mnms 1) D21 (adK K 21) := by
  obtain ⟨fd, F⟩ := c.def_ 15 (d := d21) rfl
  exact ⟨_, _, _, _, _, _, _, fd, N21, N21.take 2, F, f21, F.bindsN (fun _ _ _ _ _ _ us hl => match us, hl with | [_, _], _ => rfl), rfl, rfl, fun T k => s21 (nmsOk K)⟩
theorem i22 : DefI (Wk K) ⟨P, w, K, mg, base⟩ G (nmF mnms 1) D22 (adK K 22) := by
  obtain ⟨fd, F⟩ := c.def_ 16 (d := d22) rfl
  exact ⟨_, _, _, _, _, _, _, fd, N22, N22.take 2, F, f22, F.bindsN (fun _ _ _ _ _ _ us hl => match us, hl with | [_, _], _ => rfl), rfl, rfl, fun T k => s22 (nmsOk K)⟩
theorem i23 : DefI (Wk K) ⟨P, w, K, mg, base⟩ G (nmF mnms 1) D23 (adK K 23) := by
  obtain ⟨fd, F⟩ := c.def_ 17 (d := d23) rfl
  exact ⟨_, _, _, _, _, _, _, fd, N23, N23.take 1, F, f23, F.bindsN (fun _ _ _ _ _ _ us hl => match us, hl with | [_], _ => rfl), rfl, rfl, fun T k => s23 (nmsOk K)⟩
theorem i25 : DefI (Wk K) ⟨P, w, K, mg, base⟩ G (nmF mnms 1) D25 (adK K 25) := by
  obtain ⟨fd, F⟩ := c.def_ 18 (d := d25) rfl
  exact ⟨_, _, _, _, _, _, _, fd, N25, N25.take 1, F, f25, F.bindsN (fun _ _ _ _ _ _ us hl => match us, hl with | [_], _ => rfl), rfl, rfl, fun T k => s25 (nmsOk K)⟩
theorem i26 : DefI (Wk K) ⟨P, w, K, mg, base⟩ G (nmF mnms 1) D26 (adK K 26) := by
  obtain ⟨fd, F⟩ := c.def_ 19 (d := d26) rfl
  exact ⟨_, _, _, _, _, _, _, fd, N26, N26.take 1, F, f26, F.bindsN (fun _ _ _ _ _ _ us hl => match us, hl with | [_], _ => rfl), rfl, rfl, fun T k => s26 (nmsOk K)⟩
theorem i28 : DefI (Wk K) ⟨P, w, K, mg, base⟩ G (nmF mnms 1) D28 (adK K 28) := by
  obtain ⟨fd, F⟩ := c.def_ 20 (d := d28) rfl
  exact ⟨_, _, _, _, _, _, _, fd, N28, N28.take 1, F, f28, F.bindsN (fun _ _ _ _ _ _ us hl => match us, hl with | [_], _ => rfl), rfl, rfl, fun T k => s28 (nmsOk K)⟩
theorem i29 : DefI (Wk K) ⟨P, w, K, mg, base⟩ G (nmF mnms 1) D29 (adK K 29) := by
  obtain ⟨fd, F⟩ := c.def_ 21 (d := d29) rfl
  exact ⟨_, _, _, _, _, _, _, fd, N29, N29.take 2, F, f29, F.bindsN (fun _ _ _ _ _ _ us hl => match us, hl with | [_, _], _ => rfl), rfl, rfl, fun T k => s29 (nmsOk K)⟩
theorem i30 : DefI (Wk K) ⟨P, w, K, mg, base⟩ G (nmF mnms 1) D30 (adK K 30) := by
  obtain ⟨fd, F⟩ := c.def_ 22 (d := d30) rfl
  exact ⟨_, _, _, _, _, _, _, fd, N30, N30.take 2, F, f30, F.bindsN (fun _ _ _ _ _ _ us hl => match us, hl with | [_, _], _ => rfl), rfl, rfl, fun T k => s30 (nmsOk K)⟩
theorem i32 : DefI (Wk K) ⟨P, w, K, mg, base⟩ G (nmF mnms 1) D32 (adK K 32) := by
  obtain ⟨fd, F⟩ := c.def_ 23 (d := d32) rfl
  exact ⟨_, _, _, _, _, _, _, fd, N32, N32.take 2, F, f32, F.bindsN (fun _ _ _ _ _ _ us hl => match us, hl with | [_, _], _ => rfl), rfl, rfl, fun T k => s32 (nmsOk K)⟩
theorem i36 : DefI (Wk K) ⟨P, w, K, mg, base⟩ G (nmF mnms 1) D36 (adK K 36) := by
  obtain ⟨fd, F⟩ := c.def_ 24 (d := d36) rfl
  exact ⟨_, _, _, _, _, _, _, fd, N36, N36.take 1, F, f36, F.bindsN (fun _ _ _ _ _ _ us hl => match us, hl with | [_], _ => rfl), rfl, rfl, fun T k => s36 (nmsOk K)⟩
theorem i37 : DefI (Wk K) ⟨P, w, K, mg, base⟩ G (nmF mnms 1) D37 (adK K 37) := by
  obtain ⟨fd, F⟩ := c.def_ 25 (d := d37) rfl
  exact ⟨_, _, _, _, _, _, _, fd, N37, N37.take 2, F, f37, F.bindsN (fun _ _ _ _ _ _ us hl => match us, hl with | [_, _], _ => rfl), rfl, rfl, fun T k => s37 (nmsOk K)⟩
theorem i38 : DefI (Wk K) ⟨P, w, K, mg, base⟩ G (nmF mnms 1) D38 (adK K 38) := by
  obtain ⟨fd, F⟩ := c.def_ 26 (d := d38) rfl
  exact ⟨_, _, _, _, _, _, _, fd, N38, N38.take 2, F, f38, F.bindsN (fun _ _ _ _ _ _ us hl => match us, hl with | [_, _], _ => rfl), rfl, rfl, fun T k => s38 (nmsOk K)⟩
theorem i39 : DefI (Wk K) ⟨P, w, K, mg, base⟩ G (nmF mnms 1) D39 (adK K 39) := by
  obtain ⟨fd, F⟩ := c.def_ 27 (d := d39) rfl
  exact ⟨_, _, _, _, _, _, _, fd, N39, N39.take 2, F, f39, F.bindsN (fun _ _ _ _ _ _ us hl => match us, hl with | [_, _], _ => rfl), rfl, rfl, fun T k => s39 (nmsOk K)⟩
theorem i40 : DefI (Wk K) ⟨P, w, K, mg, base⟩ G (nmF mnms 1) D40 (adK K 40) := by
  obtain ⟨fd, F⟩ := c.def_ 28 (d := d40) rfl
  exact ⟨_, _, _, _, _, _, _, fd, N40, N40.take 2, F, f40, F.bindsN (fun _ _ _ _ _ _ us hl => match us, hl with | [_, _], _ => rfl), rfl, rfl, fun T k => s40 (nmsOk K)⟩
theorem i41 : DefI (Wk K) ⟨P, w, K, mg, base⟩ G (nmF mnms 1) D41 (adK K 41) := by
  obtain ⟨fd, F⟩ := c.def_ 29 (d := d41) rfl
  exact ⟨_, _, _, _, _, _, _, fd, N41, N41.take 2, F, f41, F.bindsN (fun _ _ _ _ _ _ us hl => match us, hl with | [_, _], _ => rfl), rfl, rfl, fun T k => s41 (nmsOk K)⟩
theorem i42 : DefI (Wk K) ⟨P, w, K, mg, base⟩ G (nmF mnms 1) D42 (adK K 42) := by
  obtain ⟨fd, F⟩ := c.def_ 30 (d := d42) rfl
  exact ⟨_, _, _, _, _, _, _, fd, N42, N42.take 2, F, f42, F.bindsN (fun _ _ _ _ _ _ us hl => match us, hl with | [_, _], _ => rfl), rfl, rfl, fun T k => s42 (nmsOk K)⟩
theorem i43 : DefI (Wk K) ⟨P, w, K, mg, base⟩ G (nmF mnms 1) D43 (adK K 43) := by
  obtain ⟨fd, F⟩ := c.def_ 31 (d := d43) rfl
  exact ⟨_, _, _, _, _, _, _, fd, N43, N43.take 2, F, f43, F.bindsN (fun _ _ _ _ _ _ us hl => match us, hl with | [_, _], _ => rfl), rfl, rfl, fun T k => s43 (nmsOk K)⟩
theorem i44 : DefI (Wk K) ⟨P, w, K, mg, base⟩ G (nmF mnms 1) D44 (adK K 44) := by
  obtain ⟨fd, F⟩ := c.def_ 32 (d := d44) rfl
  exact ⟨_, _, _, _, _, _, _, fd, N44, N44.take 2, F, f44, F.bindsN (fun _ _ _ _ _ _ us hl => match us, hl with | [_, _], _ => rfl), rfl, rfl, fun T k => s44 (nmsOk K)⟩
theorem i45 : DefI (Wk K) ⟨P, w, K, mg, base⟩ G (nmF mnms 1) D45 (adK K 45) := by
  obtain ⟨fd, F⟩ := c.def_ 33 (d := d45) rfl
  exact ⟨_, _, _, _, _, _, _, fd, N45, N45.take 1, F, f45, F.bindsN (fun _ _ _ _ _ _ us hl => match us, hl with | [_], _ => rfl), rfl, rfl, fun T k => s45 (nmsOk K)⟩
theorem i46 : DefI (Wk K) ⟨P, w, K, mg, base⟩ G (nmF mnms 1) D46 (adK K 46) := by
  obtain ⟨fd, F⟩ := c.def_ 34 (d := d46) rfl
  exact ⟨_, _, _, _, _, _, _, fd, N46, N46.take 1, F, f46, F.bindsN (fun _ _ _ _ _ _ us hl => match us, hl with | [_], _ => rfl), rfl, rfl, fun T k => s46 (nmsOk K)⟩
theorem i47 : DefI (Wk K) ⟨P, w, K, mg, base⟩ G (nmF mnms 1) D47 (adK K 47) := by
  obtain ⟨fd, F⟩ := c.def_ 35 (d := d47) rfl
  exact ⟨_, _, _, _, _, _, _, fd, N47, N47.take 2, F, f47, F.bindsN (fun _ _ _ _ _ _ us hl => match us, hl with | [_, _], _ => rfl), rfl, rfl, fun T k => s47 (nmsOk K)⟩
theorem i48 : DefI (Wk K) ⟨P, w, K, mg, base⟩ G (nmF mnms 1) D48 (adK K 48) := by
  obtain ⟨fd, F⟩ := c.def_ 36 (d := d48) rfl
  exact ⟨_, _, _, _, _, _, _, fd, N48, N48.take 1, F, f48, F.bindsN (fun _ _ _ _ _ _ us hl => match us, hl with | [_], _ => rfl), rfl, rfl, fun T k => s48 (nmsOk K)⟩
theorem i49 : DefI (Wk K) ⟨P, w, K, mg, base⟩ G (nmF mnms 1) D49 (adK K 49) := by
  obtain ⟨fd, F⟩ := c.def_ 37 (d := d49) rfl
  exact ⟨_, _, _, _, _, _, _, fd, N49, N49.take 1, F, f49, F.bindsN (fun _ _ _ _ _ _ us hl => match us, hl with | [_], _ => rfl), rfl, rfl, fun T k => s49 (nmsOk K)⟩
theorem i50 : DefI (Wk K) ⟨P, w, K, mg, base⟩ G (nmF mnms 1) D50 (adK K 50) := by
  obtain ⟨fd, F⟩ := c.def_ 38 (d := d50) rfl
  exact ⟨_, _, _, _, _, _, _, fd, N50, N50.take 1, F, f50, F.bindsN (fun _ _ _ _ _ _ us hl => match us, hl with | [_], _ => rfl), rfl, rfl, fun T k => s50 (nmsOk K)⟩
theorem i51 : DefI (Wk K) ⟨P, w, K, mg, base⟩ G (nmF mnms 1) D51 (adK K 51) := by
  obtain ⟨fd, F⟩ := c.def_ 39 (d := d51) rfl
  exact ⟨_, _, _, _, _, _, _, fd, N51, N51.take 1, F, f51, F.bindsN (fun _ _ _ _ _ _ us hl => match us, hl with | [_], _ => rfl), rfl, rfl, fun T k => s51 (nmsOk K)⟩
theorem i52 : DefI (Wk K) ⟨P, w, K, mg, base⟩ G (nmF mnms 1) D52 (adK K 52) := by
  obtain ⟨fd, F⟩ := c.def_ 40 (d := d52) rfl
  exact ⟨_, _, _, _, _, _, _, fd, N52, N52.take 1, F, f52, F.bindsN (fun _ _ _ _ _ _ us hl => match us, hl with | [_], _ => rfl), rfl, rfl, fun T k => s52 (nmsOk K)⟩
theorem i53 : DefI (Wk K) ⟨P, w, K, mg, base⟩ G (nmF mnms 1) D53 (adK K 53) := by
  obtain ⟨fd, F⟩ := c.def_ 41 (d := d53) rfl
  exact ⟨_, _, _, _, _, _, _, fd, N53, N53.take 1, F, f53, F.bindsN (fun _ _ _ _ _ _ us hl => match us, hl with | [_], _ => rfl), rfl, rfl, fun T k => s53 (nmsOk K)⟩
theorem i54 : DefI (Wk K) ⟨P, w, K, mg, base⟩ G (nmF mnms 1) D54 (adK K 54) := by
  obtain ⟨fd, F⟩ := c.def_ 42 (d := d54) rfl
  exact ⟨_, _, _, _, _, _, _, fd, N54, N54.take 1, F, f54, F.bindsN (fun _ _ _ _ _ _ us hl => match us, hl with | [_], _ => rfl), rfl, rfl, fun T k => s54 (nmsOk K)⟩
theorem i55 : DefI (Wk K) ⟨P, w, K, mg, base⟩ G (nmF mnms 1) D55 (adK K 55) := by
  obtain ⟨fd, F⟩ := c.def_ 43 (d := d55) rfl
  exact ⟨_, _, _, _, _, _, _, fd, N55, N55.take 1, F, f55, F.bindsN (fun _ _ _ _ _ _ us hl => match us, hl with | [_], _ => rfl), rfl, rfl, fun T k => s55 (nmsOk K)⟩
theorem i56 : DefI (Wk K) ⟨P, w, K, mg, base⟩ G (nmF mnms 1) D56 (adK K 56) := by
  obtain ⟨fd, F⟩ := c.def_ 44 (d := d56) rfl
  obtain ⟨ds, hv, hb⟩ := FunD.binds0 (ps := N56.take 2) F 1 (by intro h; cases h) rfl (fun D doc pm an cdv ct us ks h1 h2 => match us, h1, ks, h2 with | [_], _, [_], _ => ⟨_, _, _, _, _, _, rfl, rfl, rfl⟩)
  obtain ⟨mv, hk⟩ := FunD.kbinds0 (ps := N56.take 2) F 1 [("apart" : PySem.Str)] [] (fun us mv ws => us ++ ws) (by intro h; cases h) (by intro q h; cases h) (fun h1 h2 h3 => h1.append h3) (fun D doc pm an cdv ct us mv ws h1 h2 h3 => match us, h1, mv, h2, ws, h3 with | [_], _, [], _, [_], _ => rfl)
  exact ⟨_, _, _, _, _, _, _, fd, N56, N56.take 2, F, f56, ⟨by decide, ⟨ds, _, hb, hv, fun B μ => .cons (.bl false) .nil⟩, _, hk⟩, rfl, rfl, fun T k => s56 (nmsOk K)⟩
theorem i57 : DefI (Wk K) ⟨P, w, K, mg, base⟩ G (nmF mnms 1) D57 (adK K 57) := by
  obtain ⟨fd, F⟩ := c.def_ 45 (d := d57) rfl
  exact ⟨_, _, _, _, _, _, _, fd, N57, N57.take 2, F, f57, F.bindsN (fun _ _ _ _ _ _ us hl => match us, hl with | [_, _], _ => rfl), rfl, rfl, fun T k => s57 (nmsOk K)⟩
theorem i58 : DefI (Wk K) ⟨P, w, K, mg, base⟩ G (nmF mnms 1) D58 (adK K 58) := by
  obtain ⟨fd, F⟩ := c.def_ 46 (d := d58) rfl
  exact ⟨_, _, _, _, _, _, _, fd, N58, N58.take 2, F, f58, F.bindsN (fun _ _ _ _ _ _ us hl => match us, hl with | [_, _], _ => rfl), rfl, rfl, fun T k => s58 (nmsOk K)⟩
theorem i59 : DefI (Wk K) ⟨P, w, K, mg, base⟩ G (nmF mnms 1) D59 (adK K 59) := by
  obtain ⟨fd, F⟩ := c.def_ 47 (d := d59) rfl
  obtain ⟨ds, hv, hb⟩ := FunD.binds0 (ps := N59.take 2) F 1 (by intro h; cases h) rfl (fun D doc pm an cdv ct us ks h1 h2 => match us, h1, ks, h2 with | [_], _, [_], _ => ⟨_, _, _, _, _, _, rfl, rfl, rfl⟩)
  obtain ⟨mv, hk⟩ := FunD.kbinds0 (ps := N59.take 2) F 1 [("apart" : PySem.Str)] [] (fun us mv ws => us ++ ws) (by intro h; cases h) (by intro q h; cases h) (fun h1 h2 h3 => h1.append h3) (fun D doc pm an cdv ct us mv ws h1 h2 h3 => match us, h1, mv, h2, ws, h3 with | [_], _, [], _, [_], _ => rfl)
  exact ⟨_, _, _, _, _, _, _, fd, N59, N59.take 2, F, f59, ⟨by decide, ⟨ds, _, hb, hv, fun B μ => .cons (.bl false) .nil⟩, _, hk⟩, rfl, rfl, fun T k => s59 (nmsOk K)⟩
theorem i60 : DefI (Wk K) ⟨P, w, K, mg, base⟩ G (nmF mnms 1) D60 (adK K 60) := by
  obtain ⟨fd, F⟩ := c.def_ 48 (d := d60) rfl
  exact ⟨_, _, _, _, _, _, _, fd, N60, N60.take 2, F, f60, F.bindsN (fun _ _ _ _ _ _ us hl => match us, hl with | [_, _], _ => rfl), rfl, rfl, fun T k => s60 (nmsOk K)⟩
theorem i61 : DefI (Wk K) ⟨P, w, K, mg, base⟩ G (nmF mnms 1) D61 (adK K 61) := by
  obtain ⟨fd, F⟩ := c.def_ 49 (d := d61) rfl
  exact ⟨_, _, _, _, _, _, _, fd, N61, N61.take 2, F, f61, F.bindsN (fun _ _ _ _ _ _ us hl => match us, hl with | [_, _], _ => rfl), rfl, rfl, fun T k => s61 (nmsOk K)⟩
theorem i62 : DefI (Wk K) ⟨P, w, K, mg, base⟩ G (nmF mnms 1) D62 (adK K 62) := by
  obtain ⟨fd, F⟩ := c.def_ 50 (d := d62) rfl
  exact ⟨_, _, _, _, _, _, _, fd, N62, N62.take 1, F, f62, F.bindsN (fun _ _ _ _ _ _ us hl => match us, hl with | [_], _ => rfl), rfl, rfl, fun T k => s62 (nmsOk K)⟩
theorem i63 : DefI (Wk K) ⟨P, w, K, mg, base⟩ G (nmF mnms 1) D63 (adK K 63) := by
  obtain ⟨fd, F⟩ := c.def_ 51 (d := d63) rfl
  exact ⟨_, _, _, _, _, _, _, fd, N63, N63.take 2, F, f63, F.bindsN (fun _ _ _ _ _ _ us hl => match us, hl with | [_, _], _ => rfl), rfl, rfl, fun T k => s63 (nmsOk K)⟩
theorem i64 : DefI (Wk K) ⟨P, w, K, mg, base⟩ G (nmF mnms 1) D64 (adK K 64) := by
  obtain ⟨fd, F⟩ := c.def_ 52 (d := d64) rfl
  exact ⟨_, _, _, _, _, _, _, fd, N64, N64.take 2, F, f64, F.bindsN (fun _ _ _ _ _ _ us hl => match us, hl with | [_, _], _ => rfl), rfl, rfl, fun T k => s64 (nmsOk K)⟩
theorem i65 : DefI (Wk K) ⟨P, w, K, mg, base⟩ G (nmF mnms 1) D65 (adK K 65) := by
  obtain ⟨fd, F⟩ := c.def_ 53 (d := d65) rfl
  exact ⟨_, _, _, _, _, _, _, fd, N65, N65.take 1, F, f65, F.bindsN (fun _ _ _ _ _ _ us hl => match us, hl with | [_], _ => rfl), rfl, rfl, fun T k => s65 (nmsOk K)⟩
theorem i66 : DefI (Wk K) ⟨P, w, K, mg, base⟩ G (nmF mnms 1) D66 (adK K 66) := by
  obtain ⟨fd, F⟩ := c.def_ 54 (d := d66) rfl
  exact ⟨_, _, _, _, _, _, _, fd, N66, N66.take 2, F, f66, F.bindsN (fun _ _ _ _ _ _ us hl => match us, hl with | [_, _], _ => rfl), rfl, rfl, fun T k => s66 (nmsOk K)⟩
theorem i67 : DefI (Wk K) ⟨P, w, K, mg, base⟩ G (nmF mnms 1) D67 (adK K 67) := by
  obtain ⟨fd, F⟩ := c.def_ 55 (d := d67) rfl
  exact ⟨_, _, _, _, _, _, _, fd, N67, N67.take 3, F, f67, F.bindsN (fun _ _ _ _ _ _ us hl => match us, hl with | [_, _, _], _ => rfl), rfl, rfl, fun T k => s67 (nmsOk K)⟩
theorem i68 : DefI (Wk K) ⟨P, w, K, mg, base⟩ G (nmF mnms 1) D68 (adK K 68) := by
  obtain ⟨fd, F⟩ := c.def_ 56 (d := d68) rfl
  exact ⟨_, _, _, _, _, _, _, fd, N68, N68.take 3, F, f68, F.bindsN (fun _ _ _ _ _ _ us hl => match us, hl with | [_, _, _], _ => rfl), rfl, rfl, fun T k => s68 (nmsOk K)⟩
theorem i70 : DefI (Wk K) ⟨P, w, K, mg, base⟩ G (nmF mnms 1) D70 (adK K 70) := by
  obtain ⟨fd, F⟩ := c.def_ 57 (d := d70) rfl
  exact ⟨_, _, _, _, _, _, _, fd, N70, N70.take 2, F, f70, F.bindsN (fun _ _ _ _ _ _ us hl => match us, hl with | [_, _], _ => rfl), rfl, rfl, fun T k => s70 (nmsOk K)⟩
theorem i71 : DefI (Wk K) ⟨P, w, K, mg, base⟩ G (nmF mnms 1) D71 (adK K 71) := by
  obtain ⟨fd, F⟩ := c.def_ 58 (d := d71) rfl
  exact ⟨_, _, _, _, _, _, _, fd, N71, N71.take 2, F, f71, F.bindsN (fun _ _ _ _ _ _ us hl => match us, hl with | [_, _], _ => rfl), rfl, rfl, fun T k => s71 (nmsOk K)⟩
theorem i72 : DefI (Wk K) ⟨P, w, K, mg, base⟩ G (nmF mnms 1) D72 (adK K 72) := by
  obtain ⟨fd, F⟩ := c.def_ 59 (d := d72) rfl
  exact ⟨_, _, _, _, _, _, _, fd, N72, N72.take 2, F, f72, F.bindsN (fun _ _ _ _ _ _ us hl => match us, hl with | [_, _], _ => rfl), rfl, rfl, fun T k => s72 (nmsOk K)⟩
theorem i73 : DefI (Wk K) ⟨P, w, K, mg, base⟩ G (nmF mnms 1) D73 (adK K 73) := by
  obtain ⟨fd, F⟩ := c.def_ 60 (d := d73) rfl
  exact ⟨_, _, _, _, _, _, _, fd, N73, N73.take 1, F, f73, F.bindsN (fun _ _ _ _ _ _ us hl => match us, hl with | [_], _ => rfl), rfl, rfl, fun T k => s73 (nmsOk K)⟩
theorem i74 : DefI (Wk K) ⟨P, w, K, mg, base⟩ G (nmF mnms 1) D74 (adK K 74) := by
  obtain ⟨fd, F⟩ := c.def_ 61 (d := d74) rfl
  exact ⟨_, _, _, _, _, _, _, fd, N74, N74.take 2, F, f74, F.bindsN (fun _ _ _ _ _ _ us hl => match us, hl with | [_, _], _ => rfl), rfl, rfl, fun T k => s74 (nmsOk K)⟩
theorem i75 : DefI (Wk K) ⟨P, w, K, mg, base⟩ G (nmF mnms 1) D75 (adK K 75) := by
  obtain ⟨fd, F⟩ := c.def_ 62 (d := d75) rfl
  exact ⟨_, _, _, _, _, _, _, fd, N75, N75.take 3, F, f75, F.bindsN (fun _ _ _ _ _ _ us hl => match us, hl with | [_, _, _], _ => rfl), rfl, rfl, fun T k => s75 (nmsOk K)⟩
theorem i76 : DefI (Wk K) ⟨P, w, K, mg, base⟩ G (nmF mnms 1) D76 (adK K 76) := by
  obtain ⟨fd, F⟩ := c.def_ 63 (d := d76) rfl
  exact ⟨_, _, _, _, _, _, _, fd, N76, N76.take 2, F, f76, F.bindsN (fun _ _ _ _ _ _ us hl => match us, hl with | [_, _], _ => rfl), rfl, rfl, fun T k => s76 (nmsOk K)⟩
theorem i77 : DefI (Wk K) ⟨P, w, K, mg, base⟩ G (nmF mnms 1) D77 (adK K 77) := by
  obtain ⟨fd, F⟩ := c.def_ 64 (d := d77) rfl
  exact ⟨_, _, _, _, _, _, _, fd, N77, N77.take 2, F, f77, F.bindsN (fun _ _ _ _ _ _ us hl => match us, hl with | [_, _], _ => rfl), rfl, rfl, fun T k => s77 (nmsOk K)⟩
theorem i78 : DefI (Wk K) ⟨P, w, K, mg, base⟩ G (nmF mnms 1) D78 (adK K 78) := by
  obtain ⟨fd, F⟩ := c.def_ 65 (d := d78) rfl
  exact ⟨_, _, _, _, _, _, _, fd, N78, N78.take 1, F, f78, F.bindsN (fun _ _ _ _ _ _ us hl => match us, hl with | [_], _ => rfl), rfl, rfl, fun T k => s78 (nmsOk K)⟩
theorem i69 : GenI (Wk K) ⟨P, w, K, mg, base⟩ G (nmF mnms 1) D69 (adK K 69) := by
  obtain ⟨fd, F⟩ := c.def_ 66 (d := d69) rfl
  exact ⟨_, _, _, _, _, _, _, fd, N69, N69.take 2, F, f69, F.bindsN (fun _ _ _ _ _ _ us hl => match us, hl with | [_, _], _ => rfl), rfl, rfl, fun T k => s69 (nmsOk K)⟩
end
end LP
set_option Elab.async false
set_option linter.all false
set_option maxRecDepth 100000
set_option maxHeartbeats 0
namespace LP
open PySem PySem.Spec PyProof.Rows L2 LN
def gQ (K : PySem.W.Frag) (mg : Str → Option Value) (x : Str) : GK → Prop
  | .fn f np => mg x = some (.ref (adK K f)) ∧ PySem.W.keepIn K (.ref (adK K f)) = true ∧ ∃ d, prog.fs f = some d ∧ d.np = np ∧ d.bk = .pl
  | .fnk f np ks dfl => mg x = some (.ref (adK K f)) ∧ PySem.W.keepIn K (.ref (adK K f)) = true ∧ ∃ d, prog.fs f = some d ∧ d.np = np ∧ d.bk = .kw ks dfl
  | .gen f np => mg x = some (.ref (adK K f)) ∧ PySem.W.keepIn K (.ref (adK K f)) = true ∧ prog.fs f = none ∧ ∃ g, prog.gs f = some g ∧ g.np = np
  | .cls cc f np => mg x = some (.ref ((Wk K).cls cc)) ∧ Mk K ((Wk K).cls cc) (adK K f) ∧ ∃ d, prog.fs f = some d ∧ d.np = np + 1 ∧ d.bk = .pl
  | .int i => ∃ t, mg x = some (.int i t)
  | .str l => ∃ t, mg x = some (.str ⟨l.toArray⟩ t)
  | .bn => mg x = none
section
variable {K : PySem.W.Frag} {h : Heap} {mg : Str → Option Value} (c : He.SaysD fa fn K) (KX : K.In h) (Gn : h.Ns mainGlobals mg)
include c
theorem kp (i : Nat) {d : He.DefD} (hd : fn[i]? = some d) : PySem.W.keepIn K (.ref (He.fAd K d.at_)) = true := by
  obtain ⟨fd, F⟩ := c.def_ i hd
  exact F.kp
include KX Gn
theorem gA0 : AllG (gQ K mg) G0 := ⟨⟨He.glo_ok KX Gn (c.fact 46 (f := .glo ("all_namings" : PySem.Str)) rfl), kp c 66 (d := d69) rfl, rfl, D69, rfl, rfl⟩,
  ⟨He.glo_ok KX Gn (c.fact 0 (f := .glo ("is_whole" : PySem.Str)) rfl), kp c 0 (d := d6) rfl, D6, rfl, rfl, rfl⟩,
  ⟨He.glo_ok KX Gn (c.fact 1 (f := .glo ("is_number" : PySem.Str)) rfl), kp c 1 (d := d7) rfl, D7, rfl, rfl, rfl⟩,
  ⟨He.glo_ok KX Gn (c.fact 2 (f := .glo ("is_name" : PySem.Str)) rfl), kp c 2 (d := d8) rfl, D8, rfl, rfl, rfl⟩,
  ⟨He.glo_ok KX Gn (c.fact 3 (f := .glo ("is_line" : PySem.Str)) rfl), kp c 3 (d := d9) rfl, D9, rfl, rfl, rfl⟩,
  ⟨He.glo_ok KX Gn (c.fact 4 (f := .glo ("are_unlike" : PySem.Str)) rfl), kp c 4 (d := d10) rfl, D10, rfl, rfl, rfl⟩,
  ⟨He.glo_ok KX Gn (c.fact 5 (f := .glo ("each_once" : PySem.Str)) rfl), kp c 5 (d := d11) rfl, D11, rfl, rfl, rfl⟩,
  ⟨He.glo_ok KX Gn (c.fact 6 (f := .glo ("ordered" : PySem.Str)) rfl), kp c 6 (d := d12) rfl, D12, rfl, rfl, rfl⟩,
  ⟨He.glo_ok KX Gn (c.fact 7 (f := .glo ("name_at" : PySem.Str)) rfl), kp c 7 (d := d13) rfl, D13, rfl, rfl, rfl⟩,
  ⟨He.glo_ok KX Gn (c.fact 8 (f := .glo ("first_names" : PySem.Str)) rfl), kp c 8 (d := d14) rfl, D14, rfl, rfl, rfl⟩,
  ⟨He.glo_ok KX Gn (c.fact 9 (f := .glo ("is_tree" : PySem.Str)) rfl), kp c 9 (d := d15) rfl, D15, rfl, rfl, rfl⟩,
  ⟨He.glo_ok KX Gn (c.fact 10 (f := .glo ("are_trees" : PySem.Str)) rfl), kp c 10 (d := d16) rfl, D16, rfl, rfl, rfl⟩, trivial⟩
theorem gA1 : AllG (gQ K mg) G1 := ⟨⟨He.glo_ok KX Gn (c.fact 11 (f := .glo ("parts_of" : PySem.Str)) rfl), kp c 11 (d := d17) rfl, D17, rfl, rfl, rfl⟩,
  ⟨He.glo_ok KX Gn (c.fact 12 (f := .glo ("deep_of" : PySem.Str)) rfl), kp c 12 (d := d18) rfl, D18, rfl, rfl, rfl⟩,
  ⟨He.glo_ok KX Gn (c.fact 13 (f := .glo ("look_at_term" : PySem.Str)) rfl), kp c 24 (d := d36) rfl, D36, rfl, rfl, rfl⟩,
  ⟨He.glo_ok KX Gn (c.fact 14 (f := .glo ("look_at_binder" : PySem.Str)) rfl), kp c 25 (d := d37) rfl, D37, rfl, rfl, rfl⟩,
  ⟨He.glo_ok KX Gn (c.fact 15 (f := .glo ("are_such_names" : PySem.Str)) rfl), kp c 26 (d := d38) rfl, D38, rfl, rfl, rfl⟩,
  ⟨He.glo_ok KX Gn (c.fact 16 (f := .glo ("look_at_names" : PySem.Str)) rfl), kp c 27 (d := d39) rfl, D39, rfl, rfl, rfl⟩,
  ⟨He.glo_ok KX Gn (c.fact 17 (f := .glo ("name_for" : PySem.Str)) rfl), kp c 28 (d := d40) rfl, D40, rfl, rfl, rfl⟩,
  ⟨He.glo_ok KX Gn (c.fact 18 (f := .glo ("inner" : PySem.Str)) rfl), kp c 29 (d := d41) rfl, D41, rfl, rfl, rfl⟩,
  ⟨He.glo_ok KX Gn (c.fact 19 (f := .glo ("catches_of" : PySem.Str)) rfl), kp c 30 (d := d42) rfl, D42, rfl, rfl, rfl⟩,
  ⟨He.glo_ok KX Gn (c.fact 20 (f := .glo ("is_right" : PySem.Str)) rfl), kp c 31 (d := d43) rfl, D43, rfl, rfl, rfl⟩,
  ⟨He.glo_ok KX Gn (c.fact 21 (f := .glo ("catches" : PySem.Str)) rfl), kp c 32 (d := d44) rfl, D44, rfl, rfl, rfl⟩,
  ⟨He.glo_ok KX Gn (c.fact 22 (f := .glo ("all_live" : PySem.Str)) rfl), kp c 33 (d := d45) rfl, D45, rfl, rfl, rfl⟩, trivial⟩
theorem gA2 : AllG (gQ K mg) G2 := ⟨⟨He.glo_ok KX Gn (c.fact 23 (f := .glo ("in_line" : PySem.Str)) rfl), kp c 34 (d := d46) rfl, D46, rfl, rfl, rfl⟩,
  ⟨He.glo_ok KX Gn (c.fact 24 (f := .glo ("live_at" : PySem.Str)) rfl), kp c 35 (d := d47) rfl, D47, rfl, rfl, rfl⟩,
  ⟨He.glo_ok KX Gn (c.fact 25 (f := .glo ("pairs_of" : PySem.Str)) rfl), kp c 36 (d := d48) rfl, D48, rfl, rfl, rfl⟩,
  ⟨He.glo_ok KX Gn (c.fact 26 (f := .glo ("clashes" : PySem.Str)) rfl), kp c 37 (d := d49) rfl, D49, rfl, rfl, rfl⟩,
  ⟨He.glo_ok KX Gn (c.fact 27 (f := .glo ("free_of" : PySem.Str)) rfl), kp c 38 (d := d50) rfl, D50, rfl, rfl, rfl⟩,
  ⟨He.glo_ok KX Gn (c.fact 28 (f := .glo ("free_names" : PySem.Str)) rfl), kp c 39 (d := d51) rfl, D51, rfl, rfl, rfl⟩,
  ⟨He.glo_ok KX Gn (c.fact 29 (f := .glo ("meaning" : PySem.Str)) rfl), kp c 40 (d := d52) rfl, D52, rfl, rfl, rfl⟩,
  ⟨He.glo_ok KX Gn (c.fact 30 (f := .glo ("binders_in" : PySem.Str)) rfl), kp c 41 (d := d53) rfl, D53, rfl, rfl, rfl⟩,
  ⟨He.glo_ok KX Gn (c.fact 31 (f := .glo ("width_of" : PySem.Str)) rfl), kp c 42 (d := d54) rfl, D54, rfl, rfl, rfl⟩,
  ⟨He.glo_ok KX Gn (c.fact 32 (f := .glo ("width" : PySem.Str)) rfl), kp c 43 (d := d55) rfl, D55, rfl, rfl, rfl⟩,
  ⟨He.glo_ok KX Gn (c.fact 33 (f := .glo ("fewest" : PySem.Str)) rfl), kp c 44 (d := d56) rfl, D56, rfl, rfl, rfl⟩,
  ⟨He.glo_ok KX Gn (c.fact 34 (f := .glo ("pool_for" : PySem.Str)) rfl), kp c 45 (d := d57) rfl, D57, rfl, rfl, rfl⟩, trivial⟩
theorem gA3 : AllG (gQ K mg) G3 := ⟨⟨He.glo_ok KX Gn (c.fact 35 (f := .glo ("told_for" : PySem.Str)) rfl), kp c 46 (d := d58) rfl, D58, rfl, rfl, rfl⟩,
  ⟨He.glo_ok KX Gn (c.fact 36 (f := .glo ("told_naming" : PySem.Str)) rfl), kp c 47 (d := d59) rfl, D59, rfl, rfl, rfl⟩,
  ⟨He.glo_ok KX Gn (c.fact 37 (f := .glo ("names_used" : PySem.Str)) rfl), kp c 48 (d := d60) rfl, D60, rfl, rfl, rfl⟩,
  ⟨He.glo_ok KX Gn (c.fact 38 (f := .glo ("accepts_fewest" : PySem.Str)) rfl), kp c 49 (d := d61) rfl, D61, rfl, rfl, rfl⟩,
  ⟨He.glo_ok KX Gn (c.fact 39 (f := .glo ("is_pool" : PySem.Str)) rfl), kp c 50 (d := d62) rfl, D62, rfl, rfl, rfl⟩,
  ⟨He.glo_ok KX Gn (c.fact 40 (f := .glo ("look_at_pool" : PySem.Str)) rfl), kp c 51 (d := d63) rfl, D63, rfl, rfl, rfl⟩,
  ⟨He.glo_ok KX Gn (c.fact 41 (f := .glo ("choices_for" : PySem.Str)) rfl), kp c 52 (d := d64) rfl, D64, rfl, rfl, rfl⟩,
  ⟨He.glo_ok KX Gn (c.fact 42 (f := .glo ("product" : PySem.Str)) rfl), kp c 53 (d := d65) rfl, D65, rfl, rfl, rfl⟩,
  ⟨He.glo_ok KX Gn (c.fact 43 (f := .glo ("how_many" : PySem.Str)) rfl), kp c 54 (d := d66) rfl, D66, rfl, rfl, rfl⟩,
  ⟨He.glo_ok KX Gn (c.fact 44 (f := .glo ("let_at" : PySem.Str)) rfl), kp c 55 (d := d67) rfl, D67, rfl, rfl, rfl⟩,
  ⟨He.glo_ok KX Gn (c.fact 45 (f := .glo ("naming_by" : PySem.Str)) rfl), kp c 56 (d := d68) rfl, D68, rfl, rfl, rfl⟩,
  ⟨He.glo_ok KX Gn (c.fact 47 (f := .glo ("_law_pool" : PySem.Str)) rfl), kp c 57 (d := d70) rfl, D70, rfl, rfl, rfl⟩, trivial⟩
theorem gA4 : AllG (gQ K mg) G4 := ⟨⟨He.glo_ok KX Gn (c.fact 48 (f := .glo ("_law_take" : PySem.Str)) rfl), kp c 58 (d := d71) rfl, D71, rfl, rfl, rfl⟩,
  ⟨He.glo_ok KX Gn (c.fact 49 (f := .glo ("_law_turned" : PySem.Str)) rfl), kp c 59 (d := d72) rfl, D72, rfl, rfl, rfl⟩,
  ⟨He.glo_ok KX Gn (c.fact 50 (f := .glo ("_law_use" : PySem.Str)) rfl), kp c 60 (d := d73) rfl, D73, rfl, rfl, rfl⟩,
  ⟨He.glo_ok KX Gn (c.fact 51 (f := .glo ("_law_two_right" : PySem.Str)) rfl), kp c 61 (d := d74) rfl, D74, rfl, rfl, rfl⟩,
  ⟨He.glo_ok KX Gn (c.fact 52 (f := .glo ("_law_three_right" : PySem.Str)) rfl), kp c 62 (d := d75) rfl, D75, rfl, rfl, rfl⟩,
  ⟨He.glo_ok KX Gn (c.fact 53 (f := .glo ("_law_free_right" : PySem.Str)) rfl), kp c 63 (d := d76) rfl, D76, rfl, rfl, rfl⟩,
  ⟨He.glo_ok KX Gn (c.fact 54 (f := .glo ("_law_ahead_right" : PySem.Str)) rfl), kp c 64 (d := d77) rfl, D77, rfl, rfl, rfl⟩,
  ⟨He.glo_ok KX Gn (c.fact 55 (f := .glo ("law" : PySem.Str)) rfl), kp c 65 (d := d78) rfl, D78, rfl, rfl, rfl⟩,
  ⟨He.glo_ok KX Gn (c.fact 56 (f := .glo ("Flat" : PySem.Str)) rfl), He.mkr_ok (c.fact 58 (f := .mkr ("Flat" : PySem.Str)) rfl), D19, rfl, rfl, rfl⟩,
  ⟨He.glo_ok KX Gn (c.fact 59 (f := .glo ("Term" : PySem.Str)) rfl), He.mkr_ok (c.fact 61 (f := .mkr ("Term" : PySem.Str)) rfl), D21, rfl, rfl, rfl⟩,
  He.str_ok KX Gn (c.fact 75 (f := .str ("LETTERS" : PySem.Str) ⟨#[97,98,99,100,101,102,103,104,105,106,107,108,109,110,111,112,113,114,115,116,117,118,119,120,121,122]⟩) rfl),
  He.int_ok KX Gn (c.fact 76 (f := .int ("MOST_LETTERS" : PySem.Str) 8) rfl), trivial⟩
theorem gA5 : AllG (gQ K mg) G5 := ⟨He.int_ok KX Gn (c.fact 77 (f := .int ("MOST_NODES" : PySem.Str) 400) rfl),
  He.int_ok KX Gn (c.fact 78 (f := .int ("MOST_BINDERS" : PySem.Str) 60) rfl),
  He.int_ok KX Gn (c.fact 79 (f := .int ("MOST_DEEP" : PySem.Str) 100) rfl),
  He.int_ok KX Gn (c.fact 80 (f := .int ("MOST_POOL" : PySem.Str) 60) rfl),
  He.free_ok KX Gn (c.fact 62 (f := .free ("len" : PySem.Str)) rfl),
  He.free_ok KX Gn (c.fact 63 (f := .free ("list" : PySem.Str)) rfl),
  He.free_ok KX Gn (c.fact 64 (f := .free ("tuple" : PySem.Str)) rfl),
  He.free_ok KX Gn (c.fact 65 (f := .free ("max" : PySem.Str)) rfl),
  He.free_ok KX Gn (c.fact 66 (f := .free ("min" : PySem.Str)) rfl),
  He.free_ok KX Gn (c.fact 67 (f := .free ("all" : PySem.Str)) rfl),
  He.free_ok KX Gn (c.fact 68 (f := .free ("int" : PySem.Str)) rfl),
  He.free_ok KX Gn (c.fact 69 (f := .free ("sorted" : PySem.Str)) rfl), trivial⟩
theorem gA6 : AllG (gQ K mg) G6 := ⟨He.free_ok KX Gn (c.fact 70 (f := .free ("str" : PySem.Str)) rfl),
  He.free_ok KX Gn (c.fact 71 (f := .free ("bool" : PySem.Str)) rfl),
  He.free_ok KX Gn (c.fact 72 (f := .free ("isinstance" : PySem.Str)) rfl),
  He.free_ok KX Gn (c.fact 73 (f := .free ("range" : PySem.Str)) rfl),
  He.free_ok KX Gn (c.fact 74 (f := .free ("enumerate" : PySem.Str)) rfl), trivial⟩
theorem gA : AllG (gQ K mg) G := AllG.app (AllG.app (AllG.app (AllG.app (AllG.app (AllG.app (gA0 c KX Gn) (gA1 c KX Gn)) (gA2 c KX Gn)) (gA3 c KX Gn)) (gA4 c KX Gn)) (gA5 c KX Gn)) (gA6 c KX Gn)
end
section
variable {K : PySem.W.Frag} (c : He.SaysD fa fn K) (P : Program) (w : World) (mg : Str → Option Value) (base : Heap)
include c
theorem dA : AllD (fun f d => DefI (Wk K) ⟨P, w, K, mg, base⟩ G (nmF mnms 1) d (adK K f)) 0 fdL := ⟨i6 c P w mg base, i7 c P w mg base, i8 c P w mg base, i9 c P w mg base, i10 c P w mg base, i11 c P w mg base, i12 c P w mg base, i13 c P w mg base, i14 c P w mg base, i15 c P w mg base, i16 c P w mg base, i17 c P w mg base, i18 c P w mg base, i19 c P w mg base, i20 c P w mg base, i21 c P w mg base, i22 c P w mg base, i23 c P w mg base, i25 c P w mg base, i26 c P w mg base, i28 c P w mg base, i29 c P w mg base, i30 c P w mg base, i32 c P w mg base, i36 c P w mg base, i37 c P w mg base, i38 c P w mg base, i39 c P w mg base, i40 c P w mg base, i41 c P w mg base, i42 c P w mg base, i43 c P w mg base, i44 c P w mg base, i45 c P w mg base, i46 c P w mg base, i47 c P w mg base, i48 c P w mg base, i49 c P w mg base, i50 c P w mg base, i51 c P w mg base, i52 c P w mg base, i53 c P w mg base, i54 c P w mg base, i55 c P w mg base, i56 c P w mg base, i57 c P w mg base, i58 c P w mg base, i59 c P w mg base, i60 c P w mg base, i61 c P w mg base, i62 c P w mg base, i63 c P w mg base, i64 c P w mg base, i65 c P w mg base, i66 c P w mg base, i67 c P w mg base, i68 c P w mg base, i70 c P w mg base, i71 c P w mg base, i72 c P w mg base, i73 c P w mg base, i74 c P w mg base, i75 c P w mg base, i76 c P w mg base, i77 c P w mg base, i78 c P w mg base, trivial⟩
end
end LP
set_option Elab.async false
set_option linter.all false
set_option maxRecDepth 100000
set_option maxHeartbeats 0
namespace LP
open PySem PySem.Spec PyProof.Rows L2 LN
theorem lookP {α β : Type} [BEq α] [LawfulBEq α] {a : α} {b : β} : ∀ {l : List (α × β)}, l.lookup a = some b → (a, b) ∈ l
  | [], h => by cases h
  | (x, y) :: r, h => by
    have h2 : (match a == x with | true => some y | false => r.lookup a) = some b := h
    cases q : (a == x) with
    | true =>
      rw [q] at h2
      have : y = b := Option.some.inj h2
      rw [beq_iff_eq.mp q, this]
      exact List.mem_cons_self
    | false =>
      rw [q] at h2
      exact List.mem_cons_of_mem _ (lookP h2)
theorem fsAt {f : Nat} {d : FD} (h : prog.fs f = some d) : fdL[f]? = some (some d) := by
  have h2 : (match fdL[f]? with | some (some d) => some d | _ => none) = some d := h
  split at h2
  · rename_i q; cases h2; exact q
  · cases h2
section
variable {K : PySem.W.Frag} {h : Heap} {mg : Str → Option Value} (c : He.SaysD fa fn K)
include c
theorem flA : ∀ p ∈ flL, NoAttr K ((Wk K).cls p.1) ((Wk K).fnm p.2) := by
  intro p hp
  simp only [flL, List.mem_cons, List.not_mem_nil, or_false] at hp
  rcases hp with rfl | rfl | rfl | rfl | rfl | rfl | rfl | rfl | rfl | rfl | rfl | rfl
  · exact He.noat_ok (c.fact 81 (f := .noat ("Flat" : PySem.Str) ("around" : PySem.Str)) rfl)
  · exact He.noat_ok (c.fact 82 (f := .noat ("Flat" : PySem.Str) ("binder_nodes" : PySem.Str)) rfl)
  · exact He.noat_ok (c.fact 83 (f := .noat ("Flat" : PySem.Str) ("nodes" : PySem.Str)) rfl)
  · exact He.noat_ok (c.fact 84 (f := .noat ("Flat" : PySem.Str) ("use_nodes" : PySem.Str)) rfl)
  · exact He.noat_ok (c.fact 85 (f := .noat ("Term" : PySem.Str) ("binder_nodes" : PySem.Str)) rfl)
  · exact He.noat_ok (c.fact 86 (f := .noat ("Term" : PySem.Str) ("own_around" : PySem.Str)) rfl)
  · exact He.noat_ok (c.fact 87 (f := .noat ("Term" : PySem.Str) ("own_meaning" : PySem.Str)) rfl)
  · exact He.noat_ok (c.fact 88 (f := .noat ("Term" : PySem.Str) ("own_names" : PySem.Str)) rfl)
  · exact He.noat_ok (c.fact 89 (f := .noat ("Term" : PySem.Str) ("own_nodes" : PySem.Str)) rfl)
  · exact He.noat_ok (c.fact 90 (f := .noat ("Term" : PySem.Str) ("own_tree" : PySem.Str)) rfl)
  · exact He.noat_ok (c.fact 91 (f := .noat ("Term" : PySem.Str) ("use_around" : PySem.Str)) rfl)
  · exact He.noat_ok (c.fact 92 (f := .noat ("Term" : PySem.Str) ("use_nodes" : PySem.Str)) rfl)
theorem mtA : ∀ p ∈ mtL, Meth K ((Wk K).cls p.1.1) (nmF mnms 1 p.1.2) (adK K p.2) ∧ ∃ d, prog.fs p.2 = some d ∧ d.bk = .pl := by
  intro p hp
  simp only [mtL, List.mem_cons, List.not_mem_nil, or_false] at hp
  rcases hp with rfl | rfl | rfl | rfl | rfl | rfl | rfl | rfl | rfl
  · exact ⟨He.meth_ok (c.fact 93 (f := .meth ("Flat" : PySem.Str) ("add" : PySem.Str)) rfl), D20, rfl, rfl⟩
  · exact ⟨He.meth_ok (c.fact 94 (f := .meth ("Term" : PySem.Str) ("meant" : PySem.Str)) rfl), D22, rfl, rfl⟩
  · exact ⟨He.meth_ok (c.fact 95 (f := .meth ("Term" : PySem.Str) ("tree" : PySem.Str)) rfl), D23, rfl, rfl⟩
  · exact ⟨He.meth_ok (c.fact 96 (f := .meth ("Term" : PySem.Str) ("binders" : PySem.Str)) rfl), D25, rfl, rfl⟩
  · exact ⟨He.meth_ok (c.fact 97 (f := .meth ("Term" : PySem.Str) ("uses" : PySem.Str)) rfl), D26, rfl, rfl⟩
  · exact ⟨He.meth_ok (c.fact 98 (f := .meth ("Term" : PySem.Str) ("__len__" : PySem.Str)) rfl), D28, rfl, rfl⟩
  · exact ⟨He.meth_ok (c.fact 99 (f := .meth ("Term" : PySem.Str) ("__getitem__" : PySem.Str)) rfl), D29, rfl, rfl⟩
  · exact ⟨He.meth_ok (c.fact 100 (f := .meth ("Term" : PySem.Str) ("__contains__" : PySem.Str)) rfl), D30, rfl, rfl⟩
  · exact ⟨He.meth_ok (c.fact 101 (f := .meth ("Term" : PySem.Str) ("__eq__" : PySem.Str)) rfl), D32, rfl, rfl⟩
end
theorem lamA : AllD (fun f d => d.lam = true → f = 12) 0 fdL := ⟨(fun h => by cases h), (fun h => by cases h), (fun h => by cases h), (fun h => by cases h), (fun h => by cases h), (fun h => by cases h), (fun _ => rfl), (fun h => by cases h), (fun h => by cases h), (fun h => by cases h), (fun h => by cases h), (fun h => by cases h), (fun h => by cases h), (fun h => by cases h), (fun h => by cases h), (fun h => by cases h), (fun h => by cases h), (fun h => by cases h), (fun h => by cases h), (fun h => by cases h), (fun h => by cases h), (fun h => by cases h), (fun h => by cases h), (fun h => by cases h), (fun h => by cases h), (fun h => by cases h), (fun h => by cases h), (fun h => by cases h), (fun h => by cases h), (fun h => by cases h), (fun h => by cases h), (fun h => by cases h), (fun h => by cases h), (fun h => by cases h), (fun h => by cases h), (fun h => by cases h), (fun h => by cases h), (fun h => by cases h), (fun h => by cases h), (fun h => by cases h), (fun h => by cases h), (fun h => by cases h), (fun h => by cases h), (fun h => by cases h), (fun h => by cases h), (fun h => by cases h), (fun h => by cases h), (fun h => by cases h), (fun h => by cases h), (fun h => by cases h), (fun h => by cases h), (fun h => by cases h), (fun h => by cases h), (fun h => by cases h), (fun h => by cases h), (fun h => by cases h), (fun h => by cases h), (fun h => by cases h), (fun h => by cases h), (fun h => by cases h), (fun h => by cases h), (fun h => by cases h), (fun h => by cases h), (fun h => by cases h), (fun h => by cases h), (fun h => by cases h), trivial⟩
theorem stat {K : PySem.W.Frag} {h : Heap} {mg : Str → Option Value} {P : Program} {w : World} {base : Heap} (cx : He.SaysX fa fn [] tf exB w h K) (KX : K.In h) (Gn : h.Ns mainGlobals mg) (TB : LamX.TabB base mg (He.cT K (("ordered" : PySem.Str), none)).1 (He.cT K (("ordered" : PySem.Str), none)).2) :
    Stat (Wk K) ⟨P, w, K, mg, base⟩ prog (nmF mnms 1) G (adK K) := by
  have c := cx.t.d
  have gq := gA c KX Gn
  have ex := cx.more
  unfold exB at ex
  obtain ⟨x1, ex⟩ := LN.ba ex
  obtain ⟨x2, ex⟩ := LN.ba ex
  obtain ⟨x3, ex⟩ := LN.ba ex
  obtain ⟨x4, ex⟩ := LN.ba ex
  obtain ⟨x5, ex⟩ := LN.ba ex
  obtain ⟨x6, x7⟩ := LN.ba ex
  have icT : ∀ {cc : Nat}, prog.ic cc = true → cc = 1 := fun h => of_decide_eq_true h
  refine { hK := rfl, inj := nmF_inj (by decide +kernel), nmf := nmF_apart (by decide +kernel) (by decide +kernel) (by decide +kernel) (by decide +kernel) (by decide), cls := ?_, fld := ?_, mth := ?_, ins := ?_, kit := ?_, kit2 := ?_, gfn := ?_, gcl := ?_, gfk := ?_, gint := ?_, gstr := ?_, gbn := ?_, ggn := ?_, gen_ := ?_, def_ := ?_, lam := ?_, nat := ?_, nat0 := ?_ }
  · intro cc hc
    have hlt : cc < 2 := of_decide_eq_true hc
    match cc, hlt with
    | 0, _ => exact He.cls_ok (c.fact 57 (f := .cls ("Flat" : PySem.Str)) rfl)
    | 1, _ => exact He.cls_ok (c.fact 60 (f := .cls ("Term" : PySem.Str)) rfl)
  · intro cc f hf
    exact flA c (cc, f) (by simpa [prog] using hf)
  · intro cc m f hm
    obtain ⟨h1, d, h2, h3⟩ := mtA c ((cc, m), f) (lookP hm)
    exact ⟨h1, .inl ⟨d, h2, h3⟩⟩
  · intro cc hc
    obtain rfl := icT hc
    exact ⟨He.cls_ok (c.fact 60 (f := .cls "Term") rfl), He.eqO_ok x1, He.eqO_ok x2, of_decide_eq_true x3, of_decide_eq_true x4⟩
  · intro cc hc
    obtain rfl := icT hc
    refine ⟨of_decide_eq_true x5, fun b => ?_⟩
    have hb : b.nm ∈ btn := by cases b <;> simp [BTy.nm, btn]
    obtain ⟨h1, h2⟩ := LN.ba (List.all_eq_true.mp x6 b.nm hb)
    exact ⟨of_decide_eq_true h1, of_decide_eq_true h2⟩
  · intro cc cc' hc hc'
    obtain rfl := icT hc
    obtain rfl := icT hc'
    exact of_decide_eq_true x7
  · intro x f np hx
    obtain ⟨h1, h2, d, h3, h4, h5⟩ := gq.get hx
    exact ⟨h1, h2, .inl ⟨d, h3, h4, h5⟩⟩
  · intro x cc f np hx
    exact gq.get hx
  · intro x f np ks dfl hx
    exact gq.get hx
  · intro x i hx
    exact gq.get hx
  · intro x l hx
    exact gq.get hx
  · intro x hx
    exact gq.get hx
  · intro x f np hx
    obtain ⟨h1, h2, h3, g, h4, h5⟩ := gq.get hx
    exact ⟨h1, h2, h3, rfl, g, h4, h5⟩
  · intro f g hf
    have hm := lookP (l := gdL) hf
    simp only [gdL, List.mem_cons, List.not_mem_nil, or_false, Prod.mk.injEq] at hm
    obtain ⟨rfl, rfl⟩ := hm
    exact i69 c P w mg base
  · intro f d hf
    have := (dA c P w mg base).get (fsAt hf)
    rwa [Nat.zero_add] at this
  · intro f d hf hl fd oc od osl lk
    have hfk := lamA.get (fsAt hf) hl
    rw [Nat.zero_add] at hfk
    subst hfk
    obtain ⟨fd', F⟩ := c.def_ 6 (d := d12) rfl
    obtain ⟨oc', od', dV, kV, doc, pm, an, cdv, ct, osl', rfl, lk', hcd, _, _⟩ := F.ex
    have e1 := lk'.symm.trans lk
    cases e1
    obtain ⟨cc, rfl⟩ := He.codeIn_ref hcd
    have e2 := He.codeOf_eq (p := (("ordered" : PySem.Str), none)) (c := cc) lk' rfl
    refine ⟨cc, (He.cT K (("ordered" : PySem.Str), none)).2, rfl, ?_, List.mem_cons_self, ?_⟩
    · have := TB
      unfold He.cT at this ⊢
      rw [e2] at this ⊢
      exact this
    · intro p hp _
      simp only [Wk, tabs, List.mem_cons, List.not_mem_nil, or_false] at hp
      subst hp
      rfl
  · intro f np F _ h2
    cases h2
  · intro f np F _ h2
    cases h2
end LP
set_option maxRecDepth 100000
namespace LP
open PySem L2 LN
def pool5 : List (List Nat) := [[120], [97], [97,97], [97,98,99,100,101,102,103,104], [117,115,101]]
def okB (r : Option (D × Store)) : Bool := match r with | some (.bl true, []) => true | _ => false
def pairs5 : List (List Nat × List Nat) := pool5.flatMap fun a => (pool5.filter fun b => b != a).map fun b => (a, b)
def trip5 : List (List Nat × List Nat × List Nat) := pairs5.flatMap fun p => (pool5.filter fun c => c != p.1 && c != p.2).map fun c => (p.1, p.2, c)
theorem q74_0 : (((pairs5.drop 0).take 5).all fun p => okB ((tabN prog 30).fn 74 [.str p.1, .str p.2] [])) = true := by kernel_rfl
theorem q74_1 : (((pairs5.drop 5).take 5).all fun p => okB ((tabN prog 30).fn 74 [.str p.1, .str p.2] [])) = true := by kernel_rfl
theorem q74_2 : (((pairs5.drop 10).take 5).all fun p => okB ((tabN prog 30).fn 74 [.str p.1, .str p.2] [])) = true := by kernel_rfl
theorem q74_3 : (((pairs5.drop 15).take 5).all fun p => okB ((tabN prog 30).fn 74 [.str p.1, .str p.2] [])) = true := by kernel_rfl
theorem q74 : (pairs5.all fun p => okB ((tabN prog 30).fn 74 [.str p.1, .str p.2] [])) = true := by
  have e : pairs5 = (pairs5.drop 0).take 5 ++ ((pairs5.drop 5).take 5 ++ ((pairs5.drop 10).take 5 ++ (pairs5.drop 15).take 5)) := by decide +kernel
  rw [e]
  simp only [List.all_append, Bool.and_eq_true]
  exact ⟨q74_0, q74_1, q74_2, q74_3⟩
theorem q75_0 : (((trip5.drop 0).take 6).all fun p => okB ((tabN prog 30).fn 75 [.str p.1, .str p.2.1, .str p.2.2] [])) = true := by kernel_rfl
theorem q75_1 : (((trip5.drop 6).take 6).all fun p => okB ((tabN prog 30).fn 75 [.str p.1, .str p.2.1, .str p.2.2] [])) = true := by kernel_rfl
theorem q75_2 : (((trip5.drop 12).take 6).all fun p => okB ((tabN prog 30).fn 75 [.str p.1, .str p.2.1, .str p.2.2] [])) = true := by kernel_rfl
theorem q75_3 : (((trip5.drop 18).take 6).all fun p => okB ((tabN prog 30).fn 75 [.str p.1, .str p.2.1, .str p.2.2] [])) = true := by kernel_rfl
theorem q75_4 : (((trip5.drop 24).take 6).all fun p => okB ((tabN prog 30).fn 75 [.str p.1, .str p.2.1, .str p.2.2] [])) = true := by kernel_rfl
theorem q75_5 : (((trip5.drop 30).take 6).all fun p => okB ((tabN prog 30).fn 75 [.str p.1, .str p.2.1, .str p.2.2] [])) = true := by kernel_rfl
theorem q75_6 : (((trip5.drop 36).take 6).all fun p => okB ((tabN prog 30).fn 75 [.str p.1, .str p.2.1, .str p.2.2] [])) = true := by kernel_rfl
theorem q75_7 : (((trip5.drop 42).take 6).all fun p => okB ((tabN prog 30).fn 75 [.str p.1, .str p.2.1, .str p.2.2] [])) = true := by kernel_rfl
theorem q75_8 : (((trip5.drop 48).take 6).all fun p => okB ((tabN prog 30).fn 75 [.str p.1, .str p.2.1, .str p.2.2] [])) = true := by kernel_rfl
theorem q75_9 : (((trip5.drop 54).take 6).all fun p => okB ((tabN prog 30).fn 75 [.str p.1, .str p.2.1, .str p.2.2] [])) = true := by kernel_rfl
theorem q75 : (trip5.all fun p => okB ((tabN prog 30).fn 75 [.str p.1, .str p.2.1, .str p.2.2] [])) = true := by
  have e : trip5 = (trip5.drop 0).take 6 ++ ((trip5.drop 6).take 6 ++ ((trip5.drop 12).take 6 ++ ((trip5.drop 18).take 6 ++ ((trip5.drop 24).take 6 ++ ((trip5.drop 30).take 6 ++ ((trip5.drop 36).take 6 ++ ((trip5.drop 42).take 6 ++ ((trip5.drop 48).take 6 ++ (trip5.drop 54).take 6)))))))) := by decide +kernel
  rw [e]
  simp only [List.all_append, Bool.and_eq_true]
  exact ⟨q75_0, q75_1, q75_2, q75_3, q75_4, q75_5, q75_6, q75_7, q75_8, q75_9⟩
theorem q76_0 : (((pairs5.drop 0).take 5).all fun p => okB ((tabN prog 30).fn 76 [.str p.1, .str p.2] [])) = true := by kernel_rfl
theorem q76_1 : (((pairs5.drop 5).take 5).all fun p => okB ((tabN prog 30).fn 76 [.str p.1, .str p.2] [])) = true := by kernel_rfl
theorem q76_2 : (((pairs5.drop 10).take 5).all fun p => okB ((tabN prog 30).fn 76 [.str p.1, .str p.2] [])) = true := by kernel_rfl
theorem q76_3 : (((pairs5.drop 15).take 5).all fun p => okB ((tabN prog 30).fn 76 [.str p.1, .str p.2] [])) = true := by kernel_rfl
theorem q76 : (pairs5.all fun p => okB ((tabN prog 30).fn 76 [.str p.1, .str p.2] [])) = true := by
  have e : pairs5 = (pairs5.drop 0).take 5 ++ ((pairs5.drop 5).take 5 ++ ((pairs5.drop 10).take 5 ++ (pairs5.drop 15).take 5)) := by decide +kernel
  rw [e]
  simp only [List.all_append, Bool.and_eq_true]
  exact ⟨q76_0, q76_1, q76_2, q76_3⟩
theorem q77_0 : (((pairs5.drop 0).take 5).all fun p => okB ((tabN prog 30).fn 77 [.str p.1, .str p.2] [])) = true := by kernel_rfl
theorem q77_1 : (((pairs5.drop 5).take 5).all fun p => okB ((tabN prog 30).fn 77 [.str p.1, .str p.2] [])) = true := by kernel_rfl
theorem q77_2 : (((pairs5.drop 10).take 5).all fun p => okB ((tabN prog 30).fn 77 [.str p.1, .str p.2] [])) = true := by kernel_rfl
theorem q77_3 : (((pairs5.drop 15).take 5).all fun p => okB ((tabN prog 30).fn 77 [.str p.1, .str p.2] [])) = true := by kernel_rfl
theorem q77 : (pairs5.all fun p => okB ((tabN prog 30).fn 77 [.str p.1, .str p.2] [])) = true := by
  have e : pairs5 = (pairs5.drop 0).take 5 ++ ((pairs5.drop 5).take 5 ++ ((pairs5.drop 10).take 5 ++ (pairs5.drop 15).take 5)) := by decide +kernel
  rw [e]
  simp only [List.all_append, Bool.and_eq_true]
  exact ⟨q77_0, q77_1, q77_2, q77_3⟩
end LP

set_option maxRecDepth 100000
namespace LP
open PySem L2 LN
/-- the draw, and what is left of the source -/
def tkV (b s top : Int) : Int := if 0 < b then b % top else (((s * 39373 + 7) % 2147483647) * ((s * 39373 + 7) % 2147483647) % 2147483629 / 32) % top
def tkB (b top : Int) : Int := if 0 < b then b / top else b
def tkS (b s : Int) : Int := if 0 < b then s else (s * 39373 + 7) % 2147483647
theorem cmul_r (i j : Int) (h1 : -(2 ^ 64) < j) (h2 : j < 2 ^ 64) : cmulB i j = true := by
  simp only [cmulB, Bool.or_eq_true, decide_eq_true_eq]
  exact .inr ⟨h1, h2⟩
theorem p_mul (i j : Int) (S : Store) : p2 .mul (.int i) (.int j) S = if cmulB i j then some (.int (i * j)) else none := rfl
theorem p_add (i j : Int) (S : Store) : p2 .add (.int i) (.int j) S = some (.int (i + j)) := rfl
theorem p_sub (i j : Int) (S : Store) : p2 .sub (.int i) (.int j) S = some (.int (i - j)) := rfl
theorem p_fdiv (i j : Int) (S : Store) : p2 .fdiv (.int i) (.int j) S = if 0 < j ∧ j < 1073741824 then some (.int (i / j)) else none := rfl
theorem p_mod (i j : Int) (S : Store) : p2 .mod (.int i) (.int j) S = if 0 < j then some (.int (i % j)) else none := rfl
theorem p_gt (i j : Int) (S : Store) : p2 .gt (.int i) (.int j) S = some (.bl (decide (j < i))) := rfl
theorem p_ge (i j : Int) (S : Store) : p2 .ge (.int i) (.int j) S = some (.bl (decide (j ≤ i))) := rfl
theorem p_lt (i j : Int) (S : Store) : p2 .lt (.int i) (.int j) S = some (.bl (decide (i < j))) := rfl
theorem p_idx (j : Nat) (i : Int) (S : Store) : p2 .idx (.obj j) (.int i) S = match seqD S (.obj j) with
  | some xs => ixD xs i
  | none => none := rfl
theorem pb_int (i : Int) (S : Store) : pb .int [.int i] S = some (.v (.int i)) := rfl
theorem pb_ib (b : Bool) (S : Store) : pb .int [.bl b] S = some (.v (.int (if b then 1 else 0))) := rfl
theorem seq_obj (j : Nat) (xs : List D) (S : Store) (h : S[j]? = some (.lst xs)) : seqD S (.obj j) = some xs := by
  simp only [seqD, h]
theorem set_it (j : Nat) (xs : List D) (i : Int) (y : D) (S : Store) (h : S[j]? = some (.lst xs)) : setItem (.obj j) (.int i) y S = if 0 ≤ i ∧ i < xs.length then some (S.set j (.lst (xs.set i.toNat y))) else none := by
  simp only [LN.setItem, h]
theorem take_eq (T : Tab) (S : Store) (j : Nat) (b s top : Int) (h : S[j]? = some (.lst [.int b, .int s])) (ht : 0 < top) (ht2 : top < 1073741824) :
    runF T D71 [.obj j, .int top] S = some (.int (tkV b s top), S.set j (.lst [.int (tkB b top), .int (tkS b s)])) := by
  have hj : j < S.length := (List.getElem?_eq_some_iff.mp h).1
  have m1 : cmulB s 39373 = true := cmul_r _ _ (by decide) (by decide)
  have p0 : 0 ≤ (s * 39373 + 7) % 2147483647 := Int.emod_nonneg _ (by decide)
  have p1 : (s * 39373 + 7) % 2147483647 < 2147483647 := Int.emod_lt_of_pos _ (by decide)
  have m2 : cmulB ((s * 39373 + 7) % 2147483647) ((s * 39373 + 7) % 2147483647) = true := cmul_r _ _ (by omega) (by omega)
  have hb0 : (S.set j (.lst [.int b, .int ((s * 39373 + 7) % 2147483647)]))[j]? = some (.lst [.int b, .int ((s * 39373 + 7) % 2147483647)]) := List.getElem?_set_self hj
  by_cases hb : 0 < b
  · simp [runF, runB, D71, B71, exL, ex, evE, evL, startD, hb, tkV, tkB, tkS, p_mul, p_add, p_sub, p_fdiv, p_mod, p_gt, p_idx, pb_int, ixD, set_it j _ _ _ S h, seq_obj j _ S h, ht, ht2, setT]
  · simp [runF, runB, D71, B71, exL, ex, evE, evL, startD, hb, tkV, tkB, tkS, p_mul, p_add, p_sub, p_fdiv, p_mod, p_gt, p_idx, pb_int, ixD, set_it j _ _ _ S h, seq_obj j _ S h, seq_obj j _ _ hb0, ht, ht2, m1, m2, setT]
end LP

set_option maxRecDepth 100000
namespace LP
open PySem L2 LN
theorem tkV_lt (b s top : Int) (ht : 0 < top) : 0 ≤ tkV b s top ∧ tkV b s top < top := by
  unfold tkV
  split
  · exact ⟨Int.emod_nonneg _ (by omega), Int.emod_lt_of_pos _ ht⟩
  · exact ⟨Int.emod_nonneg _ (by omega), Int.emod_lt_of_pos _ ht⟩
theorem m_app (i : Nat) (xs : List D) (y : D) (S : Store) (h : S[i]? = some (.lst xs)) : pm .append (.obj i) [y] S = if xs.length < 100000 then some (.non, S.set i (.lst (xs ++ [y]))) else none := by
  simp only [LN.pm, h]
theorem m_pop (i : Nat) (k : Int) (xs : List D) (S : Store) (h : S[i]? = some (.lst xs)) : pm .popAt (.obj i) [.int k] S = if 0 ≤ k ∧ k < xs.length ∧ xs.length < 2 ^ 62 then match xs[k.toNat]? with
      | some y => some (y, S.set i (.lst (xs.eraseIdx k.toNat)))
      | none => none
      else none := by
  simp only [LN.pm, h] <;> try rfl
theorem b_len (i : Nat) (xs : List D) (S : Store) (h : S[i]? = some (.lst xs)) : pb .len [.obj i] S = some (.v (.int xs.length)) := by
  simp [LN.pb, h, seqD]
end LP

set_option maxRecDepth 100000
namespace LP
open PySem L2 LN
def tstT (T : Tab) : DEnv → Store → Option (Bool × Store) := fun env1 S1 => match evE T (.p2 .ne (.var 2) (.disp .lst [] [])) env1 S1 with
      | some (.bl k, S2) => some (k, S2)
      | _ => none
def stpT (T : Tab) : DEnv → Store → Option O := fun env1 S1 => exL T [(.drop (.pm .append (.var 3) [(.pm .popAt (.var 2) [(.call 71 [(.var 0),(.pb .len false [(.var 2)])])])]))] env1 S1
def envT (j L F : Nat) (th : D) : DEnv := [some (.obj j), some th, some (.obj L), some (.obj F)]
theorem stp_turn (n : Nat) (j L F : Nat) (th : D) (S : Store) (b s : Int) (xs ys : List D)
    (hj : S[j]? = some (.lst [.int b, .int s])) (hL : S[L]? = some (.lst xs)) (hF : S[F]? = some (.lst ys))
    (n1 : j ≠ L) (n2 : j ≠ F) (n3 : L ≠ F) (x0 : 0 < xs.length) (x1 : xs.length < 100000) (y1 : ys.length < 100000) :
    ∃ y, xs[(tkV b s xs.length).toNat]? = some y ∧ stpT (tabN prog (n + 1)) (envT j L F th) S = some (.nx (envT j L F th)
      (((S.set j (.lst [.int (tkB b xs.length), .int (tkS b s)])).set L (.lst (xs.eraseIdx (tkV b s xs.length).toNat))).set F (.lst (ys ++ [y])))) := by
  have ⟨t0, t1⟩ := tkV_lt b s xs.length (by omega)
  have hk : (tkV b s xs.length).toNat < xs.length := by omega
  refine ⟨xs[(tkV b s xs.length).toNat], List.getElem?_eq_getElem hk, ?_⟩
  have hc : (tabN prog (n + 1)).fn 71 [.obj j, .int xs.length] S = runF (tabN prog n) D71 [.obj j, .int xs.length] S := by
    have e : prog.fs 71 = some D71 := rfl
    simp only [tabN, e]
  have hL1 : (S.set j (.lst [.int (tkB b xs.length), .int (tkS b s)]))[L]? = some (.lst xs) := by rw [List.getElem?_set_ne n1]; exact hL
  have hF1 : ((S.set j (.lst [.int (tkB b xs.length), .int (tkS b s)])).set L (.lst (xs.eraseIdx (tkV b s xs.length).toNat)))[F]? = some (.lst ys) := by
    rw [List.getElem?_set_ne n3, List.getElem?_set_ne n2]; exact hF
  have x2 : xs.length < 4611686018427387904 := by omega
  simp [stpT, envT, exL, ex, evE, evL, b_len L xs S hL, hc, take_eq _ S j b s xs.length hj (by omega) (by omega), m_pop L _ xs _ hL1, m_app F ys _ _ hF1, recvOk, lstD, hF, hL, t0, t1, y1, hk, x2]
theorem tst_turn (T : Tab) (j L F : Nat) (th : D) (S : Store) (xs : List D) (hL : S[L]? = some (.lst xs)) (k : Bool)
    (he : eqS S (.obj L) (.lst []) = some k) : tstT T (envT j L F th) S = some (!k, S) := by
  simp [tstT, envT, evE, evP, szOk, p2, he]
theorem pyL_str : ∀ ps : List (List Nat), pyL (ps.map .str) = some (ps.map fun p => PyData.str ⟨p.toArray⟩)
  | [] => rfl
  | p :: ps => by simp [pyL, pyD, pyL_str ps]
def okS (ps : List (List Nat)) : Bool := ps.all fun p => PyData.strOk ⟨p.toArray⟩
theorem str_lay : ∀ ps : List (List Nat), okS ps = true → PyData.canLayAll0 (ps.map fun p => PyData.str ⟨p.toArray⟩) = true ∧ PyData.depthAll (ps.map fun p => PyData.str ⟨p.toArray⟩) = 0
  | [], _ => ⟨rfl, rfl⟩
  | p :: ps, h => by
    simp only [okS, List.all_cons, Bool.and_eq_true] at h
    obtain ⟨h1, h2⟩ := str_lay ps h.2
    simp [PyData.canLayAll0, PyData.canLay0, PyData.depthAll, PyData.depth, h1, h2, h.1]
theorem str_shp (ps : List (List Nat)) (h : okS ps = true) : shp (.list (ps.map fun p => PyData.str ⟨p.toArray⟩)) = true := by
  obtain ⟨h1, h2⟩ := str_lay ps h
  simp [shp, SeqAt.shaped, PyData.canLay0, PyData.depth, h1, h2]
theorem eq_nil (S : Store) (L : Nat) (ps : List (List Nat)) (ok : okS ps = true) (h : S[L]? = some (.lst (ps.map .str))) : eqS S (.obj L) (.lst []) = some ps.isEmpty := by
  have e1 := str_shp ps ok
  have e2 := str_shp [] rfl
  cases ps with
  | nil =>
    simp only [eqS, pyS, pyD, h, pyL_str, pyL]
    rfl
  | cons p ps =>
    simp only [eqS, pyS, pyD, h, pyL_str, pyL, e1]
    rfl
end LP

set_option maxRecDepth 100000
namespace LP
open PySem L2 LN
theorem okS_erase (ps : List (List Nat)) (i : Nat) (h : okS ps = true) : okS (ps.eraseIdx i) = true := by
  simp only [okS, List.all_eq_true] at h ⊢
  exact fun p hp => h p (List.mem_of_mem_eraseIdx hp)
theorem map_erase {α β : Type} (g : α → β) : ∀ (xs : List α) (i : Nat), (xs.map g).eraseIdx i = (xs.eraseIdx i).map g
  | [], _ => rfl
  | _ :: _, 0 => rfl
  | _ :: xs, i + 1 => by simp [map_erase g xs i]
theorem perm_erase {α : Type} : ∀ (xs : List α) (i : Nat) (x : α), xs[i]? = some x → (x :: xs.eraseIdx i).Perm xs
  | y :: xs, 0, x, h => by simp at h; subst h; exact .refl _
  | y :: xs, i + 1, x, h => by
    have := perm_erase xs i x (by simpa using h)
    exact (List.Perm.swap y x _).trans (.cons y this)
  | [], _, _, h => by simp at h
theorem whl_turn (n j L F : Nat) (th : D) (n1 : j ≠ L) (n2 : j ≠ F) (n3 : L ≠ F) : ∀ (f : Nat) (ps qs : List (List Nat)) (S : Store) (b s : Int),
    ps.length < f → ps.length + qs.length < 1000 → okS ps = true → S[j]? = some (.lst [.int b, .int s]) → S[L]? = some (.lst (ps.map .str)) → S[F]? = some (.lst (qs.map .str)) →
    ∃ rs b1 s1 S1, whlN (tstT (tabN prog (n + 1))) (stpT (tabN prog (n + 1))) f (envT j L F th) S = some (.nx (envT j L F th) S1) ∧
      S1[F]? = some (.lst ((qs ++ rs).map .str)) ∧ rs.Perm ps ∧ S1[j]? = some (.lst [.int b1, .int s1]) ∧ S1.length = S.length
  | 0, ps, _, _, _, _, h0, _, _, _, _, _ => by omega
  | f + 1, [], qs, S, b, s, _, _, ok, hj, hL, hF => by
    refine ⟨[], b, s, S, ?_, by simpa using hF, .refl _, hj, rfl⟩
    rw [whlN, tst_turn _ j L F th S _ hL true (eq_nil S L [] ok hL)]
    rfl
  | f + 1, p :: ps, qs, S, b, s, h0, h1, ok, hj, hL, hF => by
    obtain ⟨y, hy, hs⟩ := stp_turn n j L F th S b s _ _ hj hL hF n1 n2 n3 (by simp) (by simp at h1 ⊢; omega) (by simp at h1 ⊢; omega)
    generalize hk : (tkV b s ((List.map D.str (p :: ps)).length : Int)).toNat = k at hy hs
    generalize hb : (D.int (tkB b ((List.map D.str (p :: ps)).length : Int))) = eb at hs
    rw [List.getElem?_map] at hy
    obtain ⟨z, hz, rfl⟩ := Option.map_eq_some_iff.mp hy
    have hkl : k < (p :: ps).length := (List.getElem?_eq_some_iff.mp hz).1
    rw [map_erase] at hs
    have lj := (List.getElem?_eq_some_iff.mp hj).1
    have lL := (List.getElem?_eq_some_iff.mp hL).1
    have lF := (List.getElem?_eq_some_iff.mp hF).1
    have le : ((p :: ps).eraseIdx k).length = ps.length := by rw [List.length_eraseIdx_of_lt hkl]; rfl
    subst hb
    have h0' : ((p :: ps).eraseIdx k).length < f := by rw [le]; simp at h0; omega
    have h1' : ((p :: ps).eraseIdx k).length + (qs ++ [z]).length < 1000 := by rw [le]; simp at h1 ⊢; omega
    obtain ⟨rs, b1, s1, S1, e1, e2, e3, e4, e5⟩ := whl_turn n j L F th n1 n2 n3 f ((p :: ps).eraseIdx k) (qs ++ [z])
      (((S.set j (.lst [.int (tkB b ((List.map D.str (p :: ps)).length : Int)), .int (tkS b s)])).set L (.lst (((p :: ps).eraseIdx k).map .str))).set F (.lst (qs.map .str ++ [.str z])))
      (tkB b ((List.map D.str (p :: ps)).length : Int)) (tkS b s) h0' h1' (okS_erase _ k ok)
      (by rw [List.getElem?_set_ne n2.symm, List.getElem?_set_ne n1.symm, List.getElem?_set_self lj])
      (by rw [List.getElem?_set_ne n3.symm, List.getElem?_set_self (by simpa using lL)])
      (by rw [List.getElem?_set_self (by simpa using lF)]; simp)
    refine ⟨z :: rs, b1, s1, S1, ?_, by simpa using e2, (List.Perm.cons z e3).trans (perm_erase _ k z hz), e4, by simpa using e5⟩
    rw [whlN, tst_turn _ j L F th S _ hL false (eq_nil S L (p :: ps) ok hL)]
    simp only [Bool.not_false, hs]
    exact e1
end LP

set_option maxRecDepth 100000
namespace LP
open PySem L2 LN
theorem turned_eq (n : Nat) (S : Store) (j : Nat) (b s : Int) (ps : List (List Nat)) (hj : S[j]? = some (.lst [.int b, .int s])) (hl : ps.length < 1000) (ok : okS ps = true) :
    ∃ (rs : List (List Nat)) (b1 s1 : Int) (S1 : Store), runF (tabN prog (n + 1)) D72 [.obj j, .lst (ps.map .str)] S = some (.obj (S.length + 1), S1) ∧
      S1[S.length + 1]? = some (.lst (rs.map .str)) ∧ rs.Perm ps ∧ S1[j]? = some (.lst [.int b1, .int s1]) := by
  have lj := (List.getElem?_eq_some_iff.mp hj).1
  obtain ⟨rs, b1, s1, S1, e1, e2, e3, e4, e5⟩ := whl_turn n j S.length (S.length + 1) (.lst (ps.map .str)) (by omega) (by omega) (by omega) 5000 ps [] (S ++ [.lst (ps.map .str)] ++ [.lst []]) b s (by omega) (by simpa using hl) ok
    (by rw [List.getElem?_append_left (by simp; omega), List.getElem?_append_left lj]; exact hj)
    (by rw [List.getElem?_append_left (by simp), List.getElem?_append_right (Nat.le_refl _)]; simp)
    (by rw [List.getElem?_append_right (by simp)]; simp)
  refine ⟨rs, b1, s1, S1, ?_, by simpa using e2, e3, e4⟩
  have e0 : runF (tabN prog (n + 1)) D72 [.obj j, .lst (ps.map .str)] S = match whlN (tstT (tabN prog (n + 1))) (stpT (tabN prog (n + 1))) 5000 (envT j S.length (S.length + 1) (.lst (ps.map .str))) (S ++ [.lst (ps.map .str)] ++ [.lst []]) with
      | some (.nx env S1) => (match env[3]? with
        | some (some d) => some (d, S1)
        | _ => none)
      | some (.rt d S1) => some (d, S1)
      | _ => none := by
    generalize hw : whlN (tstT (tabN prog (n + 1))) (stpT (tabN prog (n + 1))) 5000 (envT j S.length (S.length + 1) (.lst (ps.map .str))) (S ++ [.lst (ps.map .str)] ++ [.lst []]) = r
    have hw2 : ex (tabN prog (n + 1)) (B72.getD 1 .nev) (envT j S.length (S.length + 1) (.lst (ps.map .str))) (S ++ [.lst (ps.map .str)] ++ [.lst []]) = r := hw
    have h1 : ex (tabN prog (n + 1)) (B72.getD 0 .nev) (startD 4 [.obj j, .lst (ps.map .str)]) S = some (.nx (envT j S.length (S.length + 1) (.lst (ps.map .str))) (S ++ [.lst (ps.map .str)] ++ [.lst []])) := by
      simp [B72, List.getD, ex, evL, evE, startD, pb, seqD, newL, evP, szOk, setP, envT]
    have hb : B72 = [B72.getD 0 .nev, B72.getD 1 .nev, B72.getD 2 .nev] := rfl
    have hbd : D72.body = B72 := rfl
    have h3 : runF (tabN prog (n + 1)) D72 [.obj j, .lst (ps.map .str)] S = runB (tabN prog (n + 1)) D72 [.obj j, .lst (ps.map .str)] S := rfl
    have hnn : D72.nn = 4 := rfl
    have hnp : D72.np = 2 := rfl
    rw [h3]
    unfold runB
    rw [hbd, hb, hnn, hnp]
    simp only [exL, h1, hw2]
    cases r with
    | none => simp
    | some o =>
      cases o with
      | nx env S1 =>
        have h2 : B72.getD 2 .nev = .ret (.var 3) := rfl
        simp only [h2, ex, evE]
        cases env[3]? with
        | none => rfl
        | some x => cases x <;> rfl
      | rt d S1 => rfl
      | br env S1 => rfl
      | ct env S1 => rfl
  rw [e0, e1]
  rfl
end LP

set_option maxRecDepth 100000
namespace LP
open PySem L2 LN
theorem pb_mx (i j : Int) (S : Store) : pb .max [.int i, .int j] S = some (.v (.int (if j > i then j else i))) := rfl
theorem pb_mn (i j : Int) (S : Store) : pb .min [.int i, .int j] S = some (.v (.int (if j < i then j else i))) := rfl
theorem pb_ls (xs : List D) (S : Store) : pb .len [.scr xs] S = some (.v (.int xs.length)) := rfl
theorem p_pow (S : Store) : p2 .pow (.int 10) (.int 18) S = some (.int 1000000000000000000) := by simp [p2]
theorem p_ixs (xs : List D) (i : Int) (S : Store) : p2 .idx (.scr xs) (.int i) S = ixD xs i := rfl
def bigV (c : Int) : Int := if -1 - c > c then -1 - c else c
theorem pt1 (T : Tab) (x : D) (k c : Int) (S : Store) : ex T (B70.getD 2 .nev) [some x, some (.int k), some (.int c), none, none] S = some (.nx [some x, some (.int k), some (.int c), some (.int (bigV c)), none] S) := by
  simp [B70, List.getD, ex, evE, evL, p_sub, pb_int, pb_mx, setT, bigV]
theorem pt2 (T : Tab) (x : D) (k c b : Int) (S : Store) (h0 : 0 ≤ k) (h1 : k < 100000) : ex T (B70.getD 3 .nev) [some x, some (.int k), some (.int c), some (.int b), none] S = some (.nx [some x, some (.int k), some (.int c), some (.int b), some (.int (((b % 2147483629 + 7919 * k * k + 31 * k + 17) * 48271) % 2147483647))] S) := by
  have c1 : cmulB 7919 k = true := cmul_r _ _ (by omega) (by omega)
  have c2 : cmulB (7919 * k) k = true := cmul_r _ _ (by omega) (by omega)
  have c3 : cmulB 31 k = true := cmul_r _ _ (by omega) (by omega)
  have c4 : ∀ i, cmulB i 48271 = true := fun i => cmul_r _ _ (by decide) (by decide)
  simp [B70, List.getD, ex, evE, evL, pb_int, p_mod, p_mul, p_add, setT, c1, c2, c3, c4]
theorem pt3 (T : Tab) (x : D) (k c b m : Int) (S : Store) : ∃ b', ex T (B70.getD 4 .nev) [some x, some (.int k), some (.int c), some (.int b), some (.int m)] S = some (.rt (.obj S.length) (S ++ [.lst [.int b', .int m]])) := by
  have c5 : cmulB b 1 = true := cmul_r _ _ (by decide) (by decide)
  have c6 : cmulB b 0 = true := cmul_r _ _ (by decide) (by decide)
  by_cases hb : (1000000000000000000 : Int) ≤ b
  · refine ⟨b * 1, ?_⟩
    simp [B70, List.getD, ex, evE, evL, evP, pb_int, p_mul, p_ge, p_pow, pb_ib, szOk, newL, hb, c5]
  · refine ⟨b * 0, ?_⟩
    simp [B70, List.getD, ex, evE, evL, evP, pb_int, p_mul, p_ge, p_pow, pb_ib, szOk, newL, hb, c6]
theorem ex3 (T : Tab) (s1 s2 s3 : IS) (e1 e2 e3 : DEnv) (S S1 : Store) (d : D) (h1 : ex T s1 e1 S = some (.nx e2 S)) (h2 : ex T s2 e2 S = some (.nx e3 S)) (h3 : ex T s3 e3 S = some (.rt d S1)) : exL T [s1, s2, s3] e1 S = some (.rt d S1) := by
  simp only [exL, h1, h2, h3]
theorem pool_tail (T : Tab) (x : D) (k : Nat) (hk : k < 100000) (c : Int) (S : Store) : ∃ b s, exL T (B70.drop 2) [some x, some (.int k), some (.int c), none, none] S = some (.rt (.obj S.length) (S ++ [.lst [.int b, .int s]])) := by
  obtain ⟨b, hb⟩ := pt3 T x k c (bigV c) (((bigV c % 2147483629 + 7919 * (k : Int) * k + 31 * k + 17) * 48271) % 2147483647) S
  refine ⟨b, (((bigV c % 2147483629 + 7919 * (k : Int) * k + 31 * k + 17) * 48271) % 2147483647), ?_⟩
  have e : B70.drop 2 = [B70.getD 2 .nev, B70.getD 3 .nev, B70.getD 4 .nev] := rfl
  rw [e]
  exact ex3 T _ _ _ _ _ _ S _ _ (pt1 T x k c S) (pt2 T x k c (bigV c) S (by omega) (by omega)) hb
end LP

set_option maxRecDepth 100000
namespace LP
open PySem L2 LN
theorem runF_0 {T : Tab} {f : FD} {ds : List D} {S : Store} (hm : f.mode = 0) : runF T f ds S = if pureL ds then (match runB T f ds [] with
    | some (d, S1) => (match frz 0 S1 d with
      | some e => some (e, S)
      | none => none)
    | none => none) else none := by
  obtain ⟨m, np, nn, b, bk, lam⟩ := f
  have : m = 0 := hm
  subst this
  rfl
theorem run0 {T : Tab} {f : FD} {ds : List D} {d : D} (hm : f.mode = 0) (h : runF T f ds [] = some (d, [])) (S : Store) : runF T f ds S = some (d, S) := by
  rw [runF_0 hm] at h ⊢
  split at h
  · split at h
    · split at h
      · rename_i hp _ _ _ _ _ _ _
        simp at h
        simp [h, hp]
      · cases h
    · cases h
  · cases h
theorem okB_eq {r : Option (D × Store)} (h : okB r = true) : r = some (.bl true, []) := by
  unfold okB at h
  split at h
  · rfl
  · cases h
theorem fnAt {n f : Nat} {d : FD} (h : prog.fs f = some d) (ds : List D) (S : Store) : (tabN prog (n + 1)).fn f ds S = runF (tabN prog n) d ds S := by
  simp only [tabN, h]
theorem pool_eq (T : Tab) (ns : List Int) (k : Nat) (hk : k < 100000) (S : Store) : ∃ b s, runF T D70 [.scr (ns.map .int), .int k] S = some (.obj S.length, S ++ [.lst [.int b, .int s]]) := by
  have key : ∃ c : Int, ∀ o, exL T (B70.drop 2) [some (.scr (ns.map .int)), some (.int k), some (.int c), none, none] S = o → exL T B70 [some (.scr (ns.map .int)), some (.int k), none, none, none] S = o := by
    by_cases h : k < ns.length
    · refine ⟨ns[k], fun o ho => ?_⟩
      rw [← ho]
      have hb : B70 = B70.getD 0 .nev :: B70.getD 1 .nev :: B70.drop 2 := rfl
      rw [hb]
      have h1 : ex T (B70.getD 0 .nev) [some (.scr (ns.map .int)), some (.int k), none, none, none] S = some (.nx [some (.scr (ns.map .int)), some (.int k), some (.int 0), none, none] S) := rfl
      have h2 : ex T (B70.getD 1 .nev) [some (.scr (ns.map .int)), some (.int k), some (.int 0), none, none] S = some (.nx [some (.scr (ns.map .int)), some (.int k), some (.int ns[k]), none, none] S) := by
        simp [B70, List.getD, ex, exL, evE, evL, pb_ls, p_lt, p_ixs, ixD, setT, h]
      simp only [exL, h1, h2]
      rfl
    · refine ⟨0, fun o ho => ?_⟩
      rw [← ho]
      have hb : B70 = B70.getD 0 .nev :: B70.getD 1 .nev :: B70.drop 2 := rfl
      rw [hb]
      have h1 : ex T (B70.getD 0 .nev) [some (.scr (ns.map .int)), some (.int k), none, none, none] S = some (.nx [some (.scr (ns.map .int)), some (.int k), some (.int 0), none, none] S) := rfl
      have h2 : ex T (B70.getD 1 .nev) [some (.scr (ns.map .int)), some (.int k), some (.int 0), none, none] S = some (.nx [some (.scr (ns.map .int)), some (.int k), some (.int 0), none, none] S) := by
        simp [B70, List.getD, ex, exL, evE, evL, pb_ls, p_lt, p_ixs, ixD, setT, h]
      simp only [exL, h1, h2]
      rfl
  obtain ⟨c, hc⟩ := key
  obtain ⟨b, s, hs⟩ := pool_tail T (.scr (ns.map .int)) k hk c S
  refine ⟨b, s, ?_⟩
  have e := hc _ hs
  have h3 : runF T D70 [.scr (ns.map .int), .int k] S = match exL T B70 [some (.scr (ns.map .int)), some (.int k), none, none, none] S with
    | some (.rt d S1) => some (d, S1)
    | some (.nx _ S1) => some (.non, S1)
    | _ => none := rfl
  rw [h3, e]
theorem forL_inv {stp : D → DEnv → Store → Option O} {P : DEnv → Store → Prop} : ∀ (xs : List D) (env : DEnv) (S : Store), (∀ x ∈ xs, ∀ env S, P env S → ∃ env1 S1, stp x env S = some (.nx env1 S1) ∧ P env1 S1) → P env S → ∃ env1 S1, forL stp xs env S = some (.nx env1 S1) ∧ P env1 S1
  | [], env, S, _, h => ⟨env, S, rfl, h⟩
  | x :: xs, env, S, k, h => by
    obtain ⟨env1, S1, e1, h1⟩ := k x List.mem_cons_self env S h
    obtain ⟨env2, S2, e2, h2⟩ := forL_inv xs env1 S1 (fun y hy => k y (List.mem_cons_of_mem _ hy)) h1
    refine ⟨env2, S2, ?_, h2⟩
    rw [forL, e1]
    exact e2
theorem mem_rngD {x : D} : ∀ {n : Nat} {a : Int}, x ∈ rngD a n → ∃ k : Nat, x = .int (a + k) ∧ k < n
  | 0, a, h => by simp [rngD] at h
  | n + 1, a, h => by
    simp only [rngD, List.mem_cons] at h
    rcases h with rfl | h
    · exact ⟨0, by simp, by omega⟩
    · obtain ⟨k, rfl, hk⟩ := mem_rngD h
      exact ⟨k + 1, by congr 1; omega, by omega⟩
theorem cut3 (a b c d e : D) : cutD [a, b, c, d, e] none (some 3) = [a, b, c] := rfl
theorem pool_perm {rs : List (List Nat)} (h : rs.Perm pool5) : ∃ x y z u v, rs = [x, y, z, u, v] ∧ (x, y) ∈ pairs5 ∧ (x, y, z) ∈ trip5 := by
  have hl : rs.length = 5 := h.length_eq
  have hn : rs.Nodup := h.nodup_iff.mpr (by decide)
  match rs, hl, hn with
  | [x, y, z, u, v], _, hn =>
    have m : ∀ w ∈ [x, y, z, u, v], w ∈ pool5 := fun w hw => h.mem_iff.mp hw
    have mx := m x (by simp)
    have my := m y (by simp)
    have mz := m z (by simp)
    simp only [List.nodup_cons, List.mem_cons, List.not_mem_nil, or_false, not_or] at hn
    have hp : (x, y) ∈ pairs5 := by
      unfold pairs5
      rw [List.mem_flatMap]
      refine ⟨x, mx, ?_⟩
      rw [List.mem_map]
      exact ⟨y, List.mem_filter.mpr ⟨my, by simpa using fun e => hn.1.1 e.symm⟩, rfl⟩
    refine ⟨x, y, z, u, v, rfl, hp, ?_⟩
    unfold trip5
    rw [List.mem_flatMap]
    refine ⟨(x, y), hp, ?_⟩
    rw [List.mem_map]
    exact ⟨z, List.mem_filter.mpr ⟨mz, by simpa using ⟨fun e => hn.1.2.1 e.symm, fun e => hn.2.1.1 e.symm⟩⟩, rfl⟩
theorem a74 {x y : List Nat} (h : (x, y) ∈ pairs5) (S : Store) : (tabN prog 30).fn 74 [.str x, .str y] S = some (.bl true, S) := by
  have := okB_eq (List.all_eq_true.mp q74 _ h)
  rw [fnAt (d := D74) rfl] at this ⊢
  exact run0 rfl this S
theorem a75 {x y z : List Nat} (h : (x, y, z) ∈ trip5) (S : Store) : (tabN prog 30).fn 75 [.str x, .str y, .str z] S = some (.bl true, S) := by
  have := okB_eq (List.all_eq_true.mp q75 _ h)
  rw [fnAt (d := D75) rfl] at this ⊢
  exact run0 rfl this S
theorem a76 {x y : List Nat} (h : (x, y) ∈ pairs5) (S : Store) : (tabN prog 30).fn 76 [.str x, .str y] S = some (.bl true, S) := by
  have := okB_eq (List.all_eq_true.mp q76 _ h)
  rw [fnAt (d := D76) rfl] at this ⊢
  exact run0 rfl this S
theorem a77 {x y : List Nat} (h : (x, y) ∈ pairs5) (S : Store) : (tabN prog 30).fn 77 [.str x, .str y] S = some (.bl true, S) := by
  have := okB_eq (List.all_eq_true.mp q77 _ h)
  rw [fnAt (d := D77) rfl] at this ⊢
  exact run0 rfl this S
def inB : List IS := match B78 with
  | [.for _ _ _ [_, .for _ _ _ b], _] => b
  | _ => []
def env7 (scr : D) (j : Nat) (e1 e3 e4 e5 e6 : Option D) : DEnv := [some scr, e1, some (.obj j), e3, e4, e5, e6]
theorem inn (scr : D) (j : Nat) (e1 e3 e4 e5 e6 : Option D) (S : Store) (b s : Int) (hj : S[j]? = some (.lst [.int b, .int s])) :
    ∃ f4 f5 f6 S1 b1 s1, exL (tabN prog 30) inB (env7 scr j e1 e3 e4 e5 e6) S = some (.nx (env7 scr j e1 e3 f4 f5 f6) S1) ∧ S1[j]? = some (.lst [.int b1, .int s1]) := by
  obtain ⟨rs, b1, s1, S1, e, hF, hp, hj1⟩ := turned_eq 28 S j b s pool5 hj (by decide) (by decide +kernel)
  obtain ⟨x, y, z, u, v, rfl, hxy, hxyz⟩ := pool_perm hp
  refine ⟨some (.str x), some (.str y), some (.str z), S1, b1, s1, ?_, hj1⟩
  have hc : (tabN prog 30).fn 72 [.obj j, .lst (pool5.map .str)] S = some (.obj (S.length + 1), S1) := by
    rw [fnAt (d := D72) rfl]; exact e
  simp only [pool5, List.map_cons, List.map_nil] at hc hF
  have hl : lstD S1 (.obj (S.length + 1)) = some [.str x, .str y, .str z, .str u, .str v] := by
    simp only [lstD, hF]
  have hib : inB = [inB.getD 0 .nev, inB.getD 1 .nev, inB.getD 2 .nev] := rfl
  have h1 : ex (tabN prog 30) (inB.getD 0 .nev) (env7 scr j e1 e3 e4 e5 e6) S = some (.nx (env7 scr j e1 e3 (some (.str x)) (some (.str y)) (some (.str z))) S1) := by
    simp [inB, B78, List.getD, ex, evE, evL, evP, evO, szOk, env7, hc, hl, cut3, newL, setT, setTs, seqD]
  have h2 : ex (tabN prog 30) (inB.getD 1 .nev) (env7 scr j e1 e3 (some (.str x)) (some (.str y)) (some (.str z))) S1 = some (.nx (env7 scr j e1 e3 (some (.str x)) (some (.str y)) (some (.str z))) S1) := by
    simp [inB, B78, List.getD, ex, exL, evE, evL, env7, a74 hxy, a75 hxyz]
  have h3 : ex (tabN prog 30) (inB.getD 2 .nev) (env7 scr j e1 e3 (some (.str x)) (some (.str y)) (some (.str z))) S1 = some (.nx (env7 scr j e1 e3 (some (.str x)) (some (.str y)) (some (.str z))) S1) := by
    simp [inB, B78, List.getD, ex, exL, evE, evL, env7, a76 hxy, a77 hxy]
  rw [hib]
  simp only [exL, h1, h2, h3]
def outB : List IS := match B78 with
  | [.for _ _ _ b, _] => b
  | _ => []
def stpO (T : Tab) (b : List IS) (i : Nat) : D → DEnv → Store → Option O := fun x env2 S2 => match setT S2 (.nm i) x env2 with
  | some env3 => exL T b env3 S2
  | none => none
theorem out (ns : List Int) (k : Nat) (hk : k < 100000) (e1 e2 e3 e4 e5 e6 : Option D) (S : Store) :
    ∃ f1 f2 f3 f4 f5 f6 S1, stpO (tabN prog 30) outB 1 (.int k) [some (.scr (ns.map .int)), e1, e2, e3, e4, e5, e6] S = some (.nx [some (.scr (ns.map .int)), f1, f2, f3, f4, f5, f6] S1) := by
  obtain ⟨b, s, hp⟩ := pool_eq (tabN prog 29) ns k hk S
  have hc : (tabN prog 30).fn 70 [.scr (ns.map .int), .int k] S = some (.obj S.length, S ++ [.lst [.int b, .int s]]) := by
    rw [fnAt (d := D70) rfl]; exact hp
  have hob : outB = [outB.getD 0 .nev, outB.getD 1 .nev] := rfl
  have h1 : ex (tabN prog 30) (outB.getD 0 .nev) [some (.scr (ns.map .int)), some (.int k), e2, e3, e4, e5, e6] S = some (.nx (env7 (.scr (ns.map .int)) S.length (some (.int k)) e3 e4 e5 e6) (S ++ [.lst [.int b, .int s]])) := by
    simp [outB, B78, List.getD, ex, evE, evL, env7, hc, setT]
  have hfor : ∀ env S, ex (tabN prog 30) (outB.getD 1 .nev) env S = forL (stpO (tabN prog 30) inB 3) (rngD 0 3) env S := fun _ _ => rfl
  have h2 := forL_inv (stp := stpO (tabN prog 30) inB 3) (P := fun env S' => ∃ e3 e4 e5 e6, env = env7 (.scr (ns.map .int)) S.length (some (.int k)) e3 e4 e5 e6 ∧ ∃ b s, S'[S.length]? = some (.lst [.int b, .int s]))
    (rngD 0 3) (env7 (.scr (ns.map .int)) S.length (some (.int k)) e3 e4 e5 e6) (S ++ [.lst [.int b, .int s]]) (by
      rintro x hx env S' ⟨g3, g4, g5, g6, rfl, b', s', hj⟩
      obtain ⟨f4, f5, f6, S1, b1, s1, e, hj1⟩ := inn (.scr (ns.map .int)) S.length (some (.int k)) (some x) g4 g5 g6 S' b' s' hj
      exact ⟨_, S1, e, _, _, _, _, rfl, b1, s1, hj1⟩) ⟨e3, e4, e5, e6, rfl, b, s, by simp⟩
  obtain ⟨env1, S1, e, ⟨g3, g4, g5, g6, rfl, _⟩⟩ := h2
  refine ⟨some (.int k), some (.obj S.length), g3, g4, g5, g6, S1, ?_⟩
  show exL (tabN prog 30) outB [some (.scr (ns.map .int)), some (.int k), e2, e3, e4, e5, e6] S = _
  rw [hob]
  simp only [exL, h1, hfor, e]
  rfl
theorem pure_ints : ∀ ns : List Int, pureL (ns.map .int) = true
  | [] => rfl
  | _ :: ns => pure_ints ns
theorem law_eq (ns : List Int) : (tabN prog 31).fn lawIx [.scr (ns.map .int)] [] = some (.bl true, []) := by
  rw [show lawIx = 78 from rfl, fnAt (d := D78) rfl]
  have hr : ∃ m : Nat, m ≤ 3 ∧ ∀ env1, env1 = [some (.scr (ns.map .int)), none, none, none, none, none, none] → ex (tabN prog 30) (B78.getD 0 .nev) env1 [] = forL (stpO (tabN prog 30) outB 1) (rngD 0 m) env1 [] := by
    have hit : ∀ j : Int, j = (if (if (ns.length : Int) < 3 then (ns.length : Int) else 3) > 1 then (if (ns.length : Int) < 3 then (ns.length : Int) else 3) else 1) → 
        evL (tabN prog 30) [(.pb .max false [(.con (.int 1)),(.pb .min false [(.con (.int 3)),(.pb .len false [(.var 0)])])])] [some (.scr (ns.map .int)), none, none, none, none, none, none] [] = some ([.int j], []) := by
      intro j hj
      rw [hj]
      simp [evL, evE, pb_ls, pb_mx, pb_mn]
    generalize hjj : (if (if (ns.length : Int) < 3 then (ns.length : Int) else 3) > 1 then (if (ns.length : Int) < 3 then (ns.length : Int) else 3) else 1) = j at hit
    have hj3 : 1 ≤ j ∧ j ≤ 3 := by
      rw [← hjj]
      split <;> split at * <;> omega
    refine ⟨j.toNat, by omega, ?_⟩
    rintro env1 rfl
    have hs : srcD 1 [.int j] [] = some (.items (rngD 0 j.toNat)) := by
      show (if -100000 ≤ j ∧ j ≤ 100000 then some (Src.items (rngD 0 j.toNat)) else none) = _
      rw [if_pos (by omega)]
    have := hit j rfl
    have hb : B78.getD 0 .nev = .for (.nm 1) 1 [(.pb .max false [(.con (.int 1)),(.pb .min false [(.con (.int 3)),(.pb .len false [(.var 0)])])])] outB := rfl
    rw [hb]
    simp only [ex, this, hs, forS]
    rfl
  obtain ⟨m, hm, hr⟩ := hr
  obtain ⟨env1, S1, e, ⟨f1, f2, f3, f4, f5, f6, rfl⟩⟩ := forL_inv (stp := stpO (tabN prog 30) outB 1) (P := fun env S' => ∃ e1 e2 e3 e4 e5 e6, env = [some (.scr (ns.map .int)), e1, e2, e3, e4, e5, e6])
    (rngD 0 m) [some (.scr (ns.map .int)), none, none, none, none, none, none] [] (by
      rintro x hx env S' ⟨g1, g2, g3, g4, g5, g6, rfl⟩
      obtain ⟨k, rfl, hk⟩ := mem_rngD hx
      obtain ⟨f1, f2, f3, f4, f5, f6, S1, e⟩ := out ns k (by omega) g1 g2 g3 g4 g5 g6 S'
      rw [Int.zero_add]
      exact ⟨_, S1, e, f1, f2, f3, f4, f5, f6, rfl⟩) ⟨none, none, none, none, none, none, rfl⟩
  have h0 := hr _ rfl
  rw [e] at h0
  have hb : B78 = [B78.getD 0 .nev, .ret (.con (.bl true))] := rfl
  have h3 : runB (tabN prog 30) D78 [.scr (ns.map .int)] [] = match exL (tabN prog 30) B78 [some (.scr (ns.map .int)), none, none, none, none, none, none] [] with
    | some (.rt d S1) => some (d, S1)
    | some (.nx _ S1) => some (.non, S1)
    | _ => none := rfl
  have h4 : exL (tabN prog 30) B78 [some (.scr (ns.map .int)), none, none, none, none, none, none] [] = some (.rt (.bl true) S1) := by
    rw [hb]
    simp only [exL, h0]
    rfl
  rw [h4] at h3
  have hp : pureL [D.scr (ns.map .int)] = true := by
    show (pureL (ns.map .int) && true) = true
    rw [pure_ints]
    rfl
  have h5 : runF (tabN prog 30) D78 [.scr (ns.map .int)] [] = if pureL [D.scr (ns.map .int)] then match runB (tabN prog 30) D78 [.scr (ns.map .int)] [] with
      | some (d, S1) => match frz 0 S1 d with
        | some e => some (e, [])
        | none => none
      | none => none
    else none := rfl
  rw [h5, if_pos hp, h3]
  rfl
end LP

set_option Elab.async false
set_option linter.all false
set_option maxRecDepth 100000
set_option maxHeartbeats 1000000
namespace LN
open PySem L2
variable {W : WP} {B B' : Hp} {μ μ' : List Addr} {S S' : Store} {H H' : Hp} {c : Cn} {T : Tab} {mnm : Nat → Str} {k : Nat} {X : Cx}
theorem def_okI {s : Site} {p : Prog} {G : List (Str × GK)} {ad : Nat → Addr} (st : Stat W s p mnm G ad) {n : Nat} (all : ∀ g d, p.fs g = some d → FnT W s (2 * n) (ad g) d.np d.bk ((tabN p n).fn g)) (alv : ∀ g np F, p.fs g = none → p.nv g = some (np, F) → FnT W s (2 * n) (ad g) np .pl ((tabN p n).fn g)) (agn : ∀ f g, p.fs f = none → p.nv f = none → p.gs f = some g → GnT W s (2 * n) (ad f) g.np ((tabN p n).fn f))
    {f : Nat} {d : FD} (hf : p.fs f = some d) {x qual : Str} {params : Arguments} {body : List Stmt} {scope : Scope} {dvs : List V} {kws : List (Str × V)} {fd : FuncData} {N ps : List Str} (F : FunD s.K x qual params body scope dvs kws (ad f) fd) (SS : FnScope N ps scope) (hps : ps.length = d.np) (hN : N.length = d.nn) (snd : ∀ T k, SndSs ⟨N, scope, none, G, d.lam⟩ W T mnm k body d.body) :
    FnOk s.P s.w s.K s.mg s.base CX0 (2 * (n + 1)) (ad f) fd ps (spS W (fun ds S => if d.mode = 1 then none else runF (tabN p n) d ds S)) := by
  obtain ⟨oc, od, dV, kV, doc, pm, an, cdv, ct, osl, rfl, lk, hcd, hD, hKw⟩ := F.ex
  have hlen : ∀ ds S r, (if d.mode = 1 then none else runF (tabN p n) d ds S) = some r → ds.length = d.np := by
    intro ds S r e
    split at e
    · cases e
    · rename_i hm
      unfold runF at e
      split at e
      · split at e
        · split at e
          · rename_i x1 S1 e1
            unfold runB at e1
            split at e1
            · assumption
            · cases e1
          · cases e
        · cases e
      · rename_i q; exact absurd q hm
      · unfold runB at e
        split at e
        · assumption
        · cases e
  refine fn_of (k := 2 * n + 1) lk hcd SS ?_ ?_
  · rintro vs H Q E ⟨B, μ, S, ds, dd, S', r, hd, e, q⟩
    rw [← hd.length, hps]
    exact hlen _ _ _ e
  · rintro A outer sh H vs Q E hr ⟨B, μ, S, ds, dd, S', r, hd, e, q⟩
    have snd' := snd (tabN p n) (2 * n) (cxOf CX0 s.P s.w s.K s.mg s.base N qual scope (ad f) cdv A outer sh H E).nox (cxOk_of st all alv agn rfl rfl rfl rfl rfl rfl rfl (fun _ => rfl) SS.nd rfl hr rfl (fun hl => st.lam f d hf hl _ _ _ _ lk))
    refine ⟨_, snd'.nox, ?_⟩
    split at e
    · cases e
    · rename_i hm
      unfold runF at e
      split at e
      · dsimp only at e
        split at e
        · rename_i hp
          split at e
          · rename_i d1 S1 e1
            split at e
            · rename_i e2 ef
              cases e
              have r0 := r.empty
              refine body_ok (ev := fun _ _ => none) hN r0 (denL_pure ds vs hp hd) e1 fun B1 μ1 H1 v s1 r1 hv => ?_
              obtain ⟨s2, r2⟩ := pure_back r (Ex.refl _) (fun a ha => by simp at ha) s1 r1
              exact q _ _ _ v s2 r2 (den_nil (frz_ok r1 hv ef))
            · cases e
          · cases e
        · cases e
      · rename_i q'; exact absurd q' hm
      · exact body_ok (ev := fun _ _ => none) hN r hd e q
/-- the heap but for its tables -/
def noTb (H : Hp) : Hp := fun a => match H a with
  | some (.tbl _) => none
  | o => o
theorem noTb_ex (H : Hp) : Ex (noTb H) H := fun a o h => by
  unfold noTb at h
  split at h
  · cases h
  · exact h
theorem noTb_nt (H : Hp) : ∀ a ps, noTb H a ≠ some (.tbl ps) := fun a ps h => by
  unfold noTb at h
  split at h
  · cases h
  · rename_i q
    exact q _ h
theorem noTb_l {K : PySem.W.Frag} {H : Hp} {a : Addr} {xs : List V} (h : SqL K H a xs) : SqL K (noTb H) a xs := by
  rcases h with (h | ⟨o, h⟩) | h
  · exact .inl (.inl (by unfold noTb; rw [h]))
  · exact .inl (.inr ⟨o, by unfold noTb; rw [h]⟩)
  · exact .inr h
theorem rel_start {H : Hp} (ht : LamX.Tabs W.tbs H) : Rel W (noTb H) [] [] H := ⟨noTb_ex H, rfl, List.nodup_nil, fun i a c h => by simp at h, ht, noTb_nt H⟩
theorem denL_intsX {B : Hp} {μ : List Addr} : ∀ ns : List Int, DenL W B μ (ns.map .int) (ns.map V.int)
  | [] => .nil
  | n :: ns => .cons (.int n) (denL_intsX ns)
theorem sp_law {F : Spc} {H : Hp} {a : Addr} {ns : List Int} {S' : Store} (ht : LamX.Tabs W.tbs H) (hs : SqL W.K H a (ns.map V.int)) (hF : F [.scr (ns.map .int)] [] = some (.bl true, S')) : spS W F [.ref a] H (fun v _ => v = .bl true) fun _ _ _ => False :=
  ⟨noTb H, [], [], _, _, S', rel_start ht, .cons (.scr (noTb_l hs) (denL_intsX ns)) .nil, hF, fun B' μ' H' v _ _ h => by cases h; rfl⟩
theorem tabs_start {T : List (Addr × Str)} {H : Hp} (h : ∀ p ∈ T, H p.1 = some (.tbl #[])) : LamX.Tabs T H := fun p hp => ⟨#[], h p hp, True.intro, fun pos cv hc => by
  have z : codeAmong pos [] = some cv := hc
  simp [codeAmong] at z⟩
end LN

set_option Elab.async false
set_option linter.all false
set_option maxRecDepth 100000
set_option maxHeartbeats 0
namespace LP
open PySem PySem.Spec PyProof.Rows L2 LN
theorem noOne : NoOne prog := fun f d h => by
  have k : (fdL.all fun o => match o with | some d => d.mode != 1 | none => true) = true := by decide +kernel
  have := List.all_eq_true.mp k _ (List.mem_of_getElem? (fsAt h))
  simpa using this
theorem facts {P : Program} {w : World} {K : PySem.W.Frag} {h : Heap} {mg : Str → Option Value} {f : Addr} (KX : K.In h) (Gn : h.Ns mainGlobals mg) (hfa : mg ("law" : Str) = some (.ref f)) (cx : He.SaysX fa fn [] tf exB w h K) :
    ∃ (fd : FuncData) (cs : List (Addr × Addr)) (sp : Sp), (∀ p ∈ cs, h.get? p.2 = some { cls := .none, data := .fields #[] }) ∧ (∀ p ∈ cs, K.lookup p.2 = none) ∧ (∀ p ∈ cs, PySem.W.CodeHd h p.1 p.2) ∧ (∀ (s : Shared) (u : Value), BindsTo s fd ⟨[u], []⟩ [("_law_script", u)]) ∧
    (∀ (H : Hp) (a : Addr) (ns : List Int), ns.length ≤ 63 → (∀ z ∈ ns, Builtin.Int.intBits z ≤ 1048576) → (∀ p ∈ cs, H p.2 = some (.tbl #[])) → SqL K H a (ns.map V.int) → sp [.ref a] H (fun v _ => v = .bl true) fun _ _ _ => False) ∧
    ∀ base : Heap, K.In base → base.Ns mainGlobals mg → (∀ p ∈ cs, LamX.TabB base mg p.1 p.2) → FnOk P w K mg base CX0 62 f fd ["_law_script"] sp := by
  have c := cx.t.d
  obtain ⟨fd, F⟩ := c.def_ 65 (d := d78) rfl
  have hat : f = adK K 78 := by
    have hg : gQ K mg ("law" : Str) (.fn 78 1) := (gA c KX Gn).get (by rfl)
    have e := hfa.symm.trans hg.1
    cases e
    rfl
  subst hat
  refine ⟨fd, [He.cT K (("ordered" : PySem.Str), none)], spS (Wk K) (fun ds S => if D78.mode = 1 then none else runF (tabN prog 30) D78 ds S), ?_, ?_, ?_, ?_, ?_, ?_⟩
  · intro p hp
    simp only [List.mem_cons, List.not_mem_nil, or_false] at hp
    subst hp
    exact cx.empty _ List.mem_cons_self
  · intro p hp
    simp only [List.mem_cons, List.not_mem_nil, or_false] at hp
    subst hp
    exact cx.out _ List.mem_cons_self
  · intro p hp
    simp only [List.mem_cons, List.not_mem_nil, or_false] at hp
    subst hp
    exact PySem.W.codeHd_of_K KX (cx.hd _ List.mem_cons_self)
  · have b := FunD.bindsA (ps := ["_law_script"]) F fun _ _ _ _ _ _ us hl => match us, hl with | [_], _ => rfl
    exact fun s v => b s [v] rfl
  · intro H a ns _ _ hT hS
    refine sp_law (W := Wk K) (S' := []) (tabs_start fun p hp => ?_) hS ?_
    · simp only [Wk, tabs, List.mem_cons, List.not_mem_nil, or_false] at hp
      subst hp
      exact hT _ List.mem_cons_self
    · have e := law_eq ns
      rw [show lawIx = 78 from rfl, fnAt (d := D78) rfl] at e
      rw [if_neg (by decide)]
      exact e
  · intro base _ _ hTB
    have st := stat (P := P) (w := w) (base := base) cx KX Gn (hTB _ List.mem_cons_self)
    obtain ⟨a1, a2, a3⟩ := all_ok st noOne 30
    exact def_okI st a1 a2 a3 (f := 78) (d := D78) rfl F f78 rfl rfl fun T k => s78 (nmsOk K)
end LP
open PySem PySem.W PySem.Calls PyProof.Rows
set_option maxRecDepth 100000 in
set_option maxHeartbeats 0 in
theorem PySem.Challenge.cw_livenames_k09_known_terms_holds : PySem.Challenge.rw_livenames_k09_known_terms.Holds := by
  w_on; o_law
  refine HandSHeadRun.head_any (r := OpenLaw.row PySem.Challenge.rw_livenames_k09_known_terms) (q := view (OpenLaw.row PySem.Challenge.rw_livenames_k09_known_terms).prog [80]) (H := LP.hk) (ob := LP.ob) (M := 6000) (loose := LP.names) (d := HandSHeadRun.topDef (OpenLaw.row PySem.Challenge.rw_livenames_k09_known_terms).prog 80) (kwd := []) LP.ob_eq
    (by kernel_rfl) (fun s => by kernel_rfl) LP.run (by kernel_rfl) (by kernel_rfl) (by kernel_rfl) (by rfl) (by first | assumption | decide +kernel) (by decide +kernel) ⟨rfl, rfl, rfl, rfl, rfl, by decide +kernel⟩ ?hw ?hc
  case hw => w_witness2
  case hc =>
    refine LamX.walk_ofTsE (l := PySem.Challenge.rw_livenames_k09_known_terms) (n := 63) (k := 62) (x := "_law_script") (CX := fun _ => L2.CX0) rfl (by decide) (by kernel_rfl) ⟨rfl, by decide, by decide⟩ ?F (fun _ _ _ _ _ z => z)
    intro w mg fa h Y G hmg0
    obtain ⟨K, KX, c⟩ := Y
    have hmg : mg ("law" : PySem.Str) = some (.ref fa) := by
      have e : (HandSHeadRun.topDef (OpenLaw.row PySem.Challenge.rw_livenames_k09_known_terms).prog 80).name = ("law" : PySem.Str) := by kernel_rfl
      rw [← e]
      exact hmg0
    exact ⟨K, KX, LP.facts (P := (PySem.Challenge.rw_livenames_k09_known_terms).prog) (w := w) KX G hmg c⟩
