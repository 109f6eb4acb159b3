import PyProof.Rows.All
import Wide.All
import OpenK.AllK
import Wide.FinOn
import KE.KStateDown
import HandS.ForMost
import HandS.Defaults
import HandS.Head0
import HandS.Head1
import HandS.Head2
import HandS.HeadEnd
import HandS.HeadHook1
import HandS.HeadHook2
import HandS.HeadHook3
import HandS.HeadHook4
import HandS.HeadWalk
import HandS.Wide
import HandS.Star
import HandS.DictComp
import HandS.Conv
import HandS.NoneIn
import HandS.IsInst
import HandS.Lambda
import HandS.SortInts
import HandS.Small
import HandS.WordsDict
import PyProof.ListStr
import HandS.GenList
import HandS.Style
import KE.SortKeyHeap
import KE.KSortKey
import PySem.Challenge.RW_livenames_k14_whole_great_pools
set_option Elab.async false
set_option linter.all false
set_option maxRecDepth 100000
set_option maxHeartbeats 0
/-! #### Head -/
namespace Lv
open PySem PySem.Spec PyProof.Rows L2
/-! ### the text by places -/
def top (i : Nat) : Stmt := PySem.Challenge.pw_livenames_k14_whole_great_pools.main.body.getD i (.Pass ⟨0, 0, 0, 0⟩)
abbrev s_is_whole : Stmt := top 12
abbrev s_is_number : Stmt := top 13
abbrev s_is_name : Stmt := top 14
abbrev s_is_line : Stmt := top 15
abbrev s_are_unlike : Stmt := top 16
abbrev s_each_once : Stmt := top 17
abbrev s_ordered : Stmt := top 18
abbrev s_is_tree : Stmt := top 23
abbrev s_are_trees : Stmt := top 24
abbrev s_parts_of : Stmt := top 25
abbrev s_deep_of : Stmt := top 26
abbrev s_Flat_init : Stmt := inClass (top 27) 0
abbrev s_Flat_add : Stmt := inClass (top 27) 1
abbrev s_Term_init : Stmt := inClass (top 28) 0
abbrev s_Term_meant : Stmt := inClass (top 28) 1
abbrev s_look_at_term : Stmt := top 29
abbrev s_are_such_names : Stmt := top 31
abbrev s_look_at_names : Stmt := top 32
abbrev s_name_for : Stmt := top 33
abbrev s_inner : Stmt := top 34
abbrev s_catches_of : Stmt := top 35
abbrev s_is_right : Stmt := top 36
abbrev s_all_live : Stmt := top 38
abbrev s_in_line : Stmt := top 39
abbrev s_is_pool : Stmt := top 42
abbrev s_look_at_pool : Stmt := top 43
abbrev s_choices_for : Stmt := top 44
abbrev s_product : Stmt := top 45
abbrev s_how_many : Stmt := top 46
abbrev s_let_at : Stmt := top 47
abbrev s_naming_by : Stmt := top 48
abbrev s_all_namings : Stmt := top 49
abbrev s_naming_at : Stmt := top 50
abbrev s_is_from : Stmt := top 51
abbrev s_number_of : Stmt := top 52
abbrev s__law_pool : Stmt := top 54
abbrev s__law_take : Stmt := top 55
abbrev s__law_one : Stmt := top 56
abbrev s__law_turned : Stmt := top 57
abbrev s__law_unlike : Stmt := top 58
abbrev s__law_words : Stmt := top 59
abbrev s__law_leaf : Stmt := top 60
abbrev s__law_grown : Stmt := top 61
abbrev s__law_bound : Stmt := top 62
abbrev s__law_nested : Stmt := top 63
abbrev s__law_tree : Stmt := top 64
abbrev s__law_below : Stmt := top 65
abbrev s__law_spots : Stmt := top 66
abbrev s__law_page : Stmt := top 67
abbrev s__law_free : Stmt := top 68
abbrev s__law_in_order : Stmt := top 69
abbrev s__law_inside : Stmt := top 70
abbrev s__law_live : Stmt := top 71
abbrev s__law_all_live : Stmt := top 72
abbrev s__law_named : Stmt := top 73
abbrev s__law_wordlist : Stmt := top 74
abbrev s__law_right_naming : Stmt := top 75
abbrev s__law_product : Stmt := top 76
abbrev s__law_places : Stmt := top 77
abbrev s__law_first : Stmt := top 78
abbrev s_law : Stmt := top 79
/-! ### the defs, the facts -/
def d_is_whole : He.DefD := ⟨("is_whole", none), "is_whole", "is_whole", defArgs s_is_whole, defBody s_is_whole, defScope s_is_whole, [], []⟩
def d_is_number : He.DefD := ⟨("is_number", none), "is_number", "is_number", defArgs s_is_number, defBody s_is_number, defScope s_is_number, [], []⟩
def d_is_name : He.DefD := ⟨("is_name", none), "is_name", "is_name", defArgs s_is_name, defBody s_is_name, defScope s_is_name, [], []⟩
def d_is_line : He.DefD := ⟨("is_line", none), "is_line", "is_line", defArgs s_is_line, defBody s_is_line, defScope s_is_line, [], []⟩
def d_are_unlike : He.DefD := ⟨("are_unlike", none), "are_unlike", "are_unlike", defArgs s_are_unlike, defBody s_are_unlike, defScope s_are_unlike, [], []⟩
def d_each_once : He.DefD := ⟨("each_once", none), "each_once", "each_once", defArgs s_each_once, defBody s_each_once, defScope s_each_once, [], []⟩
def d_ordered : He.DefD := ⟨("ordered", none), "ordered", "ordered", defArgs s_ordered, defBody s_ordered, defScope s_ordered, [], []⟩
def d_is_tree : He.DefD := ⟨("is_tree", none), "is_tree", "is_tree", defArgs s_is_tree, defBody s_is_tree, defScope s_is_tree, [], []⟩
def d_are_trees : He.DefD := ⟨("are_trees", none), "are_trees", "are_trees", defArgs s_are_trees, defBody s_are_trees, defScope s_are_trees, [], []⟩
def d_parts_of : He.DefD := ⟨("parts_of", none), "parts_of", "parts_of", defArgs s_parts_of, defBody s_parts_of, defScope s_parts_of, [], []⟩
def d_deep_of : He.DefD := ⟨("deep_of", none), "deep_of", "deep_of", defArgs s_deep_of, defBody s_deep_of, defScope s_deep_of, [], []⟩
def d_Flat_init : He.DefD := ⟨("Flat", some "__init__"), "__init__", "Flat.__init__", defArgs s_Flat_init, defBody s_Flat_init, defScope s_Flat_init, [], []⟩
def d_Flat_add : He.DefD := ⟨("Flat", some "add"), "add", "Flat.add", defArgs s_Flat_add, defBody s_Flat_add, defScope s_Flat_add, [], []⟩
def d_Term_init : He.DefD := ⟨("Term", some "__init__"), "__init__", "Term.__init__", defArgs s_Term_init, defBody s_Term_init, defScope s_Term_init, [], []⟩
def d_Term_meant : He.DefD := ⟨("Term", some "meant"), "meant", "Term.meant", defArgs s_Term_meant, defBody s_Term_meant, defScope s_Term_meant, [], []⟩
def d_look_at_term : He.DefD := ⟨("look_at_term", none), "look_at_term", "look_at_term", defArgs s_look_at_term, defBody s_look_at_term, defScope s_look_at_term, [], []⟩
def d_are_such_names : He.DefD := ⟨("are_such_names", none), "are_such_names", "are_such_names", defArgs s_are_such_names, defBody s_are_such_names, defScope s_are_such_names, [], []⟩
def d_look_at_names : He.DefD := ⟨("look_at_names", none), "look_at_names", "look_at_names", defArgs s_look_at_names, defBody s_look_at_names, defScope s_look_at_names, [], []⟩
def d_name_for : He.DefD := ⟨("name_for", none), "name_for", "name_for", defArgs s_name_for, defBody s_name_for, defScope s_name_for, [], []⟩
def d_inner : He.DefD := ⟨("inner", none), "inner", "inner", defArgs s_inner, defBody s_inner, defScope s_inner, [], []⟩
def d_catches_of : He.DefD := ⟨("catches_of", none), "catches_of", "catches_of", defArgs s_catches_of, defBody s_catches_of, defScope s_catches_of, [], []⟩
def d_is_right : He.DefD := ⟨("is_right", none), "is_right", "is_right", defArgs s_is_right, defBody s_is_right, defScope s_is_right, [], []⟩
def d_all_live : He.DefD := ⟨("all_live", none), "all_live", "all_live", defArgs s_all_live, defBody s_all_live, defScope s_all_live, [], []⟩
def d_in_line : He.DefD := ⟨("in_line", none), "in_line", "in_line", defArgs s_in_line, defBody s_in_line, defScope s_in_line, [], []⟩
def d_is_pool : He.DefD := ⟨("is_pool", none), "is_pool", "is_pool", defArgs s_is_pool, defBody s_is_pool, defScope s_is_pool, [], []⟩
def d_look_at_pool : He.DefD := ⟨("look_at_pool", none), "look_at_pool", "look_at_pool", defArgs s_look_at_pool, defBody s_look_at_pool, defScope s_look_at_pool, [], []⟩
def d_choices_for : He.DefD := ⟨("choices_for", none), "choices_for", "choices_for", defArgs s_choices_for, defBody s_choices_for, defScope s_choices_for, [], []⟩
def d_product : He.DefD := ⟨("product", none), "product", "product", defArgs s_product, defBody s_product, defScope s_product, [], []⟩
def d_how_many : He.DefD := ⟨("how_many", none), "how_many", "how_many", defArgs s_how_many, defBody s_how_many, defScope s_how_many, [], []⟩
def d_let_at : He.DefD := ⟨("let_at", none), "let_at", "let_at", defArgs s_let_at, defBody s_let_at, defScope s_let_at, [], []⟩
def d_naming_by : He.DefD := ⟨("naming_by", none), "naming_by", "naming_by", defArgs s_naming_by, defBody s_naming_by, defScope s_naming_by, [], []⟩
def d_all_namings : He.DefD := ⟨("all_namings", none), "all_namings", "all_namings", defArgs s_all_namings, defBody s_all_namings, defScope s_all_namings, [], []⟩
def d_naming_at : He.DefD := ⟨("naming_at", none), "naming_at", "naming_at", defArgs s_naming_at, defBody s_naming_at, defScope s_naming_at, [], []⟩
def d_is_from : He.DefD := ⟨("is_from", none), "is_from", "is_from", defArgs s_is_from, defBody s_is_from, defScope s_is_from, [], []⟩
def d_number_of : He.DefD := ⟨("number_of", none), "number_of", "number_of", defArgs s_number_of, defBody s_number_of, defScope s_number_of, [], []⟩
def d__law_pool : He.DefD := ⟨("_law_pool", none), "_law_pool", "_law_pool", defArgs s__law_pool, defBody s__law_pool, defScope s__law_pool, [], []⟩
def d__law_take : He.DefD := ⟨("_law_take", none), "_law_take", "_law_take", defArgs s__law_take, defBody s__law_take, defScope s__law_take, [], []⟩
def d__law_one : He.DefD := ⟨("_law_one", none), "_law_one", "_law_one", defArgs s__law_one, defBody s__law_one, defScope s__law_one, [], []⟩
def d__law_turned : He.DefD := ⟨("_law_turned", none), "_law_turned", "_law_turned", defArgs s__law_turned, defBody s__law_turned, defScope s__law_turned, [], []⟩
def d__law_unlike : He.DefD := ⟨("_law_unlike", none), "_law_unlike", "_law_unlike", defArgs s__law_unlike, defBody s__law_unlike, defScope s__law_unlike, [], []⟩
def d__law_words : He.DefD := ⟨("_law_words", none), "_law_words", "_law_words", defArgs s__law_words, defBody s__law_words, defScope s__law_words, [], []⟩
def d__law_leaf : He.DefD := ⟨("_law_leaf", none), "_law_leaf", "_law_leaf", defArgs s__law_leaf, defBody s__law_leaf, defScope s__law_leaf, [], []⟩
def d__law_grown : He.DefD := ⟨("_law_grown", none), "_law_grown", "_law_grown", defArgs s__law_grown, defBody s__law_grown, defScope s__law_grown, [], []⟩
def d__law_bound : He.DefD := ⟨("_law_bound", none), "_law_bound", "_law_bound", defArgs s__law_bound, defBody s__law_bound, defScope s__law_bound, [], []⟩
def d__law_nested : He.DefD := ⟨("_law_nested", none), "_law_nested", "_law_nested", defArgs s__law_nested, defBody s__law_nested, defScope s__law_nested, [], []⟩
def d__law_tree : He.DefD := ⟨("_law_tree", none), "_law_tree", "_law_tree", defArgs s__law_tree, defBody s__law_tree, defScope s__law_tree, [], []⟩
def d__law_below : He.DefD := ⟨("_law_below", none), "_law_below", "_law_below", defArgs s__law_below, defBody s__law_below, defScope s__law_below, [], []⟩
def d__law_spots : He.DefD := ⟨("_law_spots", none), "_law_spots", "_law_spots", defArgs s__law_spots, defBody s__law_spots, defScope s__law_spots, [], []⟩
def d__law_page : He.DefD := ⟨("_law_page", none), "_law_page", "_law_page", defArgs s__law_page, defBody s__law_page, defScope s__law_page, [], []⟩
def d__law_free : He.DefD := ⟨("_law_free", none), "_law_free", "_law_free", defArgs s__law_free, defBody s__law_free, defScope s__law_free, [], []⟩
def d__law_in_order : He.DefD := ⟨("_law_in_order", none), "_law_in_order", "_law_in_order", defArgs s__law_in_order, defBody s__law_in_order, defScope s__law_in_order, [], []⟩
def d__law_inside : He.DefD := ⟨("_law_inside", none), "_law_inside", "_law_inside", defArgs s__law_inside, defBody s__law_inside, defScope s__law_inside, [], []⟩
def d__law_live : He.DefD := ⟨("_law_live", none), "_law_live", "_law_live", defArgs s__law_live, defBody s__law_live, defScope s__law_live, [], []⟩
def d__law_all_live : He.DefD := ⟨("_law_all_live", none), "_law_all_live", "_law_all_live", defArgs s__law_all_live, defBody s__law_all_live, defScope s__law_all_live, [], []⟩
def d__law_named : He.DefD := ⟨("_law_named", none), "_law_named", "_law_named", defArgs s__law_named, defBody s__law_named, defScope s__law_named, [], []⟩
def d__law_wordlist : He.DefD := ⟨("_law_wordlist", none), "_law_wordlist", "_law_wordlist", defArgs s__law_wordlist, defBody s__law_wordlist, defScope s__law_wordlist, [], []⟩
def d__law_right_naming : He.DefD := ⟨("_law_right_naming", none), "_law_right_naming", "_law_right_naming", defArgs s__law_right_naming, defBody s__law_right_naming, defScope s__law_right_naming, [], []⟩
def d__law_product : He.DefD := ⟨("_law_product", none), "_law_product", "_law_product", defArgs s__law_product, defBody s__law_product, defScope s__law_product, [], []⟩
def d__law_places : He.DefD := ⟨("_law_places", none), "_law_places", "_law_places", defArgs s__law_places, defBody s__law_places, defScope s__law_places, [], []⟩
def d__law_first : He.DefD := ⟨("_law_first", none), "_law_first", "_law_first", defArgs s__law_first, defBody s__law_first, defScope s__law_first, [], []⟩
def d_law : He.DefD := ⟨("law", none), "law", "law", defArgs s_law, defBody s_law, defScope s_law, [], []⟩
def fn0 : List He.DefD := [d_is_whole, d_is_number, d_is_name, d_is_line, d_are_unlike, d_each_once, d_ordered, d_is_tree, d_are_trees, d_parts_of, d_deep_of, d_Flat_init, d_Flat_add, d_Term_init, d_Term_meant, d_look_at_term, d_are_such_names, d_look_at_names, d_name_for, d_inner]
def fn1 : List He.DefD := [d_catches_of, d_is_right, d_all_live, d_in_line, d_is_pool, d_look_at_pool, d_choices_for, d_product, d_how_many, d_let_at, d_naming_by, d_all_namings, d_naming_at, d_is_from, d_number_of, d__law_pool, d__law_take, d__law_one, d__law_turned, d__law_unlike]
def fn2 : List He.DefD := [d__law_words, d__law_leaf, d__law_grown, d__law_bound, d__law_nested, d__law_tree, d__law_below, d__law_spots, d__law_page, d__law_free, d__law_in_order, d__law_inside, d__law_live, d__law_all_live, d__law_named, d__law_wordlist, d__law_right_naming, d__law_product, d__law_places, d__law_first]
def fn3 : List He.DefD := [d_law]
def fn : List He.DefD := fn0 ++ (fn1 ++ (fn2 ++ (fn3)))
def fa0 : List He.Fa := [.glo "is_whole", .glo "is_number", .glo "is_name", .glo "is_line", .glo "are_unlike", .glo "each_once", .glo "ordered", .glo "is_tree", .glo "are_trees", .glo "parts_of", .glo "deep_of", .glo "Flat", .glo "Term", .glo "look_at_term", .glo "are_such_names", .glo "look_at_names", .glo "name_for", .glo "inner", .glo "catches_of", .glo "is_right"]
def fa1 : List He.Fa := [.glo "all_live", .glo "in_line", .glo "is_pool", .glo "look_at_pool", .glo "choices_for", .glo "product", .glo "how_many", .glo "let_at", .glo "naming_by", .glo "all_namings", .glo "naming_at", .glo "is_from", .glo "number_of", .glo "_law_pool", .glo "_law_take", .glo "_law_one", .glo "_law_turned", .glo "_law_unlike", .glo "_law_words", .glo "_law_leaf"]
def fa2 : List He.Fa := [.glo "_law_grown", .glo "_law_bound", .glo "_law_nested", .glo "_law_tree", .glo "_law_below", .glo "_law_spots", .glo "_law_page", .glo "_law_free", .glo "_law_in_order", .glo "_law_inside", .glo "_law_live", .glo "_law_all_live", .glo "_law_named", .glo "_law_wordlist", .glo "_law_right_naming", .glo "_law_product", .glo "_law_places", .glo "_law_first", .glo "law", .free "len"]
def fa3 : List He.Fa := [.free "max", .free "min", .free "int", .free "isinstance", .free "list", .free "tuple", .free "all", .free "sorted", .free "zip", .free "enumerate", .free "range", .free "bool", .free "str", .free "super", .int "MOST_LETTERS" 8, .int "MOST_NODES" 400, .int "MOST_BINDERS" 60, .int "MOST_DEEP" 100, .int "MOST_POOL" 60, .str "LETTERS" "abcdefghijklmnopqrstuvwxyz"]
def fa4 : List He.Fa := [.cls "Flat", .mkr "Flat", .noat "Flat" "nodes", .noat "Flat" "around", .noat "Flat" "binder_nodes", .noat "Flat" "use_nodes", .cls "Term", .mkr "Term", .noat "Term" "own_tree", .noat "Term" "own_nodes", .noat "Term" "own_around", .noat "Term" "binder_nodes", .noat "Term" "use_nodes", .noat "Term" "own_names", .noat "Term" "use_around", .noat "Term" "own_meaning", .meth "Flat" "add", .meth "Term" "meant"]
def fa : List He.Fa := fa0 ++ (fa1 ++ (fa2 ++ (fa3 ++ (fa4))))
def factNames : Nat := 98
def exB (K : PySem.W.Frag) : Bool := decide (PySem.W.findIn K (.ref (He.ga K "Term")) "__class__" = some (some (.builtin "object.__class__"))) && (decide (PySem.W.specialIn K (.builtin "object.__class__") "__get__" = some (some (.builtin "getset_descriptor.__get__"))) &&
  (decide (PySem.W.takesIn K (.builtin "object.__class__") = some true) && (decide (PySem.W.mroIn K (He.ga K "Term") (.type "object") = some true) && decide (PySem.W.kitOne K (.ref (He.ga K "Term")) (.ref (He.ga K "Term")) = some true))))
def tf : List He.Defn := [("ordered", none), ("_law_in_order", none)]
/-- .. and the two lambdas' tables stand apart -/
def exC (K : PySem.W.Frag) : Bool := exB K && decide ((He.cT K ("ordered", none)).2 ≠ (He.cT K ("_law_in_order", none)).2)
abbrev R : PySem.W.OpenRow := PySem.W.OpenLaw.row PySem.Challenge.rw_livenames_k14_whole_great_pools
abbrev hk : PySem.W.Hook := He.hookX 4 fa fn [] tf exC
def ob (s : PySem.W.SharedT) : He.AlX := He.obsX 4 fa fn [] tf exC (HandSHeadRun.getT s)
theorem ob_eq (s : PySem.W.SharedT) : ob s = hk.obs s.abs := He.obsX_eq (HandSHeadRun.getT_eq s)
def namesL0 : List PySem.Str := ["_wall", "BinderError", "NoTerm", "NoNode", "NoNames", "NoPool", "NoNumber", "TooMany", "LETTERS", "MOST_LETTERS", "is_whole", "is_number", "is_name", "is_line", "are_unlike", "each_once", "ordered", "MOST_NODES", "MOST_BINDERS", "MOST_DEEP"]
def namesL1 : List PySem.Str := ["is_tree", "are_trees", "parts_of", "deep_of", "Flat", "Term", "look_at_term", "are_such_names", "look_at_names", "name_for", "inner", "catches_of", "is_right", "all_live", "in_line", "MOST_POOL", "is_pool", "look_at_pool", "choices_for", "product"]
def namesL2 : List PySem.Str := ["how_many", "let_at", "naming_by", "all_namings", "naming_at", "is_from", "number_of", "_law_pool", "_law_take", "_law_one", "_law_turned", "_law_unlike", "_law_words", "_law_leaf", "_law_grown", "_law_bound", "_law_nested", "_law_tree", "_law_below", "_law_spots"]
def namesL3 : List PySem.Str := ["_law_page", "_law_free", "_law_in_order", "_law_inside", "_law_live", "_law_all_live", "_law_named", "_law_wordlist", "_law_right_naming", "_law_product", "_law_places", "_law_first"]
def namesL : List PySem.Str := namesL0 ++ (namesL1 ++ (namesL2 ++ (namesL3)))
theorem run (w : World) : HandSHeadRun.RunEq R (PySem.W.view R.prog [79]) hk ob 6000 namesL w := by
  intro os
  kernel_rfl
end Lv
/-! #### Lay -/
/-! The data layer: readings of the hand layer, at the level of plain data. -/
namespace Lv
open PySem L2
abbrev Sl := List (Option V)
/-! ### knowledge of values -/
structure Mo where
  p : V → Hp → Prop
  mono : ∀ {v : V} {G G' : Hp}, Same G G' → p v G → p v G'
mutual
inductive Rep (G : Hp) : V → PyData → Prop
  | non : Rep G .non .none
  | bl (b : Bool) : Rep G (.bl b) (.bool b)
  | int (i : Int) : Rep G (.int i) (.int i)
  | str (x : Str) : Rep G (.str x) (.str x)
  | lst {a : Addr} {xs : List V} {ds : List PyData} : G a = some (.lst xs) → RepL G xs ds → Rep G (.ref a) (.list ds)
  | tup {a : Addr} {xs : List V} {ds : List PyData} : G a = some (.tup xs) → RepL G xs ds → Rep G (.ref a) (.tuple ds)
inductive RepL (G : Hp) : List V → List PyData → Prop
  | nil : RepL G [] []
  | cons {v : V} {vs : List V} {d : PyData} {ds : List PyData} : Rep G v d → RepL G vs ds → RepL G (v :: vs) (d :: ds)
end
mutual
theorem Rep.mono {G G' : Hp} (s : Same G G') : ∀ {v : V} {d : PyData}, Rep G v d → Rep G' v d
  | _, _, .non => .non
  | _, _, .bl b => .bl b
  | _, _, .int i => .int i
  | _, _, .str x => .str x
  | _, _, .lst h r => .lst (s _ _ h) (RepL.mono s r)
  | _, _, .tup h r => .tup (s _ _ h) (RepL.mono s r)
theorem RepL.mono {G G' : Hp} (s : Same G G') : ∀ {vs : List V} {ds : List PyData}, RepL G vs ds → RepL G' vs ds
  | _, _, .nil => .nil
  | _, _, .cons h t => .cons (Rep.mono s h) (RepL.mono s t)
end
mutual
theorem Rep.dp {K : PySem.W.Frag} {G : Hp} : ∀ {v : V} {d : PyData}, Rep G v d → Dp K G v d
  | _, _, .non => .non
  | _, _, .bl b => .bl b
  | _, _, .int i => .int i
  | _, _, .str x => .str x
  | _, _, .lst h r => .lst (SqL.of h) (RepL.dp r)
  | _, _, .tup h r => .tup (SqT.of h) (RepL.dp r)
theorem RepL.dp {K : PySem.W.Frag} {G : Hp} : ∀ {vs : List V} {ds : List PyData}, RepL G vs ds → DpAll K G vs ds
  | _, _, .nil => .nil
  | _, _, .cons h t => .cons (Rep.dp h) (RepL.dp t)
end
theorem RepL.length {G : Hp} : ∀ {vs : List V} {ds : List PyData}, RepL G vs ds → vs.length = ds.length
  | _, _, .nil => rfl
  | _, _, .cons _ t => congrArg (· + 1) (RepL.length t)
theorem RepL.get {G : Hp} : ∀ {vs : List V} {ds : List PyData} {i : Nat} {d : PyData}, RepL G vs ds → ds[i]? = some d → ∃ v, vs[i]? = some v ∧ Rep G v d
  | _, _, _, _, .nil, e => by simp at e
  | _, _, 0, _, .cons h _, e => by simp at e; subst e; exact ⟨_, rfl, h⟩
  | _, _, i + 1, d, .cons _ t, e => by
    obtain ⟨v, h1, h2⟩ := RepL.get (i := i) (d := d) t (by simpa using e)
    exact ⟨v, by simpa using h1, h2⟩
theorem RepL.getV {G : Hp} {vs : List V} {ds : List PyData} {i : Nat} {v : V} (r : RepL G vs ds) (e : vs[i]? = some v) : ∃ d, ds[i]? = some d ∧ Rep G v d := by
  have hi := (List.getElem?_eq_some_iff.mp e).1
  have hl := r.length
  obtain ⟨w, h1, h2⟩ := r.get (i := i) (d := ds[i]'(by omega)) (List.getElem?_eq_getElem _)
  rw [e] at h1
  cases h1
  exact ⟨_, List.getElem?_eq_getElem _, h2⟩
theorem RepL.append {G : Hp} : ∀ {vs us : List V} {ds es : List PyData}, RepL G vs ds → RepL G us es → RepL G (vs ++ us) (ds ++ es)
  | _, _, _, _, .nil, s => s
  | _, _, _, _, .cons h t, s => .cons h (RepL.append t s)
theorem RepL.one {G : Hp} {v : V} {d : PyData} (h : Rep G v d) : RepL G [v] [d] := .cons h .nil
theorem RepL.take {G : Hp} : ∀ {vs : List V} {ds : List PyData} (n : Nat), RepL G vs ds → RepL G (vs.take n) (ds.take n)
  | _, _, 0, _ => .nil
  | _, _, _ + 1, .nil => .nil
  | _, _, n + 1, .cons h t => .cons h (RepL.take n t)
theorem RepL.drop {G : Hp} : ∀ {vs : List V} {ds : List PyData} (n : Nat), RepL G vs ds → RepL G (vs.drop n) (ds.drop n)
  | _, _, 0, r => r
  | _, _, _ + 1, .nil => .nil
  | _, _, n + 1, .cons _ t => RepL.drop n t
theorem RepL.erase {G : Hp} : ∀ {vs : List V} {ds : List PyData} (n : Nat), RepL G vs ds → RepL G (vs.eraseIdx n) (ds.eraseIdx n)
  | _, _, _, .nil => .nil
  | _, _, 0, .cons _ t => t
  | _, _, n + 1, .cons h t => .cons h (RepL.erase n t)
theorem RepL.set {G : Hp} {v : V} {d : PyData} (h : Rep G v d) : ∀ {vs : List V} {ds : List PyData} (n : Nat), RepL G vs ds → RepL G (vs.set n v) (ds.set n d)
  | _, _, _, .nil => .nil
  | _, _, 0, .cons _ t => .cons h t
  | _, _, n + 1, .cons q t => .cons q (RepL.set h n t)
theorem RepL.ints {G : Hp} : ∀ {vs : List V} {ns : List Int}, RepL G vs (ns.map PyData.int) → vs = ns.map V.int
  | _, [], h => by cases h; rfl
  | _, n :: ns, h => by
    cases h with
    | cons h t =>
      cases h
      rw [RepL.ints t]
      rfl
theorem RepL.of_ints {G : Hp} : ∀ ns : List Int, RepL G (ns.map V.int) (ns.map PyData.int)
  | [] => .nil
  | n :: ns => .cons (.int n) (RepL.of_ints ns)
theorem RepL.strs {G : Hp} : ∀ {vs : List V} {ns : List Str}, RepL G vs (ns.map PyData.str) → vs = ns.map V.str
  | _, [], h => by cases h; rfl
  | _, n :: ns, h => by
    cases h with
    | cons h t =>
      cases h
      rw [RepL.strs t]
      rfl
theorem RepL.of_strs {G : Hp} : ∀ ns : List Str, RepL G (ns.map V.str) (ns.map PyData.str)
  | [] => .nil
  | n :: ns => .cons (.str n) (RepL.of_strs ns)
theorem RepL.bools {G : Hp} : ∀ {vs : List V} {ns : List Bool}, RepL G vs (ns.map PyData.bool) → vs = ns.map V.bl
  | _, [], h => by cases h; rfl
  | _, n :: ns, h => by
    cases h with
    | cons h t =>
      cases h
      rw [RepL.bools t]
      rfl
def Mo.d (d : PyData) : Mo := ⟨fun v G => Rep G v d, fun s h => h.mono s⟩
def Mo.adr (a : Addr) : Mo := ⟨fun v _ => v = .ref a, fun _ h => h⟩
def Mo.ty (n : String) : Mo := ⟨fun v _ => v = .ty n, fun _ h => h⟩
def Mo.any : Mo := ⟨fun _ _ => True, fun _ h => h⟩
abbrev MoAll (G : Hp) : List V → List Mo → Prop := Paired fun v (φ : Mo) => φ.p v G
theorem MoAll.mono {G G' : Hp} (s : Same G G') : ∀ {vs : List V} {φs : List Mo}, MoAll G vs φs → MoAll G' vs φs
  | _, _, .nil => .nil
  | _, _, .cons h t => .cons (Mo.mono _ s h) (MoAll.mono s t)
theorem MoAll.length {G : Hp} : ∀ {vs : List V} {φs : List Mo}, MoAll G vs φs → vs.length = φs.length
  | _, _, .nil => rfl
  | _, _, .cons _ t => congrArg (· + 1) (MoAll.length t)
theorem MoAll.of_rep {G : Hp} : ∀ {vs : List V} {ds : List PyData}, RepL G vs ds → MoAll G vs (ds.map Mo.d)
  | _, _, .nil => .nil
  | _, _, .cons h t => .cons h (MoAll.of_rep t)
theorem MoAll.rep {G : Hp} : ∀ {vs : List V} {ds : List PyData}, MoAll G vs (ds.map Mo.d) → RepL G vs ds
  | _, [], h => by cases h; exact .nil
  | _, d :: ds, h => by
    cases h with
    | cons h t => exact .cons h (MoAll.rep t)
theorem MoAll.get {G : Hp} : ∀ {vs : List V} {φs : List Mo} {i : Nat} {φ : Mo}, MoAll G vs φs → φs[i]? = some φ → ∃ v, vs[i]? = some v ∧ φ.p v G
  | _, _, _, _, .nil, e => by simp at e
  | _, _, 0, _, .cons h _, e => by simp at e; subst e; exact ⟨_, rfl, h⟩
  | _, _, i + 1, d, .cons _ t, e => by
    obtain ⟨v, h1, h2⟩ := MoAll.get (i := i) (φ := d) t (by simpa using e)
    exact ⟨v, by simpa using h1, h2⟩
theorem MoAll.append {G : Hp} : ∀ {vs us : List V} {φs ψs : List Mo}, MoAll G vs φs → MoAll G us ψs → MoAll G (vs ++ us) (φs ++ ψs)
  | _, _, _, _, .nil, s => s
  | _, _, _, _, .cons h t, s => .cons h (MoAll.append t s)
/-- a list of things -/
def Mo.ls (φs : List Mo) : Mo := ⟨fun v G => ∃ a xs, v = .ref a ∧ G a = some (.lst xs) ∧ MoAll G xs φs, fun s ⟨a, xs, e, h, r⟩ => ⟨a, xs, e, s _ _ h, r.mono s⟩⟩
/-- fields -/
def FsOk (G : Hp) : List (Str × V) → List (Str × Mo) → Prop := Paired fun p q => p.1 = q.1 ∧ q.2.p p.2 G
theorem FsOk.mono {G G' : Hp} (s : Same G G') : ∀ {vs : List (Str × V)} {φs : List (Str × Mo)}, FsOk G vs φs → FsOk G' vs φs
  | _, _, .nil => .nil
  | _, _, .cons h t => .cons ⟨h.1, Mo.mono _ s h.2⟩ (FsOk.mono s t)
theorem FsOk.length {G : Hp} : ∀ {vs : List (Str × V)} {φs : List (Str × Mo)}, FsOk G vs φs → vs.length = φs.length
  | _, _, .nil => rfl
  | _, _, .cons _ t => congrArg (· + 1) (FsOk.length t)
theorem FsOk.look {G : Hp} {f : Str} : ∀ {vs : List (Str × V)} {φs : List (Str × Mo)} {φ : Mo}, FsOk G vs φs → φs.lookup f = some φ → ∃ v, vs.lookup f = some v ∧ φ.p v G
  | _, _, _, .nil, e => by simp [List.lookup] at e
  | (g, v) :: vs, (g', ψ) :: φs, φ, .cons h t, e => by
    obtain ⟨h1, h2⟩ := h
    have h1' : g = g' := h1
    subst h1'
    simp only [List.lookup] at e ⊢
    cases hb : f == g with
    | true =>
      rw [hb] at e
      cases e
      exact ⟨v, rfl, h2⟩
    | false =>
      rw [hb] at e
      exact FsOk.look t e
theorem FsOk.lookN {G : Hp} {f : Str} : ∀ {vs : List (Str × V)} {φs : List (Str × Mo)}, FsOk G vs φs → φs.lookup f = none → vs.lookup f = none
  | _, _, .nil, _ => rfl
  | (g, v) :: vs, (g', ψ) :: φs, .cons h t, e => by
    obtain ⟨h1, h2⟩ := h
    have h1' : g = g' := h1
    subst h1'
    simp only [List.lookup] at e ⊢
    cases hb : f == g with
    | true =>
      rw [hb] at e
      cases e
    | false =>
      rw [hb] at e
      exact FsOk.lookN t e
def putM (f : Str) (φ : Mo) : List (Str × Mo) → List (Str × Mo)
  | [] => [(f, φ)]
  | (g, x) :: r => if g = f then (g, φ) :: r else (g, x) :: putM f φ r
theorem FsOk.put {G : Hp} {f : Str} {v : V} {φ : Mo} (hv : φ.p v G) : ∀ {vs : List (Str × V)} {φs : List (Str × Mo)}, FsOk G vs φs → FsOk G (putF f v vs) (putM f φ φs)
  | _, _, .nil => .cons ⟨rfl, hv⟩ .nil
  | (g, x) :: vs, (g', ψ) :: φs, .cons h t => by
    obtain ⟨h1, h2⟩ := h
    have h1' : g = g' := h1
    subst h1'
    unfold putF putM
    by_cases hg : g = f
    · rw [if_pos hg, if_pos hg]
      exact .cons ⟨rfl, hv⟩ t
    · rw [if_neg hg, if_neg hg]
      exact .cons ⟨rfl, h2⟩ (FsOk.put hv t)
def Mo.ins (C : Addr) (fs : List (Str × Mo)) : Mo := ⟨fun v G => ∃ a dx vs, v = .ref a ∧ G a = some (.ins C dx vs) ∧ FsOk G vs fs, fun s ⟨a, dx, vs, e, h, r⟩ => ⟨a, dx, vs, e, s _ _ h, r.mono s⟩⟩
/-! ### what may change -/
def plainO : HO → Bool
  | .lst _ => true
  | .dK _ => true
  | .ins _ _ _ => true
  | .frz _ _ => true
  | _ => false
theorem plainO.nt {o : HO} (h : plainO o = true) : ∀ ps, o ≠ .tbl ps := fun ps z => by subst z; cases h
theorem plainO.nc {o : HO} (h : plainO o = true) {c : Addr} {q : Str} : o ≠ LamX.CodeO c q := fun z => by
  unfold LamX.CodeO at z
  subst z
  cases h
structure Mu where
  p : HO → Hp → Prop
  mono : ∀ {o : HO} {G G' : Hp}, Same G G' → p o G → p o G'
  pl : ∀ {o : HO} {G : Hp}, p o G → plainO o = true
/-- a list of plain data -/
def Mu.dl (ds : List PyData) : Mu := ⟨fun o G => ∃ xs, o = .lst xs ∧ RepL G xs ds, fun s ⟨xs, e, r⟩ => ⟨xs, e, r.mono s⟩, fun ⟨xs, e, _⟩ => by rw [e]; rfl⟩
def Mu.ins (C : Addr) (fs : List (Str × Mo)) : Mu := ⟨fun o G => ∃ dx vs, o = .ins C dx vs ∧ FsOk G vs fs, fun s ⟨dx, vs, e, r⟩ => ⟨dx, vs, e, r.mono s⟩, fun ⟨_, _, e, _⟩ => by rw [e]; rfl⟩
/-- a dict -/
def KvOk (G : Hp) : List (Key × V) → List (Key × Mo) → Prop := Paired fun p q => p.1 = q.1 ∧ q.2.p p.2 G
theorem KvOk.mono {G G' : Hp} (s : Same G G') : ∀ {vs : List (Key × V)} {φs : List (Key × Mo)}, KvOk G vs φs → KvOk G' vs φs
  | _, _, .nil => .nil
  | _, _, .cons h t => .cons ⟨h.1, Mo.mono _ s h.2⟩ (KvOk.mono s t)
theorem KvOk.length {G : Hp} : ∀ {vs : List (Key × V)} {φs : List (Key × Mo)}, KvOk G vs φs → vs.length = φs.length
  | _, _, .nil => rfl
  | _, _, .cons _ t => congrArg (· + 1) (KvOk.length t)
def Mu.dk (kvs : List (Key × Mo)) : Mu := ⟨fun o G => ∃ xs, o = .dK xs ∧ KvOk G xs kvs, fun s ⟨xs, e, r⟩ => ⟨xs, e, r.mono s⟩, fun ⟨xs, e, _⟩ => by rw [e]; rfl⟩
/-- a list of anything known -/
def Mu.ml (φs : List Mo) : Mu := ⟨fun o G => ∃ xs, o = .lst xs ∧ MoAll G xs φs, fun s ⟨xs, e, r⟩ => ⟨xs, e, r.mono s⟩, fun ⟨xs, e, _⟩ => by rw [e]; rfl⟩
/-- a dict under a walk -/
def Mu.lk (od : Obj) (xs : List (Key × V)) (kvs : List (Key × Mo)) : Mu := ⟨fun o G => o = .frz od (.dK xs) ∧ KvOk G xs kvs, fun s ⟨e, r⟩ => ⟨e, r.mono s⟩, fun ⟨e, _⟩ => by rw [e]; rfl⟩
def Mo.dk (kvs : List (Key × Mo)) : Mo := ⟨fun v G => ∃ a xs, v = .ref a ∧ G a = some (.dK xs) ∧ KvOk G xs kvs, fun s ⟨a, xs, e, h, r⟩ => ⟨a, xs, e, s _ _ h, r.mono s⟩⟩
abbrev Rho := List (Option Mo)
abbrev Mus := List (Addr × Mu)
abbrev Tb := List (Addr × Str)
def EnvOk (G : Hp) (σ : Sl) (ρ : Rho) : Prop := σ.length = ρ.length ∧ ∀ (i : Nat) (φ : Mo), ρ[i]? = some (some φ) → ∃ v, σ[i]? = some (some v) ∧ φ.p v G
theorem EnvOk.mono {G G' : Hp} {σ : Sl} {ρ : Rho} (s : Same G G') (h : EnvOk G σ ρ) : EnvOk G' σ ρ := ⟨h.1, fun i φ e => let ⟨v, h1, h2⟩ := h.2 i φ e; ⟨v, h1, φ.mono s h2⟩⟩
theorem EnvOk.set {G : Hp} {σ : Sl} {ρ : Rho} {i : Nat} {v : V} {φ : Mo} (h : EnvOk G σ ρ) (hv : φ.p v G) : EnvOk G (σ.set i (some v)) (ρ.set i (some φ)) := by
  refine ⟨by rw [List.length_set, List.length_set, h.1], fun j ψ e => ?_⟩
  by_cases hj : i = j
  · subst hj
    by_cases hi : i < ρ.length
    · rw [List.getElem?_set_self hi] at e
      cases e
      exact ⟨v, by rw [List.getElem?_set_self (by rw [h.1]; exact hi)], hv⟩
    · rw [List.getElem?_eq_none (by rw [List.length_set]; omega)] at e
      cases e
  · rw [List.getElem?_set_ne hj] at e
    obtain ⟨u, h1, h2⟩ := h.2 j ψ e
    exact ⟨u, by rw [List.getElem?_set_ne hj]; exact h1, h2⟩
def wipeR (ρ : Rho) : List Nat → Rho
  | [] => ρ
  | v :: vs => (wipeR ρ vs).set v none
theorem EnvOk.forget {G : Hp} {σ : Sl} {ρ : Rho} {i : Nat} (h : EnvOk G σ ρ) : EnvOk G (σ.set i none) (ρ.set i none) := by
  refine ⟨by rw [List.length_set, List.length_set, h.1], fun j ψ e => ?_⟩
  by_cases hj : i = j
  · subst hj
    by_cases hi : i < ρ.length
    · rw [List.getElem?_set_self hi] at e
      cases e
    · rw [List.getElem?_eq_none (by rw [List.length_set]; omega)] at e
      cases e
  · rw [List.getElem?_set_ne hj] at e
    obtain ⟨u, h1, h2⟩ := h.2 j ψ e
    exact ⟨u, by rw [List.getElem?_set_ne hj]; exact h1, h2⟩
theorem EnvOk.wipe {G : Hp} {σ : Sl} {ρ : Rho} (h : EnvOk G σ ρ) : ∀ vs : List Nat, EnvOk G (wipe σ vs) (wipeR ρ vs)
  | [] => h
  | _ :: vs => (EnvOk.wipe h vs).forget
/-- less is known -/
def Less (ρ' ρ : Rho) : Prop := ρ'.length = ρ.length ∧ ∀ (i : Nat) (φ : Mo), ρ'[i]? = some (some φ) → ρ[i]? = some (some φ)
theorem EnvOk.less {G : Hp} {σ : Sl} {ρ ρ' : Rho} (h : EnvOk G σ ρ) (l : Less ρ' ρ) : EnvOk G σ ρ' := ⟨h.1.trans l.1.symm, fun i φ e => h.2 i φ (l.2 i φ e)⟩
structure Sta (T : Tb) (M : Mus) (G H : Hp) : Prop where
  sub : Same G H
  tab : LamX.Tabs T H
  tg : ∀ (a : Addr) (ps : Array Value), G a ≠ some (.tbl ps)
  nd : (M.map (·.1)).Nodup
  mu : ∀ e ∈ M, G e.1 = none ∧ ∃ o, H e.1 = some o ∧ e.2.p o G
/-- nothing stands there that is told of (a table of code at most) -/
def Blk (H : Hp) (a : Addr) : Prop := ∀ o, H a = some o → ∃ ps, o = HO.tbl ps
theorem blk_none {H : Hp} {a : Addr} (h : H a = none) : Blk H a := fun o e => by rw [h] at e; cases e
theorem Blk.no {H : Hp} {a : Addr} {o : HO} {C : Prop} (b : Blk H a) (e : H a = some o) (t : ∀ ps, o ≠ .tbl ps) : C := let ⟨ps, z⟩ := b o e; absurd z (t ps)
theorem blk_upd {H : Hp} {p : Addr} {o : HO} (h : H p = none) {a : Addr} (e : Blk (upd H p o) a) : Blk H a := by
  by_cases ha : a = p
  · rw [ha]; exact blk_none h
  · exact fun o' e' => e o' (by rw [upd_ne ha]; exact e')
structure Nx (W : List Addr) (G H G' H' : Hp) : Prop where
  g : Same G G'
  keep : ∀ a o, H a = some o → G a = none → a ∉ W → (∀ ps, o ≠ .tbl ps) → G' a = none ∧ H' a = some o
  dom : ∀ a, Blk H' a → Blk H a
def New (M : Mus) (H : Hp) (M' : Mus) : Prop := ∀ e ∈ M', e.1 ∈ M.map (·.1) ∨ Blk H e.1
theorem New.refl (M : Mus) (H : Hp) : New M H M := fun e h => .inl (List.mem_map_of_mem h)
theorem Nx.refl (W : List Addr) (G H : Hp) : Nx W G H G H := ⟨Same.refl G, fun _ _ h g _ _ => ⟨g, h⟩, fun _ h => h⟩
theorem Nx.mono {W W' : List Addr} {G H G' H' : Hp} (n : Nx W G H G' H') (h : ∀ a ∈ W, a ∈ W') : Nx W' G H G' H' := ⟨n.g, fun a o e g m t => n.keep a o e g (fun z => m (h a z)) t, n.dom⟩
/-- steps in a row -/
theorem Nx.trans {W W1 : List Addr} {G H G1 H1 G2 H2 : Hp} (a : Nx W G H G1 H1) (w : ∀ x ∈ W1, x ∈ W ∨ Blk H x) (b : Nx W1 G1 H1 G2 H2) : Nx W G H G2 H2 :=
  ⟨a.g.trans b.g, fun x o e g m t => by
    obtain ⟨g1, e1⟩ := a.keep x o e g m t
    exact b.keep x o e1 g1 (fun z => (w x z).elim m fun q => q.no e t) t, fun x h => a.dom x (b.dom x h)⟩
theorem New.trans {M M1 M2 : Mus} {G H G1 H1 : Hp} {W : List Addr} (a : New M H M1) (n : Nx W G H G1 H1) (b : New M1 H1 M2) : New M H M2 := fun e h => (b e h).elim (fun z => by
  obtain ⟨e1, h1, h2⟩ := List.mem_map.mp z
  rw [← h2]
  exact a e1 h1) fun z => .inr (n.dom _ z)
theorem New.mem {M M1 : Mus} {H : Hp} (n : New M H M1) : ∀ x ∈ M1.map (·.1), x ∈ M.map (·.1) ∨ Blk H x := fun x hx => by
  obtain ⟨e, h1, h2⟩ := List.mem_map.mp hx
  rw [← h2]
  exact n e h1
/-- a step that leaves all of M -/
theorem Sta.step {T : Tb} {M : Mus} {W : List Addr} {G H G' H' : Hp} (s : Sta T M G H) (n : Nx W G H G' H') (hw : ∀ x ∈ M.map (·.1), x ∉ W) (sub : Same G' H') (tab : LamX.Tabs T H') (tg : ∀ (a : Addr) (ps : Array Value), G' a ≠ some (.tbl ps)) : Sta T M G' H' :=
  ⟨sub, tab, tg, s.nd, fun e he => by
    obtain ⟨g, o, ho, p⟩ := s.mu e he
    obtain ⟨g', h'⟩ := n.keep e.1 o ho g (hw e.1 (List.mem_map_of_mem he)) (plainO.nt (e.2.pl p))
    exact ⟨g', o, h', e.2.mono n.g p⟩⟩
/-- no change at all -/
theorem Nx.same {G H : Hp} (M : Mus) : Nx (M.map (·.1)) G H G H := Nx.refl _ _ _
theorem same_upd {H : Hp} {p : Addr} {o : HO} (h : H p = none) : Same H (upd H p o) := fun b x e => by rw [upd_ne (ne_of_none e h)]; exact e
theorem sub_none {G H : Hp} (s : Same G H) {p : Addr} (h : H p = none) : G p = none := s.free h
theorem same_upd2 {G H : Hp} (s : Same G H) (p : Addr) (o : HO) : Same (upd G p o) (upd H p o) := fun b x e => by
  by_cases hb : b = p
  · subst hb
    rw [upd_same] at e ⊢
    exact e
  · rw [upd_ne hb] at e ⊢
    exact s b x e
theorem same_updH {G H : Hp} (s : Same G H) {p : Addr} (o : HO) (g : G p = none) : Same G (upd H p o) := fun b x e => by
  rw [upd_ne (ne_of_none e g)]
  exact s b x e
theorem tabs_upd {T : Tb} {H : Hp} {p : Addr} {o : HO} (t : LamX.Tabs T H) (h : H p = none) : LamX.Tabs T (upd H p o) := t.ext (same_upd h)
/-- a new object is laid, and frozen -/
theorem notbl_upd {G : Hp} {p : Addr} {o : HO} (h : ∀ (a : Addr) (ps : Array Value), G a ≠ some (.tbl ps)) (ho : ∀ ps, o ≠ .tbl ps) : ∀ (a : Addr) (ps : Array Value), upd G p o a ≠ some (.tbl ps) := fun a ps e => by
  by_cases ha : a = p
  · rw [ha, upd_same] at e
    exact ho ps (Option.some.inj e)
  · rw [upd_ne ha] at e
    exact h a ps e
theorem laid {T : Tb} {M : Mus} {G H : Hp} {p : Addr} {o : HO} (s : Sta T M G H) (h : H p = none) (ho : ∀ ps, o ≠ .tbl ps := by intro ps z; cases z) : Nx [] G H (upd G p o) (upd H p o) ∧ Sta T M (upd G p o) (upd H p o) := by
  have g := sub_none s.sub h
  have n : Nx [] G H (upd G p o) (upd H p o) := ⟨same_upd g, fun a x e ga _ _ => by
    have ha := ne_of_none e h
    rw [upd_ne ha, upd_ne ha]
    exact ⟨ga, e⟩, fun a e => blk_upd h e⟩
  refine ⟨n, s.step n (fun x _ z => by simp at z) (same_upd2 s.sub p o) (tabs_upd s.tab h) (notbl_upd s.tg ho)⟩
/-- a new object is laid, and may change -/
theorem laidM {T : Tb} {M : Mus} {G H : Hp} {p : Addr} {o : HO} {m : Mu} (s : Sta T M G H) (h : H p = none) (hm : m.p o G) : Nx [] G H G (upd H p o) ∧ Sta T (M ++ [(p, m)]) G (upd H p o) ∧ New M H (M ++ [(p, m)]) := by
  have g := sub_none s.sub h
  have n : Nx [] G H G (upd H p o) := ⟨Same.refl G, fun a x e ga _ _ => by
    have ha := ne_of_none e h
    rw [upd_ne ha]
    exact ⟨ga, e⟩, fun a e => blk_upd h e⟩
  have s1 := s.step n (fun x _ z => by simp at z) (same_updH s.sub o g) (tabs_upd s.tab h) s.tg
  refine ⟨n, ⟨s1.sub, s1.tab, s1.tg, ?_, fun e he => ?_⟩, fun e he => ?_⟩
  · rw [List.map_append, List.nodup_append]
    refine ⟨s.nd, by simp, fun x hx y hy z => ?_⟩
    obtain ⟨e, h1, h2⟩ := List.mem_map.mp hx
    obtain ⟨_, o', h3, _⟩ := s.mu e h1
    have hy' : y = p := by simpa using hy
    rw [h2, z, hy', h] at h3
    cases h3
  · rcases List.mem_append.mp he with he | he
    · exact s1.mu e he
    · rw [List.mem_singleton.mp he]
      exact ⟨g, o, upd_same, hm⟩
  · rcases List.mem_append.mp he with he | he
    · exact .inl (List.mem_map_of_mem he)
    · rw [List.mem_singleton.mp he]
      exact .inr (blk_none h)
theorem nodup_fst_ix {M : Mus} (nd : (M.map (·.1)).Nodup) {i j : Nat} {e f : Addr × Mu} (hi : M[i]? = some e) (hj : M[j]? = some f) (h : e.1 = f.1) : i = j := by
  have a : (M.map (·.1))[i]? = some e.1 := by rw [List.getElem?_map, hi] <;> rfl
  have b : (M.map (·.1))[j]? = some e.1 := by rw [List.getElem?_map, hj, h] <;> rfl
  exact nd_ix nd a b
theorem map_set_fst (M : Mus) (j : Nat) {p : Addr} {m m' : Mu} (hj : M[j]? = some (p, m)) : (M.set j (p, m')).map (·.1) = M.map (·.1) := by
  apply List.ext_getElem?
  intro i
  rw [List.getElem?_map, List.getElem?_map]
  by_cases hi : j = i
  · subst hi
    have hl := (List.getElem?_eq_some_iff.mp hj).1
    rw [List.getElem?_set_self hl, hj] <;> rfl
  · rw [List.getElem?_set_ne hi]
/-- the object at place j of M is written -/
theorem wrote {T : Tb} {M : Mus} {G H : Hp} {j : Nat} {p : Addr} {m m' : Mu} {o' : HO} (s : Sta T M G H) (hj : M[j]? = some (p, m)) (hm : m'.p o' G) :
    Nx (M.map (·.1)) G H G (upd H p o') ∧ Sta T (M.set j (p, m')) G (upd H p o') ∧ New M H (M.set j (p, m')) := by
  have hmem : (p, m) ∈ M := List.mem_of_getElem? hj
  obtain ⟨g, o, ho, hp⟩ := s.mu _ hmem
  have hW : p ∈ M.map (·.1) := List.mem_map_of_mem (f := (·.1)) hmem
  have ntb : ∀ ps, H p ≠ some (.tbl ps) := fun ps z => by
    rw [ho] at z
    exact plainO.nt (m.pl hp) ps (Option.some.inj z)
  refine ⟨⟨Same.refl G, fun a x e ga ha _ => ?_, fun a e => ?_⟩, ⟨same_updH s.sub o' g, fun q hq => ?_, s.tg, ?_, fun e he => ?_⟩, fun e he => .inl ?_⟩
  · rw [upd_ne (show a ≠ p from fun z => ha (z ▸ hW))]
    exact ⟨ga, e⟩
  · by_cases ha : a = p
    · rw [ha] at e
      exact e.no upd_same (plainO.nt (m'.pl hm))
    · exact fun o1 e1 => e o1 (by rw [upd_ne ha]; exact e1)
  · obtain ⟨ps, e1, e2, e3⟩ := s.tab q hq
    have hq1 : q.1 ≠ p := fun z => ntb ps (z ▸ e1)
    refine ⟨ps, by rw [upd_ne hq1]; exact e1, e2, fun pos cv hc => ?_⟩
    obtain ⟨c, h1, h2⟩ := e3 pos cv hc
    refine ⟨c, h1, ?_⟩
    by_cases hc2 : c = p
    · exfalso
      rw [hc2, ho] at h2
      exact plainO.nc (m.pl hp) (Option.some.inj h2)
    · rw [upd_ne hc2]; exact h2
  · rw [map_set_fst M j hj]; exact s.nd
  · obtain ⟨i, hi, e1⟩ := List.mem_iff_getElem.mp he
    have e1' : (M.set j (p, m'))[i]? = some e := by rw [List.getElem?_eq_getElem hi, e1]
    by_cases hij : j = i
    · subst hij
      rw [List.getElem?_set_self (List.getElem?_eq_some_iff.mp hj).1] at e1'
      cases e1'
      exact ⟨g, o', upd_same, hm⟩
    · rw [List.getElem?_set_ne hij] at e1'
      obtain ⟨g1, o1, h1, p1⟩ := s.mu e (List.mem_of_getElem? e1')
      have hne : e.1 ≠ p := fun z => hij (nodup_fst_ix s.nd hj e1' z.symm)
      exact ⟨g1, o1, by rw [upd_ne hne]; exact h1, p1⟩
  · have := List.mem_map_of_mem (f := (·.1)) he
    rw [map_set_fst M j hj] at this
    exact this
end Lv
/-! #### Jud -/
namespace Lv
open PySem L2 StX
/-! ### a step, packed -/
structure Po (T : Tb) (M : Mus) (G H : Hp) (M' : Mus) (G' H' : Hp) : Prop where
  nx : Nx (M.map (·.1)) G H G' H'
  st : Sta T M' G' H'
  nw : New M H M'
theorem Po.refl {T : Tb} {M : Mus} {G H : Hp} (s : Sta T M G H) : Po T M G H M G H := ⟨Nx.refl _ _ _, s, New.refl _ _⟩
theorem Po.trans {T : Tb} {M M1 M2 : Mus} {G H G1 H1 G2 H2 : Hp} (a : Po T M G H M1 G1 H1) (b : Po T M1 G1 H1 M2 G2 H2) : Po T M G H M2 G2 H2 :=
  ⟨a.nx.trans a.nw.mem b.nx, b.st, a.nw.trans a.nx b.nw⟩
theorem Po.g {T : Tb} {M M' : Mus} {G H G' H' : Hp} (a : Po T M G H M' G' H') : Same G G' := a.nx.g
theorem Po.laid {T : Tb} {M : Mus} {G H : Hp} {p : Addr} {o : HO} (s : Sta T M G H) (h : H p = none) (ho : ∀ ps, o ≠ .tbl ps := by intro ps z; cases z) : Po T M G H M (upd G p o) (upd H p o) :=
  let z := Lv.laid s h ho; ⟨z.1.mono (by simp), z.2, New.refl _ _⟩
theorem Po.laidM {T : Tb} {M : Mus} {G H : Hp} {p : Addr} {o : HO} {m : Mu} (s : Sta T M G H) (h : H p = none) (hm : m.p o G) : Po T M G H (M ++ [(p, m)]) G (upd H p o) :=
  let z := Lv.laidM s h hm; ⟨z.1.mono (by simp), z.2.1, z.2.2⟩
theorem Po.wrote {T : Tb} {M : Mus} {G H : Hp} {j : Nat} {p : Addr} {m m' : Mu} {o' : HO} (s : Sta T M G H) (hj : M[j]? = some (p, m)) (hm : m'.p o' G) : Po T M G H (M.set j (p, m')) G (upd H p o') :=
  let z := Lv.wrote s hj hm; ⟨z.1, z.2.1, z.2.2⟩
theorem Sta.at {T : Tb} {M : Mus} {G H : Hp} {j : Nat} {p : Addr} {m : Mu} (s : Sta T M G H) (hj : M[j]? = some (p, m)) : G p = none ∧ ∃ o, H p = some o ∧ m.p o G := s.mu _ (List.mem_of_getElem? hj)
/-! ### judgements: K is what is wanted at the level of data -/
abbrev Ks := Mo → Mus → Prop
def Ev (T : Tb) (te : TE) (ρ : Rho) (M : Mus) (K : Ks) : Prop := ∀ (σ : Sl) (G H : Hp), EnvOk G σ ρ → Sta T M G H → ∀ Q : VK, (∀ v φ M' G' H', K φ M' → φ.p v G' → Po T M G H M' G' H' → Q v H') → te σ H Q
def EvT (T : Tb) (tt : TT) (ρ : Rho) (M : Mus) (K : Bool → Mus → Prop) : Prop := ∀ (σ : Sl) (G H : Hp), EnvOk G σ ρ → Sta T M G H → ∀ Q : Bool → Hp → Prop, (∀ b M' G' H', K b M' → Po T M G H M' G' H' → Q b H') → tt σ H Q
def EvA (T : Tb) (ta : TA) (ρ : Rho) (M : Mus) (K : List Mo → Mus → Prop) : Prop := ∀ (σ : Sl) (G H : Hp), EnvOk G σ ρ → Sta T M G H → ∀ Q : List V → Hp → Prop, (∀ vs φs M' G' H', K φs M' → MoAll G' vs φs → Po T M G H M' G' H' → Q vs H') → ta σ H Q
def EvO (T : Tb) (tz : TO) (ρ : Rho) (M : Mus) (K : Option Int → Mus → Prop) : Prop := ∀ (σ : Sl) (G H : Hp), EnvOk G σ ρ → Sta T M G H → ∀ Q : Option Int → Hp → Prop, (∀ b M' G' H', K b M' → Po T M G H M' G' H' → Q b H') → tz σ H Q
/-- by values -/
def OpV (T : Tb) (r : R2) (φ ψ : Mo) (M : Mus) (K : Ks) : Prop := ∀ (x y : V) (G H : Hp), φ.p x G → ψ.p y G → Sta T M G H → ∀ Q : VK, (∀ v χ M' G' H', K χ M' → χ.p v G' → Po T M G H M' G' H' → Q v H') → r x y H Q
def UnV (T : Tb) (r : V → Hp → VK → Prop) (φ : Mo) (M : Mus) (K : Ks) : Prop := ∀ (x : V) (G H : Hp), φ.p x G → Sta T M G H → ∀ Q : VK, (∀ v χ M' G' H', K χ M' → χ.p v G' → Po T M G H M' G' H' → Q v H') → r x H Q
def CbV (T : Tb) (r : List V → Hp → VK → Prop) (φs : List Mo) (M : Mus) (K : Ks) : Prop := ∀ (xs : List V) (G H : Hp), MoAll G xs φs → Sta T M G H → ∀ Q : VK, (∀ v χ M' G' H', K χ M' → χ.p v G' → Po T M G H M' G' H' → Q v H') → r xs H Q
section
variable {T : Tb} {ρ : Rho} {M : Mus} {K : Ks} {ta tb tc te : TE} {t u : TT} {φ ψ : Mo} {KB : Bool → Mus → Prop} {KA : List Mo → Mus → Prop}
theorem Ev.imp {K' : Ks} (h : Ev T te ρ M K) (k : ∀ φ M', K φ M' → K' φ M') : Ev T te ρ M K' := fun σ G H e s Q q => h σ G H e s Q fun v φ M' G' H' a b c => q v φ M' G' H' (k _ _ a) b c
/-! ### expressions -/
theorem ev_var {i : Nat} (h : ρ[i]? = some (some φ)) (k : K φ M) : Ev T (tVar i) ρ M K := fun σ G H e s Q q => by
  obtain ⟨v, h1, h2⟩ := e.2 i φ h
  exact ⟨v, h1, q v φ M G H k h2 (Po.refl s)⟩
theorem ev_c {v : V} (h : ∀ G, φ.p v G) (k : K φ M) : Ev T (tC v) ρ M K := fun σ G H e s Q q => q v φ M G H k (h G) (Po.refl s)
theorem ev_int {i : Int} (k : K (Mo.d (.int i)) M) : Ev T (tC (.int i)) ρ M K := ev_c (fun _ => Rep.int i) k
theorem ev_str {x : Str} (k : K (Mo.d (.str x)) M) : Ev T (tC (.str x)) ρ M K := ev_c (fun _ => Rep.str x) k
theorem ev_bl {b : Bool} (k : K (Mo.d (.bool b)) M) : Ev T (tC (.bl b)) ρ M K := ev_c (fun _ => Rep.bl b) k
theorem ev_non (k : K (Mo.d .none) M) : Ev T (tC .non) ρ M K := ev_c (fun _ => Rep.non) k
theorem ev_ty {n : String} (k : K (Mo.ty n) M) : Ev T (tC (.ty n)) ρ M K := ev_c (fun _ => rfl) k
theorem ev_cls {a : Addr} (k : K (Mo.adr a) M) : Ev T (tC (.ref a)) ρ M K := ev_c (fun _ => rfl) k
theorem ev_op {r : R2} (h : Ev T ta ρ M fun φ M1 => Ev T tb ρ M1 fun ψ M2 => OpV T r φ ψ M2 K) : Ev T (tOp r ta tb) ρ M K := fun σ G H e s Q q =>
  h σ G H e s _ fun x φ M1 G1 H1 k1 p1 n1 => k1 σ G1 H1 (e.mono n1.g) n1.st _ fun y ψ M2 G2 H2 k2 p2 n2 =>
    k2 x y G2 H2 (φ.mono n2.g p1) p2 n2.st Q fun v χ M3 G3 H3 k3 p3 n3 => q v χ M3 G3 H3 k3 p3 (n1.trans (n2.trans n3))
theorem ev_un {r : V → Hp → VK → Prop} (h : Ev T ta ρ M fun φ M1 => UnV T r φ M1 K) : Ev T (tUn r ta) ρ M K := fun σ G H e s Q q =>
  h σ G H e s _ fun x φ M1 G1 H1 k1 p1 n1 => k1 x G1 H1 p1 n1.st Q fun v χ M3 G3 H3 k3 p3 n3 => q v χ M3 G3 H3 k3 p3 (n1.trans n3)
theorem ev_ifE (h : EvT T t ρ M fun b M1 => if b = true then Ev T ta ρ M1 K else Ev T tb ρ M1 K) : Ev T (tIf t ta tb) ρ M K := fun σ G H e s Q q =>
  h σ G H e s _ fun b M1 G1 H1 k1 n1 => by
    cases b with
    | true =>
      show ta σ H1 Q
      exact (show Ev T ta ρ M1 K from k1) σ G1 H1 (e.mono n1.g) n1.st Q fun v χ M3 G3 H3 k3 p3 n3 => q v χ M3 G3 H3 k3 p3 (n1.trans n3)
    | false =>
      show tb σ H1 Q
      exact (show Ev T tb ρ M1 K from k1) σ G1 H1 (e.mono n1.g) n1.st Q fun v χ M3 G3 H3 k3 p3 n3 => q v χ M3 G3 H3 k3 p3 (n1.trans n3)
theorem rep_bool {v : V} {G : Hp} {b : Bool} (h : (Mo.d (.bool b)).p v G) : v = .bl b := by
  cases (show Rep G v (.bool b) from h)
  rfl
theorem rep_int {v : V} {G : Hp} {b : Int} (h : (Mo.d (.int b)).p v G) : v = .int b := by
  cases (show Rep G v (.int b) from h)
  rfl
theorem rep_str {v : V} {G : Hp} {b : Str} (h : (Mo.d (.str b)).p v G) : v = .str b := by
  cases (show Rep G v (.str b) from h)
  rfl
theorem rep_non {v : V} {G : Hp} (h : (Mo.d .none).p v G) : v = .non := by
  cases (show Rep G v .none from h)
  rfl
theorem rep_list {v : V} {G : Hp} {ds : List PyData} (h : (Mo.d (.list ds)).p v G) : ∃ a xs, v = .ref a ∧ G a = some (.lst xs) ∧ RepL G xs ds := by
  cases (show Rep G v (.list ds) from h) with
  | lst h1 h2 => exact ⟨_, _, rfl, h1, h2⟩
theorem rep_tup {v : V} {G : Hp} {ds : List PyData} (h : (Mo.d (.tuple ds)).p v G) : ∃ a xs, v = .ref a ∧ G a = some (.tup xs) ∧ RepL G xs ds := by
  cases (show Rep G v (.tuple ds) from h) with
  | tup h1 h2 => exact ⟨_, _, rfl, h1, h2⟩
/-! ### tests -/
theorem et_test (h : Ev T te ρ M fun φ M1 => ∃ b, φ = Mo.d (.bool b) ∧ KB b M1) : EvT T (tTest te) ρ M KB := fun σ G H e s Q q =>
  h σ G H e s _ fun x φ M1 G1 H1 k1 p1 n1 => by
    obtain ⟨b, rfl, k⟩ := k1
    exact ⟨b, rep_bool p1, q b M1 G1 H1 k n1⟩
theorem et_B (h : Ev T te ρ M fun φ M1 => ∃ b, φ = Mo.d (.bool b) ∧ KB b M1) : EvT T (tB te) ρ M KB := fun σ G H e s Q q =>
  h σ G H e s _ fun x φ M1 G1 H1 k1 p1 n1 => by
    obtain ⟨b, rfl, k⟩ := k1
    exact ⟨b, rep_bool p1, q b M1 G1 H1 k n1⟩
theorem et_and (h : EvT T t ρ M fun b M1 => if b = true then EvT T u ρ M1 KB else KB false M1) : EvT T (tAnd t u) ρ M KB := fun σ G H e s Q q =>
  h σ G H e s _ fun b M1 G1 H1 k1 n1 => by
    cases b with
    | true =>
      show u σ H1 Q
      exact (show EvT T u ρ M1 KB from k1) σ G1 H1 (e.mono n1.g) n1.st Q fun b M3 G3 H3 k3 n3 => q b M3 G3 H3 k3 (n1.trans n3)
    | false =>
      show Q false H1
      exact q false M1 G1 H1 k1 n1
theorem et_or (h : EvT T t ρ M fun b M1 => if b = true then KB true M1 else EvT T u ρ M1 KB) : EvT T (tOr t u) ρ M KB := fun σ G H e s Q q =>
  h σ G H e s _ fun b M1 G1 H1 k1 n1 => by
    cases b with
    | true =>
      show Q true H1
      exact q true M1 G1 H1 k1 n1
    | false =>
      show u σ H1 Q
      exact (show EvT T u ρ M1 KB from k1) σ G1 H1 (e.mono n1.g) n1.st Q fun b M3 G3 H3 k3 n3 => q b M3 G3 H3 k3 (n1.trans n3)
theorem et_not (h : EvT T t ρ M fun b M1 => KB (!b) M1) : EvT T (tNot t) ρ M KB := fun σ G H e s Q q => h σ G H e s _ fun b M1 G1 H1 k1 n1 => q (!b) M1 G1 H1 k1 n1
theorem et_yes (k : KB true M) : EvT T tYes ρ M KB := fun σ G H e s Q q => q true M G H k (Po.refl s)
/-! ### and, or, not as values -/
theorem ev_andV (h : Ev T ta ρ M fun φ M1 => ∃ b, φ = Mo.d (.bool b) ∧ if b = true then Ev T tb ρ M1 K else K (Mo.d (.bool false)) M1) : Ev T (tAndV ta tb) ρ M K := fun σ G H e s Q q =>
  h σ G H e s _ fun x φ M1 G1 H1 k1 p1 n1 => by
    obtain ⟨b, rfl, k⟩ := k1
    refine ⟨b, rep_bool p1, ?_⟩
    cases b with
    | true =>
      show tb σ H1 Q
      exact (show Ev T tb ρ M1 K from k) σ G1 H1 (e.mono n1.g) n1.st Q fun v χ M3 G3 H3 k3 p3 n3 => q v χ M3 G3 H3 k3 p3 (n1.trans n3)
    | false =>
      show Q (.bl false) H1
      exact q _ _ M1 G1 H1 k (Rep.bl false) n1
theorem ev_notV (h : Ev T ta ρ M fun φ M1 => ∃ b, φ = Mo.d (.bool b) ∧ K (Mo.d (.bool (!b))) M1) : Ev T (tNotV ta) ρ M K := fun σ G H e s Q q =>
  h σ G H e s _ fun x φ M1 G1 H1 k1 p1 n1 => by
    obtain ⟨b, rfl, k⟩ := k1
    exact ⟨b, rep_bool p1, q _ _ M1 G1 H1 k (Rep.bl (!b)) n1⟩
/-- a op b op' c -/
theorem ev_chain {r r' : R2} (h : Ev T ta ρ M fun φ M1 => Ev T tb ρ M1 fun ψ M2 => OpV T r φ ψ M2 fun χ M3 => ∃ b, χ = Mo.d (.bool b) ∧ if b = true then Ev T tc ρ M3 fun ω M4 => OpV T r' ψ ω M4 K else K (Mo.d (.bool false)) M3) :
    Ev T (tChain r r' ta tb tc) ρ M K := fun σ G H e s Q q =>
  h σ G H e s _ fun x φ M1 G1 H1 k1 p1 n1 => k1 σ G1 H1 (e.mono n1.g) n1.st _ fun y ψ M2 G2 H2 k2 p2 n2 =>
    k2 x y G2 H2 (φ.mono n2.g p1) p2 n2.st _ fun v χ M3 G3 H3 k3 p3 n3 => by
      obtain ⟨b, rfl, k⟩ := k3
      refine ⟨b, rep_bool p3, ?_⟩
      have n03 := n1.trans (n2.trans n3)
      cases b with
      | true =>
        refine iteT ?_
        exact (show Ev T tc ρ M3 fun ω M4 => OpV T r' ψ ω M4 K from k) σ G3 H3 (e.mono n03.g) n03.st _ fun z ω M4 G4 H4 k4 p4 n4 =>
          k4 y z G4 H4 (ψ.mono (n3.g.trans n4.g) p2) p4 n4.st Q fun v χ M5 G5 H5 k5 p5 n5 => q v χ M5 G5 H5 k5 p5 (n03.trans (n4.trans n5))
      | false =>
        refine iteF ?_
        exact q _ _ M3 G3 H3 k (Rep.bl false) n03
/-! ### argument lists -/
theorem ea_nil (k : KA [] M) : EvA T tNil ρ M KA := fun σ G H e s Q q => q [] [] M G H k .nil (Po.refl s)
theorem ea_cons {tr : TA} (h : Ev T te ρ M fun φ M1 => EvA T tr ρ M1 fun φs M2 => KA (φ :: φs) M2) : EvA T (tCons te tr) ρ M KA := fun σ G H e s Q q =>
  h σ G H e s _ fun x φ M1 G1 H1 k1 p1 n1 => k1 σ G1 H1 (e.mono n1.g) n1.st _ fun xs φs M2 G2 H2 k2 p2 n2 => q (x :: xs) (φ :: φs) M2 G2 H2 k2 (.cons (φ.mono n2.g p1) p2) (n1.trans n2)
/-- *e, .. -/
theorem ea_star {K0 : PySem.W.Frag} {tr : TA} (h : Ev T te ρ M fun φ M1 => ∃ ds : List PyData, (φ = Mo.d (.list ds) ∨ φ = Mo.d (.tuple ds)) ∧ EvA T tr ρ M1 fun φs M2 => KA (ds.map Mo.d ++ φs) M2) : EvA T (tStar K0 te tr) ρ M KA := fun σ G H e s Q q =>
  h σ G H e s _ fun x φ M1 G1 H1 k1 p1 n1 => by
    obtain ⟨ds, hd, k⟩ := k1
    obtain ⟨a, xs, ex, hs, hr⟩ : ∃ a xs, x = .ref a ∧ (SqT K0 H1 a xs ∨ SqL K0 H1 a xs) ∧ RepL G1 xs ds := by
      rcases hd with rfl | rfl
      · obtain ⟨a, xs, h1, h2, h3⟩ := rep_list p1
        exact ⟨a, xs, h1, .inr (SqL.of (n1.st.sub _ _ h2)), h3⟩
      · obtain ⟨a, xs, h1, h2, h3⟩ := rep_tup p1
        exact ⟨a, xs, h1, .inl (SqT.of (n1.st.sub _ _ h2)), h3⟩
    exact ⟨a, xs, ex, hs, k σ G1 H1 (e.mono n1.g) n1.st _ fun ys φs M2 G2 H2 k2 p2 n2 => q (xs ++ ys) _ M2 G2 H2 k2 (MoAll.append (MoAll.of_rep (hr.mono n2.g)) p2) (n1.trans n2)⟩
theorem ev_tup {tr : TA} (h : EvA T tr ρ M fun φs M1 => ∃ ds : List PyData, φs = ds.map Mo.d ∧ ds.length ≤ sizeLine ∧ K (Mo.d (.tuple ds)) M1) : Ev T (tTup tr) ρ M K := fun σ G H e s Q q =>
  h σ G H e s _ fun xs φs M1 G1 H1 k1 p1 n1 => by
    obtain ⟨ds, rfl, hl, k⟩ := k1
    have r := MoAll.rep p1
    refine ⟨by rw [r.length]; exact hl, fun p hp => ?_⟩
    exact q _ _ M1 _ _ k (Rep.tup upd_same (r.mono (same_upd (sub_none n1.st.sub hp)))) (n1.trans (Po.laid n1.st hp))
theorem ev_lst {tr : TA} (h : EvA T tr ρ M fun φs M1 => ∃ ds : List PyData, φs = ds.map Mo.d ∧ ds.length ≤ sizeLine ∧ K (Mo.d (.list ds)) M1) : Ev T (tLst tr) ρ M K := fun σ G H e s Q q =>
  h σ G H e s _ fun xs φs M1 G1 H1 k1 p1 n1 => by
    obtain ⟨ds, rfl, hl, k⟩ := k1
    have r := MoAll.rep p1
    refine ⟨by rw [r.length]; exact hl, fun p hp => ?_⟩
    exact q _ _ M1 _ _ k (Rep.lst upd_same (r.mono (same_upd (sub_none n1.st.sub hp)))) (n1.trans (Po.laid n1.st hp))
/-- a new list that will change -/
theorem ev_lstM {tr : TA} (h : EvA T tr ρ M fun φs M1 => ∃ ds : List PyData, φs = ds.map Mo.d ∧ ds.length ≤ sizeLine ∧ ∀ p, K (Mo.adr p) (M1 ++ [(p, Mu.dl ds)])) : Ev T (tLst tr) ρ M K := fun σ G H e s Q q =>
  h σ G H e s _ fun xs φs M1 G1 H1 k1 p1 n1 => by
    obtain ⟨ds, rfl, hl, k⟩ := k1
    have r := MoAll.rep p1
    refine ⟨by rw [r.length]; exact hl, fun p hp => ?_⟩
    exact q _ (Mo.adr p) _ _ _ (k p) rfl (n1.trans (Po.laidM n1.st hp (m := Mu.dl ds) ⟨xs, rfl, r⟩))
/-! ### calls of built-ins by values -/
theorem ev_cb {r : List V → Hp → VK → Prop} {tr : TA} (h : EvA T tr ρ M fun φs M1 => CbV T r φs M1 K) : Ev T (tCB r tr) ρ M K := fun σ G H e s Q q =>
  h σ G H e s _ fun xs φs M1 G1 H1 k1 p1 n1 => k1 xs G1 H1 p1 n1.st Q fun v χ M3 G3 H3 k3 p3 n3 => q v χ M3 G3 H3 k3 p3 (n1.trans n3)
/-! ### slices -/
theorem eo_none {KO : Option Int → Mus → Prop} (k : KO none M) : EvO T tNoPart ρ M KO := fun σ G H e s Q q => q none M G H k (Po.refl s)
theorem eo_some {KO : Option Int → Mus → Prop} (h : Ev T te ρ M fun φ M1 => ∃ i, φ = Mo.d (.int i) ∧ KO (some i) M1) : EvO T (tPart te) ρ M KO := fun σ G H e s Q q =>
  h σ G H e s _ fun x φ M1 G1 H1 k1 p1 n1 => by
    obtain ⟨i, rfl, k⟩ := k1
    exact ⟨i, rep_int p1, q (some i) M1 G1 H1 k n1⟩
def cutD (xs : List PyData) (lo hi : Option Int) : List PyData := (xs.drop (HT.sIx xs.length 0 lo)).take (HT.sIx xs.length xs.length hi - HT.sIx xs.length 0 lo)
theorem RepL.cut {G : Hp} {vs : List V} {ds : List PyData} (r : RepL G vs ds) (lo hi : Option Int) : RepL G (cutV vs lo hi) (cutD ds lo hi) := by
  unfold cutV cutD
  rw [r.length]
  exact (r.drop _).take _
theorem ev_slL {K0 : PySem.W.Frag} {tl th : TO} (h : Ev T te ρ M fun φ M1 => ∃ ds : List PyData, φ = Mo.d (.list ds) ∧ EvO T tl ρ M1 fun lo M2 => EvO T th ρ M2 fun hi M3 => K (Mo.d (.list (cutD ds lo hi))) M3) : Ev T (tSl (rSlL K0) te tl th) ρ M K := fun σ G H e s Q q =>
  h σ G H e s _ fun x φ M1 G1 H1 k1 p1 n1 => by
    obtain ⟨ds, rfl, k⟩ := k1
    refine k σ G1 H1 (e.mono n1.g) n1.st _ fun lo M2 G2 H2 k2 n2 => k2 σ G2 H2 (e.mono (n1.trans n2).g) n2.st _ fun hi M3 G3 H3 k3 n3 => ?_
    obtain ⟨a, xs, h1, h2, h3⟩ := rep_list (Mo.mono _ (n2.trans n3).g p1)
    refine ⟨a, xs, h1, SqL.of (n3.st.sub _ _ h2), fun p hp => ?_⟩
    exact q _ _ M3 _ _ k3 (Rep.lst upd_same ((h3.cut lo hi).mono (same_upd (sub_none n3.st.sub hp)))) ((n1.trans (n2.trans n3)).trans (Po.laid n3.st hp))
/-! ### own attributes -/
def FldV (T : Tb) (K0 : PySem.W.Frag) (f : Str) (φ : Mo) (M : Mus) (K : Ks) : Prop := ∀ (x : V) (G H : Hp), φ.p x G → Sta T M G H → ∃ a C dx fs v, ∃ ψ : Mo, x = .ref a ∧ H a = some (.ins C dx fs) ∧ Cls K0 C ∧ NoAttr K0 C f ∧ fs.lookup f = some v ∧ ψ.p v G ∧ K ψ M
theorem ev_fld {K0 : PySem.W.Frag} {f : Str} (h : Ev T te ρ M fun φ M1 => FldV T K0 f φ M1 K) : Ev T (tFld K0 te f) ρ M K := fun σ G H e s Q q =>
  h σ G H e s _ fun x φ M1 G1 H1 k1 p1 n1 => by
    obtain ⟨a, C, dx, fs, v, ψ, h1, h2, h3, h4, h5, h6, h7⟩ := k1 x G1 H1 p1 n1.st
    exact ⟨a, C, dx, fs, v, h1, h2, h3, h4, h5, q v ψ M1 G1 H1 h7 h6 n1⟩
theorem fv_ins {K0 : PySem.W.Frag} {f : Str} {C : Addr} {fs : List (Str × Mo)} (c : Cls K0 C) (n : NoAttr K0 C f) (l : fs.lookup f = some ψ) (k : K ψ M) : FldV T K0 f (Mo.ins C fs) M K := fun x G H p s => by
  obtain ⟨a, dx, vs, rfl, h1, h2⟩ := p
  obtain ⟨v, h3, h4⟩ := h2.look l
  exact ⟨a, C, dx, vs, v, ψ, rfl, s.sub _ _ h1, c, n, h3, h4, k⟩
theorem fv_mu {K0 : PySem.W.Frag} {f : Str} {C a : Addr} {fs : List (Str × Mo)} {j : Nat} (hj : M[j]? = some (a, Mu.ins C fs)) (c : Cls K0 C) (n : NoAttr K0 C f) (l : fs.lookup f = some ψ) (k : K ψ M) : FldV T K0 f (Mo.adr a) M K := fun x G H p s => by
  obtain ⟨_, o, h1, dx, vs, rfl, h2⟩ := s.at hj
  obtain ⟨v, h3, h4⟩ := h2.look l
  exact ⟨a, C, dx, vs, v, ψ, p, h1, c, n, h3, h4, k⟩
end
/-! ### functions -/
/-- a def's promise at the level of data: A what it is asked about; its arguments, what it may change, what it asks, what it gives -/
def SpG (T : Tb) (A : Type) (args : A → List Mo) (mu : A → Mus) (pre : A → Prop) (res : A → Mo → Mus → Prop) : Sp := fun vs H Q _ => ∃ (a : A) (G : Hp), pre a ∧ MoAll G vs (args a) ∧ Sta T (mu a) G H ∧
  ∀ v φ M' G' H', res a φ M' → φ.p v G' → Po T (mu a) G H M' G' H' → Q v H'
/-- a def that changes nothing -/
abbrev SpP (T : Tb) (A : Type) (args : A → List Mo) (pre : A → Prop) (res : A → Mo) : Sp := SpG T A args (fun _ => []) pre (fun a φ M' => φ = res a ∧ M' = [])
/-- the part of the state that a callee sees -/
theorem Sta.left {T : Tb} {M R : Mus} {G H : Hp} (s : Sta T (M ++ R) G H) : Sta T M G H :=
  ⟨s.sub, s.tab, s.tg, by
    have h := s.nd
    rw [List.map_append, List.nodup_append] at h
    exact h.1, fun e he => s.mu e (List.mem_append_left _ he)⟩
/-- behind the call -/
theorem Po.frame {T : Tb} {M M' R : Mus} {G H G' H' : Hp} (s : Sta T (M ++ R) G H) (n : Po T M G H M' G' H') : Po T (M ++ R) G H (M' ++ R) G' H' := by
  have hnd := s.nd
  rw [List.map_append, List.nodup_append] at hnd
  have hR : ∀ e ∈ R, G' e.1 = none ∧ ∃ o, H' e.1 = some o ∧ e.2.p o G' := fun e he => by
    obtain ⟨g, o, ho, p⟩ := s.mu e (List.mem_append_right _ he)
    have hm : e.1 ∉ M.map (·.1) := fun z => hnd.2.2 e.1 z e.1 (List.mem_map_of_mem he) rfl
    obtain ⟨g', h'⟩ := n.nx.keep e.1 o ho g hm (plainO.nt (e.2.pl p))
    exact ⟨g', o, h', e.2.mono n.g p⟩
  refine ⟨n.nx.mono fun a h => by rw [List.map_append]; exact List.mem_append_left _ h, ⟨n.st.sub, n.st.tab, n.st.tg, ?_, fun e he => ?_⟩, fun e he => ?_⟩
  · rw [List.map_append, List.nodup_append]
    refine ⟨n.st.nd, hnd.2.1, fun x hx y hy z => ?_⟩
    obtain ⟨e, h1, h2⟩ := List.mem_map.mp hx
    obtain ⟨f, h3, h4⟩ := List.mem_map.mp hy
    have h2' : e.1 = x := h2
    have h4' : f.1 = y := h4
    rcases n.nw e h1 with q | q
    · rw [h2'] at q
      exact hnd.2.2 x q y hy z
    · obtain ⟨_, o, ho, pf⟩ := s.mu f (List.mem_append_right _ h3)
      rw [h2', z, ← h4'] at q
      exact q.no ho (plainO.nt (f.2.pl pf))
  · rcases List.mem_append.mp he with he | he
    · exact n.st.mu e he
    · exact hR e he
  · rcases List.mem_append.mp he with he | he
    · rcases n.nw e he with q | q
      · exact .inl (by rw [List.map_append]; exact List.mem_append_left _ q)
      · exact .inr q
    · exact .inl (by rw [List.map_append]; exact List.mem_append_right _ (List.mem_map_of_mem he))
section
variable {T : Tb} {ρ : Rho} {M : Mus} {K : Ks}
theorem ev_call {A : Type} {args : A → List Mo} {mu : A → Mus} {pre : A → Prop} {res : A → Mo → Mus → Prop} {E : XK} {tr : TA}
    (h : EvA T tr ρ M fun φs M1 => ∃ a R, φs = args a ∧ M1 = mu a ++ R ∧ pre a ∧ ∀ φ M', res a φ M' → K φ (M' ++ R)) : Ev T (tCall (SpG T A args mu pre res) [] E tr) ρ M K := fun σ G H e s Q q =>
  h σ G H e s _ fun xs φs M1 G1 H1 k1 p1 n1 => by
    obtain ⟨a, R, rfl, rfl, hp, k⟩ := k1
    refine ⟨a, G1, hp, by rw [List.append_nil]; exact p1, n1.st.left, fun v φ M' G' H' hr hv n2 => ?_⟩
    exact q v φ _ G' H' (k φ M' hr) hv (n1.trans (Po.frame n1.st n2))
theorem ev_callP {A : Type} {args : A → List Mo} {pre : A → Prop} {res : A → Mo} {E : XK} {tr : TA}
    (h : EvA T tr ρ M fun φs M1 => ∃ a, φs = args a ∧ pre a ∧ K (res a) M1) : Ev T (tCall (SpP T A args pre res) [] E tr) ρ M K := ev_call fun σ G H e s Q q => h σ G H e s Q fun xs φs M1 G1 H1 k1 p1 n1 => by
  obtain ⟨a, rfl, hp, k⟩ := k1
  exact q xs _ M1 G1 H1 ⟨a, M1, rfl, rfl, hp, fun φ M' ⟨e1, e2⟩ => by subst e1; subst e2; exact k⟩ p1 n1
end
/-! ### statements -/
structure Zo where
  T : Tb
  W : List Addr
  G : Hp
  H : Hp
  A : Hp
structure Zo.Ok (Z : Zo) (M : Mus) (G H : Hp) : Prop where
  st : Sta Z.T M G H
  nx : Nx Z.W Z.G Z.H G H
  nw : ∀ x ∈ M.map (·.1), x ∈ Z.W ∨ Blk Z.H x
  an : Same Z.A G
def Go (Z : Zo) (N : Sl → Hp → Prop) (ρ : Rho) (M : Mus) : Prop := ∀ (σ : Sl) (G H : Hp), EnvOk G σ ρ → Z.Ok M G H → N σ H
def GoR (Z : Zo) (N : VK) (φ : Mo) (M : Mus) : Prop := ∀ (v : V) (G H : Hp), φ.p v G → Z.Ok M G H → N v H
theorem Zo.Ok.to {Z : Zo} {M M' : Mus} {G H G' H' : Hp} (z : Z.Ok M G H) (n : Po Z.T M G H M' G' H') : Z.Ok M' G' H' :=
  ⟨n.st, z.nx.trans z.nw n.nx, fun x hx => (n.nw.mem x hx).elim (z.nw x) fun q => .inr (z.nx.dom x q), z.an.trans n.g⟩
/-- from a later point: the anchor is moved -/
abbrev Zo.at (Z : Zo) (A : Hp) : Zo := { Z with A := A }
theorem Zo.Ok.back {Z : Zo} {A : Hp} {M : Mus} {G H : Hp} (h : Same Z.A A) (z : (Z.at A).Ok M G H) : Z.Ok M G H := ⟨z.st, z.nx, z.nw, h.trans z.an⟩
theorem Go.at {Z : Zo} {A : Hp} {N : Sl → Hp → Prop} {ρ : Rho} {M : Mus} (h : Same Z.A A) (g : Go Z N ρ M) : Go (Z.at A) N ρ M := fun σ G H e z => g σ G H e (z.back h)
theorem GoR.at {Z : Zo} {A : Hp} {N : VK} {φ : Mo} {M : Mus} (h : Same Z.A A) (g : GoR Z N φ M) : GoR (Z.at A) N φ M := fun σ G H e z => g σ G H e (z.back h)
/-- targets -/
def Tgt (vs : List Nat) (g : TG) (φ : Mo) (ρ ρ' : Rho) : Prop := ∀ (v : V) (σ : Sl) (G H : Hp), φ.p v G → EnvOk G σ ρ → Same G H → ∀ Q : Sl → Hp → Prop, (∀ σ', EnvOk G σ' ρ' → wipe σ' vs = wipe σ vs → Q σ' H) → g v σ H Q
def Tgts (vs : List Nat) (g : TGs) (φs : List Mo) (ρ ρ' : Rho) : Prop := ∀ (us : List V) (σ : Sl) (G H : Hp), MoAll G us φs → EnvOk G σ ρ → Same G H → ∀ Q : Sl → Hp → Prop, (∀ σ', EnvOk G σ' ρ' → wipe σ' vs = wipe σ vs → Q σ' H) → g us σ H Q
theorem wipe_set {σ : Sl} {i : Nat} {x : Option V} : ∀ {vs : List Nat}, (i ∈ vs → wipe (σ.set i x) vs = wipe σ vs) ∧ (i ∉ vs → wipe (σ.set i x) vs = (wipe σ vs).set i x)
  | [] => ⟨fun h => by simp at h, fun _ => rfl⟩
  | v :: vs => by
    obtain ⟨h1, h2⟩ := wipe_set (σ := σ) (i := i) (x := x) (vs := vs)
    constructor
    · intro h
      show (wipe (σ.set i x) vs).set v none = (wipe σ vs).set v none
      by_cases hi : i ∈ vs
      · rw [h1 hi]
      · have e : i = v := by
          rcases List.mem_cons.mp h with z | z
          · exact z
          · exact absurd z hi
        rw [h2 hi, e, List.set_set]
    · intro h
      have hv : i ≠ v := fun z => h (by rw [z]; exact List.mem_cons_self)
      have hn : i ∉ vs := fun z => h (List.mem_cons_of_mem _ z)
      show (wipe (σ.set i x) vs).set v none = ((wipe σ vs).set v none).set i x
      rw [h2 hn, List.set_comm _ _ hv]
theorem tgt_name {vs : List Nat} {i : Nat} {φ : Mo} {ρ : Rho} (h : i ∈ vs) : Tgt vs (gName i) φ ρ (ρ.set i (some φ)) := fun v σ G H hv e _ Q q => q _ (e.set hv) ((wipe_set).1 h)
theorem tgts_nil {vs : List Nat} {ρ : Rho} : Tgts vs gNil [] ρ ρ := fun us σ G H h e _ Q q => by
  cases h
  exact ⟨rfl, q σ e rfl⟩
theorem tgts_cons {vs : List Nat} {g : TG} {gs : TGs} {φ : Mo} {φs : List Mo} {ρ ρ1 ρ2 : Rho} (h1 : Tgt vs g φ ρ ρ1) (h2 : Tgts vs gs φs ρ1 ρ2) : Tgts vs (gCons g gs) (φ :: φs) ρ ρ2 := fun us σ G H h e s Q q => by
  cases h with
  | cons hv ht =>
    refine ⟨_, _, rfl, h1 _ σ G H hv e s _ fun σ1 e1 w1 => h2 _ σ1 G H ht e1 s Q fun σ2 e2 w2 => q σ2 e2 (w2.trans w1)⟩
theorem tgt_unl {K0 : PySem.W.Frag} {vs : List Nat} {n : Nat} {gs : TGs} {ds : List PyData} {ρ ρ' : Rho} (hl : ds.length = n) (h : Tgts vs gs (ds.map Mo.d) ρ ρ') : Tgt vs (gUnl K0 n gs) (Mo.d (.list ds)) ρ ρ' := fun v σ G H hv e s Q q => by
  obtain ⟨a, xs, h1, h2, h3⟩ := rep_list hv
  exact ⟨a, xs, h1, SqL.of (s _ _ h2), by rw [h3.length]; exact hl, h xs σ G H (MoAll.of_rep h3) e s Q q⟩
theorem tgt_tup {K0 : PySem.W.Frag} {vs : List Nat} {n : Nat} {gs : TGs} {ds : List PyData} {ρ ρ' : Rho} (hl : ds.length = n) (h : Tgts vs gs (ds.map Mo.d) ρ ρ') : Tgt vs (gTup K0 n gs) (Mo.d (.tuple ds)) ρ ρ' := fun v σ G H hv e s Q q => by
  obtain ⟨a, xs, h1, h2, h3⟩ := rep_tup hv
  exact ⟨a, xs, h1, SqT.of (s _ _ h2), by rw [h3.length]; exact hl, h xs σ G H (MoAll.of_rep h3) e s Q q⟩
section
variable {Z : Zo} {D : Ends} {ρ : Rho} {M : Mus} {te : TE} {c : TT} {t u : TS}
theorem Ev.run {T : Tb} {K : Ks} {σ : Sl} {G H : Hp} {Q : VK} (h : Ev T te ρ M K) (e : EnvOk G σ ρ) (s : Sta T M G H) (q : ∀ v φ M' G' H', K φ M' → φ.p v G' → Po T M G H M' G' H' → Q v H') : te σ H Q := h σ G H e s Q q
theorem go_seq (h : Go Z (t { D with nx := u D }) ρ M) : Go Z (tSeq t u D) ρ M := h
theorem go_next (h : Go Z D.nx ρ M) : Go Z (tNext D) ρ M := h
theorem go_asg {g : TG} {vs : List Nat} (h : Ev Z.T te ρ M fun φ M1 => ∃ ρ1, Tgt vs g φ ρ ρ1 ∧ Go Z D.nx ρ1 M1) : Go Z (tAsg te g D) ρ M := fun σ G H e z =>
  h.run e z.st fun v φ M1 G1 H1 ⟨ρ1, k1, k2⟩ p1 n1 => k1 v σ G1 H1 p1 (e.mono n1.g) n1.st.sub _ fun σ1 e1 _ => k2 σ1 G1 H1 e1 (z.to n1)
/-- name = e -/
theorem go_set {i : Nat} (h : Ev Z.T te ρ M fun φ M1 => Go Z D.nx (ρ.set i (some φ)) M1) : Go Z (tAsg te (gName i) D) ρ M := fun σ G H e z =>
  h.run e z.st fun v φ M1 G1 H1 k p1 n1 => k _ G1 H1 ((e.mono n1.g).set p1) (z.to n1)
theorem go_drop (h : Ev Z.T te ρ M fun _ M1 => Go Z D.nx ρ M1) : Go Z (tDrop te D) ρ M := fun σ G H e z =>
  h.run e z.st fun v φ M1 G1 H1 k p1 n1 => k σ G1 H1 (e.mono n1.g) (z.to n1)
theorem go_ret (h : Ev Z.T te ρ M fun φ M1 => GoR Z D.rt φ M1) : Go Z (tRet te D) ρ M := fun σ G H e z =>
  h.run e z.st fun v φ M1 G1 H1 k p1 n1 => k v G1 H1 p1 (z.to n1)
theorem go_retN (h : GoR Z D.rt (Mo.d .none) M) : Go Z (tRetN D) ρ M := fun σ G H e z => h .non G H Rep.non z
/-- behind the last statement -/
theorem go_end {Q : VK} (h : GoR Z Q (Mo.d .none) M) : Go Z (fun _ H' => Q .non H') ρ M := fun σ G H e z => h .non G H Rep.non z
theorem go_if (h : EvT Z.T c ρ M fun b M1 => if b = true then Go Z (t D) ρ M1 else Go Z (u D) ρ M1) : Go Z (tIfS c t u D) ρ M := fun σ G H e z =>
  h σ G H e z.st _ fun b M1 G1 H1 k n1 => by
    cases b with
    | true =>
      show t D σ H1
      exact (show Go Z (t D) ρ M1 from k) σ G1 H1 (e.mono n1.g) (z.to n1)
    | false =>
      show u D σ H1
      exact (show Go Z (u D) ρ M1 from k) σ G1 H1 (e.mono n1.g) (z.to n1)
theorem Go.less {N : Sl → Hp → Prop} {ρ' : Rho} (h : Go Z N ρ' M) (l : Less ρ' ρ) : Go Z N ρ M := fun σ G H e z => h σ G H (e.less l) z
/-- a, b = x, y -/
theorem go_par {i j : Nat} {ta : TA} (h : EvA Z.T ta ρ M fun φs M1 => ∃ φ ψ, φs = [φ, ψ] ∧ Go Z D.nx ((ρ.set i (some φ)).set j (some ψ)) M1) : Go Z (tPar i j ta D) ρ M := fun σ G H e z =>
  h σ G H e z.st _ fun vs φs M1 G1 H1 ⟨φ, ψ, e1, k⟩ p1 n1 => by
    subst e1
    cases p1 with
    | cons a r =>
      cases r with
      | cons b r =>
        cases r
        exact ⟨_, _, rfl, k _ G1 H1 (((e.mono n1.g).set a).set b) (z.to n1)⟩
/-- name op= e -/
theorem go_aug {i : Nat} {ti : TIp} {φ : Mo} (hi : ρ[i]? = some (some φ)) (h : Ev Z.T te ρ M fun ψ M1 => OpV Z.T ti φ ψ M1 fun χ M2 => Go Z D.nx (ρ.set i (some χ)) M2) : Go Z (tAug i te ti D) ρ M := fun σ G H e z => by
  obtain ⟨v, h1, h2⟩ := e.2 i φ hi
  refine ⟨v, h1, h.run e z.st fun y ψ M1 G1 H1 k p1 n1 => k v y G1 H1 (φ.mono n1.g h2) p1 n1.st _ fun w χ M2 G2 H2 k2 p2 n2 => ?_⟩
  exact k2 _ G2 H2 ((e.mono (n1.trans n2).g).set p2) ((z.to n1).to n2)
/-- a list that no longer changes -/
theorem go_freeze {N : Sl → Hp → Prop} {i j : Nat} {p : Addr} {ds : List PyData} (hi : ρ[i]? = some (some (Mo.adr p))) (hj : M[j]? = some (p, Mu.dl ds)) (h : Go Z N (ρ.set i (some (Mo.d (.list ds)))) (M.eraseIdx j)) : Go Z N ρ M := fun σ G H e z => by
  obtain ⟨g, o, ho, xs, rfl, hr⟩ := z.st.at hj
  have sg : Same G (upd G p (.lst xs)) := same_upd g
  have hnt : ∀ q ∈ Z.T, q.1 ≠ p := fun q hq zz => by
    obtain ⟨ps, e1, _⟩ := z.st.tab q hq
    rw [zz, ho] at e1
    cases e1
  obtain ⟨v, h1, h2⟩ := e.2 i _ hi
  have h2' : v = .ref p := h2
  have hs : σ.set i (some (.ref p)) = σ := by
    rw [h2'] at h1
    apply List.ext_getElem?
    intro k
    by_cases hk : i = k
    · subst hk
      rw [List.getElem?_set_self (List.getElem?_eq_some_iff.mp h1).1, h1]
    · rw [List.getElem?_set_ne hk]
  have e2 : EnvOk (upd G p (.lst xs)) σ (ρ.set i (some (Mo.d (.list ds)))) := by
    have := (e.mono sg).set (i := i) (v := .ref p) (φ := Mo.d (.list ds)) (Rep.lst upd_same (hr.mono sg))
    rw [hs] at this
    exact this
  refine h σ _ H e2 ⟨⟨fun b x q => ?_, z.st.tab, notbl_upd z.st.tg (fun ps z => by cases z), ?_, fun f hf => ?_⟩, ⟨z.nx.g.trans sg, fun a x q ga hw ht => ?_, z.nx.dom⟩, fun x hx => z.nw x ?_, z.an.trans sg⟩
  · by_cases hb : b = p
    · rw [hb, upd_same] at q
      rw [hb, ho]
      exact q
    · rw [upd_ne hb] at q
      exact z.st.sub b x q
  · exact (z.st.nd).sublist ((List.eraseIdx_sublist _ _).map _)
  · have hfm : f ∈ M := (List.eraseIdx_sublist _ _).mem hf
    obtain ⟨g1, o1, h3, p1⟩ := z.st.mu f hfm
    obtain ⟨i2, hi2, e3⟩ := List.mem_iff_getElem.mp hfm
    have hne : f.1 ≠ p := fun zz => by
      have e4 : M[i2]? = some f := by rw [List.getElem?_eq_getElem hi2, e3]
      have hij := nodup_fst_ix z.st.nd hj e4 zz.symm
      subst hij
      obtain ⟨i3, hi3, e5⟩ := List.mem_iff_getElem.mp hf
      have e6 : (M.eraseIdx j)[i3]? = some f := by rw [List.getElem?_eq_getElem hi3, e5]
      rw [List.getElem?_eraseIdx] at e6
      split at e6
      · rename_i hlt
        have := nodup_fst_ix z.st.nd e4 e6 rfl
        omega
      · rename_i hlt
        have := nodup_fst_ix z.st.nd e4 e6 rfl
        omega
    exact ⟨by rw [upd_ne hne]; exact g1, o1, h3, f.2.mono sg p1⟩
  · obtain ⟨q1, q2⟩ := z.nx.keep a x q ga hw ht
    by_cases hb : a = p
    · exfalso
      rcases z.nw p (List.mem_map_of_mem (f := (·.1)) (List.mem_of_getElem? hj)) with w | w
      · exact hw (hb ▸ w)
      · rw [hb] at q
        exact w.no q ht
    · exact ⟨by rw [upd_ne hb]; exact q1, q2⟩
  · exact ((List.eraseIdx_sublist _ _).map _).mem hx
end
end Lv
/-! #### Loop -/
namespace Lv
open PySem L2 StX
theorem wipe_idem {σ : Sl} : ∀ vs : List Nat, wipe (wipe σ vs) vs = wipe σ vs
  | [] => rfl
  | v :: vs => by
    show (wipe ((wipe σ vs).set v none) vs).set v none = (wipe σ vs).set v none
    by_cases h : v ∈ vs
    · rw [(wipe_set).1 h, wipe_idem vs]
    · rw [(wipe_set).2 h, wipe_idem vs, List.set_set]
/-! ### freezing the last one -/
theorem Po.freezeL {T : Tb} {M M2 : Mus} {G H G2 H2 : Hp} {D : Addr} {m : Mu} {o : HO} (n : Po T M G H (M2 ++ [(D, m)]) G2 H2) (hD : H D = none) (h2 : H2 D = some o) (pl : plainO o = true) : Po T M G H M2 (upd G2 D o) H2 := by
  have hmem : (D, m) ∈ M2 ++ [(D, m)] := List.mem_append_right _ (List.mem_singleton.mpr rfl)
  obtain ⟨g, _, _, _⟩ := n.st.mu _ hmem
  have sg : Same G2 (upd G2 D o) := same_upd g
  have hnd := n.st.nd
  rw [List.map_append, List.nodup_append] at hnd
  have hne : ∀ e ∈ M2, e.1 ≠ D := fun e he z => hnd.2.2 e.1 (List.mem_map_of_mem he) D (by simp) z
  have hnt : ∀ q ∈ T, q.1 ≠ D := fun q hq zz => by
    obtain ⟨ps, e1, _⟩ := n.st.tab q hq
    rw [zz, h2] at e1
    exact plainO.nt pl ps (Option.some.inj e1)
  refine ⟨⟨n.nx.g.trans sg, fun a x e ga hw ht => ?_, n.nx.dom⟩, ⟨fun b x q => ?_, n.st.tab, notbl_upd n.st.tg (plainO.nt pl), hnd.1, fun e he => ?_⟩, fun e he => n.nw e (List.mem_append_left _ he)⟩
  · obtain ⟨q1, q2⟩ := n.nx.keep a x e ga hw ht
    have ha : a ≠ D := fun z => by rw [z, hD] at e; cases e
    exact ⟨by rw [upd_ne ha]; exact q1, q2⟩
  · by_cases hb : b = D
    · rw [hb, upd_same] at q
      rw [hb, h2]
      exact q
    · rw [upd_ne hb] at q
      exact n.st.sub b x q
  · obtain ⟨g1, o1, h3, p1⟩ := n.st.mu e (List.mem_append_left _ he)
    exact ⟨by rw [upd_ne (hne e he)]; exact g1, o1, h3, e.2.mono sg p1⟩
theorem at_last {M : Mus} {e : Addr × Mu} : (M ++ [e])[M.length]? = some e := by simp
theorem set_last {M : Mus} {e f : Addr × Mu} : (M ++ [e]).set M.length f = M ++ [f] := by
  rw [List.set_append_right _ _ (Nat.le_refl _)]
  simp
/-! ### walks -/
def WalkR (T : Tb) (R0 : Mus) (J : It) (φs : List Mo) (A : Hp) : Prop := ∀ (M : Mus) (G H : Hp), (∀ e ∈ R0, e ∈ M) → Same A G → Sta T M G H → J.stop φs.length H ∧ ∀ (k : Nat) (φ : Mo), φs[k]? = some φ → J.go k H ∧ ∀ x H', J.yld k H x H' → ∃ G', Po T M G H M G' H' ∧ φ.p x G'
def WalkM (T : Tb) (J : It) (φs : List Mo) (A : Hp) : Prop := ∀ (M : Mus) (G H : Hp), Same A G → Sta T M G H → J.stop φs.length H ∧ ∀ (k : Nat) (φ : Mo), φs[k]? = some φ → J.go k H ∧ ∀ x H', J.yld k H x H' → ∃ G', Po T M G H M G' H' ∧ φ.p x G'
theorem WalkM.r {T : Tb} {J : It} {φs : List Mo} {A : Hp} (w : WalkM T J φs A) : WalkR T [] J φs A := fun M G H _ s a => w M G H s a
theorem WalkR.m {T : Tb} {J : It} {φs : List Mo} {A : Hp} (w : WalkR T [] J φs A) : WalkM T J φs A := fun M G H s a => w M G H (fun _ z => by cases z) s a
def EvI (T : Tb) (wi : TI) (ρ : Rho) (M : Mus) (K : List Mo → Mus → Prop) : Prop := ∀ (σ : Sl) (G H : Hp), EnvOk G σ ρ → Sta T M G H → ∀ R : It → Hp → Prop, (∀ J φs M' G' H', K φs M' → Po T M G H M' G' H' → WalkM T J φs G' → R J H') → wi σ H R
def EvIR (T : Tb) (R0 : Mus) (wi : TI) (ρ : Rho) (M : Mus) (K : List Mo → Mus → Prop) : Prop := ∀ (σ : Sl) (G H : Hp), EnvOk G σ ρ → Sta T M G H → ∀ R : It → Hp → Prop, (∀ J φs M' G' H', K φs M' → Po T M G H M' G' H' → WalkR T R0 J φs G' → R J H') → wi σ H R
section
variable {T : Tb} {ρ : Rho} {M : Mus} {K0 : PySem.W.Frag} {te : TE} {KI : List Mo → Mus → Prop}
theorem walk_list {a : Addr} {xs : List V} {φs : List Mo} {A : Hp} (h : A a = some (.lst xs)) (r : MoAll A xs φs) : WalkM T (Itl K0 a) φs A := fun M G H sA s => by
  have hH : SqL K0 H a xs := SqL.of (s.sub _ _ (sA _ _ h))
  have hr := r.mono sA
  refine ⟨⟨xs, hH, by rw [r.length]; exact Nat.le_refl _⟩, fun k φ hk => ?_⟩
  obtain ⟨v, h1, h2⟩ := hr.get hk
  exact ⟨⟨xs, v, hH, h1⟩, fun x H' ⟨e, hx⟩ => ⟨G, by rw [e]; exact Po.refl s, by
    have := (hx xs hH).symm.trans h1
    cases this
    exact h2⟩⟩
theorem walk_tup {a : Addr} {xs : List V} {φs : List Mo} {A : Hp} (h : A a = some (.tup xs)) (r : MoAll A xs φs) : WalkM T (Itt K0 a) φs A := fun M G H sA s => by
  have hH : SqT K0 H a xs := SqT.of (s.sub _ _ (sA _ _ h))
  have hr := r.mono sA
  refine ⟨⟨xs, hH, by rw [r.length]; exact Nat.le_refl _⟩, fun k φ hk => ?_⟩
  obtain ⟨v, h1, h2⟩ := hr.get hk
  exact ⟨⟨xs, v, hH, h1⟩, fun x H' ⟨e, hx⟩ => ⟨G, by rw [e]; exact Po.refl s, by
    have := (hx xs hH).symm.trans h1
    cases this
    exact h2⟩⟩
theorem ei_list (h : Ev T te ρ M fun φ M1 => ∃ ds : List PyData, φ = Mo.d (.list ds) ∧ KI (ds.map Mo.d) M1) : EvI T (iList K0 te) ρ M KI := fun σ G H e s R q =>
  h.run e s fun x φ M1 G1 H1 ⟨ds, e1, k⟩ p1 n1 => by
    subst e1
    obtain ⟨a, xs, h1, h2, h3⟩ := rep_list p1
    exact ⟨a, h1, ⟨xs, SqL.of (n1.st.sub _ _ h2)⟩, q _ _ M1 G1 H1 k n1 (walk_list h2 (MoAll.of_rep h3))⟩
theorem ei_ls (h : Ev T te ρ M fun φ M1 => ∃ φs, φ = Mo.ls φs ∧ KI φs M1) : EvI T (iList K0 te) ρ M KI := fun σ G H e s R q =>
  h.run e s fun x φ M1 G1 H1 ⟨ds, e1, k⟩ p1 n1 => by
    subst e1
    obtain ⟨a, xs, h1, h2, h3⟩ := p1
    exact ⟨a, h1, ⟨xs, SqL.of (n1.st.sub _ _ h2)⟩, q _ _ M1 G1 H1 k n1 (walk_list h2 h3)⟩
theorem ei_tup (h : Ev T te ρ M fun φ M1 => ∃ ds : List PyData, φ = Mo.d (.tuple ds) ∧ KI (ds.map Mo.d) M1) : EvI T (iTup K0 te) ρ M KI := fun σ G H e s R q =>
  h.run e s fun x φ M1 G1 H1 ⟨ds, e1, k⟩ p1 n1 => by
    subst e1
    obtain ⟨a, xs, h1, h2, h3⟩ := rep_tup p1
    exact ⟨a, h1, ⟨xs, SqT.of (n1.st.sub _ _ h2)⟩, q _ _ M1 G1 H1 k n1 (walk_tup h2 (MoAll.of_rep h3))⟩
/-- 0, 1, .. -/
def upto (n : Nat) : List PyData := (List.range n).map fun (i : Nat) => PyData.int (i : Int)
theorem upto_len (n : Nat) : (upto n).length = n := by unfold upto; simp
theorem upto_get {n k : Nat} {d : PyData} (h : (upto n)[k]? = some d) : k < n ∧ d = .int (k : Int) := by
  unfold upto at h
  rw [List.getElem?_map] at h
  by_cases hk : k < n
  · rw [List.getElem?_range hk] at h
    cases h
    exact ⟨hk, rfl⟩
  · rw [List.getElem?_eq_none (by simpa using hk)] at h
    cases h
theorem map_d_get {ds : List PyData} {k : Nat} {φ : Mo} (h : (ds.map Mo.d)[k]? = some φ) : ∃ d, ds[k]? = some d ∧ φ = Mo.d d := by
  rw [List.getElem?_map] at h
  cases e : ds[k]? with
  | none => rw [e] at h; cases h
  | some d => rw [e] at h; cases h; exact ⟨d, rfl, rfl⟩
theorem walk_range {n : Nat} {A : Hp} : WalkM T (Itr 0 n) ((upto n).map Mo.d) A := fun M G H sA s => by
  refine ⟨by rw [List.length_map, upto_len]; exact Nat.le_refl _, fun k φ hk => ?_⟩
  obtain ⟨d, h1, rfl⟩ := map_d_get hk
  obtain ⟨h2, rfl⟩ := upto_get h1
  refine ⟨h2, fun x H' ⟨e, hx⟩ => ⟨G, by rw [e]; exact Po.refl s, ?_⟩⟩
  rw [hx, Int.zero_add]
  exact Rep.int _
theorem ei_range (h : Ev T te ρ M fun φ M1 => ∃ n : Nat, φ = Mo.d (.int (n : Int)) ∧ (n : Int) < 2 ^ 62 ∧ KI ((upto n).map Mo.d) M1) : EvI T (iRng1 (tCons te tNil)) ρ M KI := fun σ G H e s R q =>
  h.run e s fun x φ M1 G1 H1 ⟨n, e1, hn, k⟩ p1 n1 => by
    subst e1
    exact ⟨(n : Int), by rw [rep_int p1], by omega, hn, by rw [Int.toNat_natCast]; exact q _ _ M1 G1 H1 k n1 walk_range⟩
/-- enumerate -/
def numd : Nat → List Mo → List (Nat × Mo)
  | _, [] => []
  | k, φ :: r => (k, φ) :: numd (k + 1) r
def enumD (ds : List PyData) : List PyData := (List.range ds.length).map fun (i : Nat) => PyData.tuple [.int (i : Int), ds.getD i .none]
theorem enumD_len (ds : List PyData) : (enumD ds).length = ds.length := by unfold enumD; simp
theorem enumD_get {ds : List PyData} {k : Nat} {e : PyData} (h : (enumD ds)[k]? = some e) : ∃ d, ds[k]? = some d ∧ e = .tuple [.int (k : Int), d] := by
  unfold enumD at h
  rw [List.getElem?_map] at h
  by_cases hk : k < ds.length
  · rw [List.getElem?_range hk] at h
    cases h
    refine ⟨ds[k], List.getElem?_eq_getElem hk, ?_⟩
    show PyData.tuple [.int (k : Int), ds.getD k .none] = _
    rw [List.getD_eq_getElem?_getD, List.getElem?_eq_getElem hk]
    rfl
  · rw [List.getElem?_eq_none (by simpa using hk)] at h
    cases h
theorem ei_enum {tr : TA} (h : EvA T tr ρ M fun φs M1 => ∃ ds : List PyData, φs = [Mo.d (.list ds)] ∧ KI ((enumD ds).map Mo.d) M1) : EvI T (iEnum K0 tr) ρ M KI := fun σ G H e s R q =>
  h σ G H e s _ fun vs φs M1 G1 H1 ⟨ds, e1, k⟩ p1 n1 => by
    subst e1
    cases p1 with
    | cons pa b =>
      cases b
      obtain ⟨a, xs, rfl, h2, h3⟩ := rep_list pa
      refine ⟨a, xs, rfl, SqL.of (n1.st.sub _ _ h2), q _ _ M1 G1 H1 k n1 fun M G H sA s => ?_⟩
      have hH : SqL K0 H a xs := SqL.of (s.sub _ _ (sA _ _ h2))
      have hr := h3.mono sA
      refine ⟨⟨xs, hH, by rw [List.length_map, enumD_len, h3.length]; exact Nat.le_refl _⟩, fun k φ hk => ?_⟩
      obtain ⟨d, h1, rfl⟩ := map_d_get hk
      obtain ⟨d', h4, rfl⟩ := enumD_get h1
      obtain ⟨v, h5, h6⟩ := hr.get h4
      refine ⟨⟨xs, v, hH, h5⟩, fun x H' ⟨t, y, ex, ht, eH, hy⟩ => ?_⟩
      have := (hy xs hH).symm.trans h5
      cases this
      subst ex eH
      exact ⟨_, Po.laid s ht, Rep.tup upd_same (.cons (.int _) (.cons (h6.mono (same_upd (sub_none s.sub ht))) .nil))⟩
/-- zip of two lists -/
def zipD (ds es : List PyData) : List PyData := (ds.zip es).map fun p => PyData.tuple [p.1, p.2]
theorem zipD_get {ds es : List PyData} {k : Nat} {e : PyData} (h : (zipD ds es)[k]? = some e) : ∃ a b, ds[k]? = some a ∧ es[k]? = some b ∧ e = .tuple [a, b] := by
  unfold zipD at h
  rw [List.getElem?_map] at h
  cases q : (ds.zip es)[k]? with
  | none => rw [q] at h; cases h
  | some p =>
    rw [q] at h
    cases h
    obtain ⟨h1, h2⟩ := List.getElem?_zip_eq_some.mp q
    exact ⟨p.1, p.2, h1, h2, rfl⟩
theorem ei_zip {tr : TA} (h : EvA T tr ρ M fun φs M1 => ∃ ds es : List PyData, φs = [Mo.d (.list ds), Mo.d (.list es)] ∧ KI ((zipD ds es).map Mo.d) M1) : EvI T (iZip K0 tr) ρ M KI := fun σ G H e s R q =>
  h σ G H e s _ fun vs φs M1 G1 H1 ⟨ds, es, e1, k⟩ p1 n1 => by
    subst e1
    cases p1 with
    | cons pa pb =>
      cases pb with
      | cons pb c =>
        cases c
        obtain ⟨a, xs, rfl, h2, h3⟩ := rep_list pa
        obtain ⟨b, ys, rfl, g2, g3⟩ := rep_list pb
        refine ⟨a, b, xs, ys, rfl, SqL.of (n1.st.sub _ _ h2), SqL.of (n1.st.sub _ _ g2), q _ _ M1 G1 H1 k n1 fun M G H sA s => ?_⟩
        have hH : SqL K0 H a xs := SqL.of (s.sub _ _ (sA _ _ h2))
        have gH : SqL K0 H b ys := SqL.of (s.sub _ _ (sA _ _ g2))
        have hr := h3.mono sA
        have gr := g3.mono sA
        refine ⟨⟨xs, ys, hH, gH, ?_⟩, fun k φ hk => ?_⟩
        · unfold zipD
          rw [List.length_map, List.length_map, List.length_zip, h3.length, g3.length]
          omega
        · obtain ⟨d, h1, rfl⟩ := map_d_get hk
          obtain ⟨x1, x2, h4, h4', rfl⟩ := zipD_get h1
          obtain ⟨v, h5, h6⟩ := hr.get h4
          obtain ⟨w, g5, g6⟩ := gr.get h4'
          refine ⟨⟨xs, ys, v, w, hH, gH, h5, g5⟩, fun x H' ⟨t, y1, y2, ex, ht, eH, hy1, hy2⟩ => ?_⟩
          have e1 : y1 = v := Option.some.inj ((hy1 xs hH).symm.trans h5)
          have e2 : y2 = w := Option.some.inj ((hy2 ys gH).symm.trans g5)
          subst e1 e2 ex eH
          have sm := same_upd (o := .tup [y1, y2]) (sub_none s.sub ht)
          exact ⟨_, Po.laid s ht, Rep.tup upd_same (.cons (h6.mono sm) (.cons (g6.mono sm) .nil))⟩
/-- a text's signs -/
def signs (x : Str) : List PyData := x.cps.toList.map fun c => PyData.str ⟨#[c]⟩
theorem signs_get {x : Str} {k : Nat} {d : PyData} (h : (signs x)[k]? = some d) : ∃ c, x.cps.toList[k]? = some c ∧ d = .str ⟨#[c]⟩ := by
  unfold signs at h
  rw [List.getElem?_map] at h
  cases e : x.cps.toList[k]? with
  | none => rw [e] at h; cases h
  | some c => rw [e] at h; cases h; exact ⟨c, rfl, rfl⟩
theorem ei_str (h : Ev T te ρ M fun φ M1 => ∃ x, φ = Mo.d (.str x) ∧ KI ((signs x).map Mo.d) M1) : EvI T (iStr te) ρ M KI := fun σ G H e s R q =>
  h.run e s fun v φ M1 G1 H1 ⟨x, e1, k⟩ p1 n1 => by
    subst e1
    refine ⟨x, rep_str p1, q _ _ M1 G1 H1 k n1 fun M G H sA s => ⟨?_, fun k φ hk => ?_⟩⟩
    · unfold signs
      rw [List.length_map, List.length_map, Array.length_toList]
      exact Nat.le_refl _
    · obtain ⟨d, h1, rfl⟩ := map_d_get hk
      obtain ⟨c, h2, rfl⟩ := signs_get h1
      have hlt : k < x.cps.size := by
        have := (List.getElem?_eq_some_iff.mp h2).1
        simpa using this
      refine ⟨hlt, fun y H' ⟨eH, c', hc, ey⟩ => ⟨G, by rw [eH]; exact Po.refl s, ?_⟩⟩
      have : c' = c := by
        rw [← Array.getElem?_toList, h2] at hc
        exact (Option.some.inj hc).symm
      rw [ey, this]
      exact Rep.str _
end
/-! ### for -/
/-- a loop at the level of data -/
def LoopD (Z : Zo) (vs : List Nat) (g : TG) (tb : TS) (D : Ends) (φs : List Mo) (ρ : Rho) (M : Mus) : Prop :=
  ∃ Iv : Nat → Rho → Mus → Prop, Iv 0 ρ M ∧ (∀ (k : Nat) (φ : Mo) (ρ1 : Rho) (M1 : Mus), φs[k]? = some φ → Iv k ρ1 M1 → ∃ ρ2, Tgt vs g φ ρ1 ρ2 ∧ ∀ (A : Hp) (N : Sl → Hp → Prop), Same Z.A A → (∀ ρ3 M3, Iv (k + 1) ρ3 M3 → Go (Z.at A) N ρ3 M3) →
    Go (Z.at A) (tb { D with nx := N, ct := N, bk := D.nx }) ρ2 M1) ∧ ∀ ρ1 M1, Iv φs.length ρ1 M1 → Go Z D.nx ρ1 M1
theorem go_for {Z : Zo} {vs : List Nat} {g : TG} {tb : TS} {D : Ends} {ρ : Rho} {M : Mus} {wi : TI} (h : EvI Z.T wi ρ M fun φs M1 => LoopD Z vs g tb D φs ρ M1) : Go Z (tFor wi g tb D) ρ M := fun σ G H e z =>
  h σ G H e z.st _ fun J φs M1 G1 H1 ⟨Iv, i0, step, fin⟩ n1 wk => by
    have z1 : (Z.at G1).Ok M1 G1 H1 := ⟨n1.st, (z.to n1).nx, (z.to n1).nw, Same.refl _⟩
    have hA : Same Z.A G1 := (z.to n1).an
    refine ⟨fun i m σ H => m = φs.length - i ∧ i ≤ φs.length ∧ ∃ ρ2 M2 G2, Iv i ρ2 M2 ∧ EnvOk G2 σ ρ2 ∧ (Z.at G1).Ok M2 G2 H, ⟨φs.length, rfl, Nat.zero_le _, ρ, M1, G1, i0, e.mono n1.g, z1⟩, ?_⟩
    rintro i m σ H ⟨rfl, hi, ρ2, M2, G2, hI, e2, z2⟩
    obtain ⟨st, it⟩ := wk M2 G2 H z2.an z2.st
    by_cases hlt : i < φs.length
    · obtain ⟨go, yld⟩ := it i φs[i] (List.getElem?_eq_getElem hlt)
      refine .inr ⟨go, fun σ' H' => ∃ ρ3 M3 G3, Iv (i + 1) ρ3 M3 ∧ EnvOk G3 σ' ρ3 ∧ (Z.at G1).Ok M3 G3 H', fun σ' H' hN => ⟨φs.length - (i + 1), by omega, rfl, hlt, hN⟩, fun x H' hy => ?_⟩
      obtain ⟨G3, n3, hx⟩ := yld x H' hy
      obtain ⟨ρ3, tg, body⟩ := step i φs[i] ρ2 M2 (List.getElem?_eq_getElem hlt) hI
      refine tg x σ G3 H' hx (e2.mono n3.g) n3.st.sub _ fun σ4 e4 _ => ?_
      exact body G1 _ hA (fun ρ5 M5 hI5 σ5 G5 H5 e5 z5 => ⟨ρ5, M5, G5, hI5, e5, z5⟩) σ4 G3 H' e4 (z2.to n3)
    · have ei : i = φs.length := by omega
      subst ei
      exact .inl ⟨st, fin ρ2 M2 hI σ G2 H e2 (z2.back hA)⟩
/-! ### comprehensions -/
theorem ev_lcR {T : Tb} {R0 : Mus} {ρ : Rho} {M : Mus} {K : Ks} {wi : TI} {g : TG} {tt : TT} {te : TE} {vs : List Nat}
    (h : EvIR T R0 wi ρ M fun φs M1 => ∃ Iv : Nat → List Mo → Mus → Prop, (∀ k acc M2, Iv k acc M2 → ∀ e ∈ R0, e ∈ M2) ∧ Iv 0 [] M1 ∧ (∀ (k : Nat) (φ : Mo) (acc : List Mo) (M2 : Mus), φs[k]? = some φ → Iv k acc M2 → ∃ ρ2, Tgt vs g φ (wipeR ρ vs) ρ2 ∧
      EvT T tt ρ2 M2 fun b M3 => if b = true then Ev T te ρ2 M3 fun ψ M4 => acc.length < sizeLine ∧ Iv (k + 1) (acc ++ [ψ]) M4 else Iv (k + 1) acc M3) ∧ ∀ acc M2, Iv φs.length acc M2 → K (Mo.ls acc) M2) : Ev T (tLc wi g tt te vs) ρ M K := fun σ G H e s Q q =>
  h σ G H e s _ fun J φs M1 G1 H1 ⟨Iv, hR0, i0, step, fin⟩ n1 wk => fun D hD => by
    have nD : Po T M1 G1 H1 (M1 ++ [(D, Mu.ml [])]) G1 (upd H1 D (.lst [])) := Po.laidM n1.st hD ⟨[], rfl, .nil⟩
    refine ⟨fun i m H => m = φs.length - i ∧ i ≤ φs.length ∧ ∃ acc M2 G2, Iv i acc M2 ∧ Po T M1 G1 H1 (M2 ++ [(D, Mu.ml acc)]) G2 H, ⟨φs.length, rfl, Nat.zero_le _, [], M1, G1, i0, nD⟩, ?_⟩
    rintro i m H ⟨rfl, hi, acc, M2, G2, hI, n2⟩
    obtain ⟨st, it⟩ := wk _ G2 H (fun e he => List.mem_append_left _ (hR0 i acc M2 hI e he)) n2.g n2.st
    obtain ⟨gD, oD, hoD, xs, rfl, hxs⟩ := n2.st.at (at_last (M := M2) (e := (D, Mu.ml acc)))
    by_cases hlt : i < φs.length
    · obtain ⟨go, yld⟩ := it i φs[i] (List.getElem?_eq_getElem hlt)
      refine .inr ⟨go, fun H' => ∃ acc M2 G2, Iv (i + 1) acc M2 ∧ Po T M1 G1 H1 (M2 ++ [(D, Mu.ml acc)]) G2 H', fun H' hN => ⟨φs.length - (i + 1), by omega, rfl, hlt, hN⟩, fun x H' hy => ?_⟩
      obtain ⟨G3, n3, hx⟩ := yld x H' hy
      obtain ⟨ρ2, tg, body⟩ := step i φs[i] acc M2 (List.getElem?_eq_getElem hlt) hI
      have e3 : EnvOk G3 σ ρ := e.mono ((n1.g.trans n2.g).trans n3.g)
      refine tg x _ G3 H' hx (e3.wipe vs) n3.st.sub _ fun σ4 e4 w4 => ⟨w4.trans (wipe_idem vs), ?_⟩
      refine body σ4 G3 H' e4 n3.st.left _ fun b M3 G4 H4 k4 n4 => ?_
      have n4' := Po.frame n3.st n4
      cases b with
      | false =>
        refine iteF ?_
        exact ⟨acc, M3, G4, k4, n2.trans (n3.trans n4')⟩
      | true =>
        refine iteT ?_
        refine (show Ev T te ρ2 M3 _ from k4) σ4 G4 H4 (e4.mono n4.g) n4'.st.left _ fun y ψ M5 G5 H5 ⟨hz, k5⟩ p5 n5 => ?_
        have n5' := Po.frame n4'.st n5
        obtain ⟨_, oD5, hoD5, xs5, rfl, hxs5⟩ := n5'.st.at (at_last (M := M5) (e := (D, Mu.ml acc)))
        refine ⟨xs5, hoD5, by rw [hxs5.length]; exact hz, acc ++ [ψ], M5, G5, k5, ?_⟩
        have n6 := Po.wrote n5'.st (at_last (M := M5) (e := (D, Mu.ml acc))) (m' := Mu.ml (acc ++ [ψ])) (o' := .lst (xs5 ++ [y])) ⟨_, rfl, hxs5.append (.cons p5 .nil)⟩
        rw [set_last] at n6
        exact (n2.trans (n3.trans n4')).trans (n5'.trans n6)
    · have ei : i = φs.length := by omega
      subst ei
      refine .inl ⟨st, ?_⟩
      have n3 := Po.freezeL n2 hD hoD rfl
      exact q _ _ M2 _ H (fin acc M2 hI) ⟨D, xs, rfl, upd_same, hxs.mono (same_upd gD)⟩ (n1.trans n3)
theorem ev_lc {T : Tb} {ρ : Rho} {M : Mus} {K : Ks} {wi : TI} {g : TG} {tt : TT} {te : TE} {vs : List Nat}
    (h : EvI T wi ρ M fun φs M1 => ∃ Iv : Nat → List Mo → Mus → Prop, Iv 0 [] M1 ∧ (∀ (k : Nat) (φ : Mo) (acc : List Mo) (M2 : Mus), φs[k]? = some φ → Iv k acc M2 → ∃ ρ2, Tgt vs g φ (wipeR ρ vs) ρ2 ∧
      EvT T tt ρ2 M2 fun b M3 => if b = true then Ev T te ρ2 M3 fun ψ M4 => acc.length < sizeLine ∧ Iv (k + 1) (acc ++ [ψ]) M4 else Iv (k + 1) acc M3) ∧ ∀ acc M2, Iv φs.length acc M2 → K (Mo.ls acc) M2) : Ev T (tLc wi g tt te vs) ρ M K :=
  ev_lcR (R0 := []) fun σ G H e s R q => h σ G H e s R fun J φs M1 G1 H1 ⟨Iv, i0, step, fin⟩ n w => q J φs M1 G1 H1 ⟨Iv, fun _ _ _ _ _ z => (by cases z), i0, step, fin⟩ n w.r
theorem ls_d {ds : List PyData} {v : V} {G : Hp} (h : (Mo.ls (ds.map Mo.d)).p v G) : (Mo.d (.list ds)).p v G := by
  obtain ⟨a, xs, rfl, h1, h2⟩ := h
  exact Rep.lst h1 h2.rep
theorem Ev.conv {T : Tb} {ρ : Rho} {M : Mus} {K : Ks} {te : TE} (h : Ev T te ρ M fun φ M1 => ∃ ψ, (∀ v G, φ.p v G → ψ.p v G) ∧ K ψ M1) : Ev T te ρ M K := fun σ G H e s Q q => h σ G H e s Q fun v φ M1 G1 H1 ⟨ψ, c, k⟩ p n => q v ψ M1 G1 H1 k (c v G1 p) n
/-- the plain one: each item's test and element are known -/
theorem ev_lcP {T : Tb} {ρ : Rho} {M : Mus} {K : Ks} {wi : TI} {g : TG} {tt : TT} {te : TE} {vs : List Nat} (bq : PyData → Bool) (f : PyData → PyData)
    (h : EvI T wi ρ M fun φs M1 => ∃ ds : List PyData, φs = ds.map Mo.d ∧ ds.length ≤ sizeLine ∧ (∀ (k : Nat) (d : PyData), ds[k]? = some d → ∃ ρ2, Tgt vs g (Mo.d d) (wipeR ρ vs) ρ2 ∧
      EvT T tt ρ2 M1 fun b M3 => b = bq d ∧ M3 = M1 ∧ (bq d = true → Ev T te ρ2 M1 fun ψ M4 => ψ = Mo.d (f d) ∧ M4 = M1)) ∧ K (Mo.d (.list ((ds.filter bq).map f))) M1) : Ev T (tLc wi g tt te vs) ρ M K := by
  refine Ev.conv (ev_lc fun σ G H e s R q => h σ G H e s R fun J φs M1 G1 H1 k n wk => ?_)
  obtain ⟨ds, rfl, hz, step, fin⟩ := k
  refine q J _ M1 G1 H1 ⟨fun i acc M2 => i ≤ ds.length ∧ acc = (((ds.take i).filter bq).map f).map Mo.d ∧ M2 = M1, ⟨Nat.zero_le _, by simp, rfl⟩, ?_, ?_⟩ n wk
  · rintro k φ acc M2 hk ⟨hi, rfl, rfl⟩
    obtain ⟨d, hd, rfl⟩ := map_d_get hk
    have hlt := (List.getElem?_eq_some_iff.mp hd).1
    obtain ⟨ρ2, tg, body⟩ := step k d hd
    refine ⟨ρ2, tg, fun σ G H e s Q q => body σ G H e s Q fun b M3 G3 H3 ⟨hb, hM, hE⟩ n3 => q b M3 G3 H3 ?_ n3⟩
    subst hM hb
    have et : ds.take (k + 1) = ds.take k ++ [d] := by rw [List.take_add_one, hd] <;> rfl
    cases hb : bq d with
    | true =>
      refine iteT ?_
      refine (hE hb).imp fun ψ M4 ⟨e1, e2⟩ => ⟨?_, hlt, ?_, e2⟩
      · have h1 := List.length_filter_le bq (ds.take k)
        rw [List.length_map, List.length_map]
        rw [List.length_take] at h1
        omega
      · rw [e1, et, List.filter_append, List.filter_cons, if_pos hb, List.filter_nil, List.map_append, List.map_append] <;> rfl
    | false =>
      refine iteF ⟨hlt, ?_, rfl⟩
      rw [et, List.filter_append, List.filter_cons, if_neg (by rw [hb]; exact Bool.false_ne_true), List.filter_nil, List.append_nil]
  · rintro acc M2 ⟨_, e1, rfl⟩
    rw [List.length_map, List.take_length] at e1
    subst e1
    exact ⟨_, fun v G h => ls_d h, fin⟩
/-- without a test -/
theorem ev_lcM {T : Tb} {ρ : Rho} {M : Mus} {K : Ks} {wi : TI} {g : TG} {te : TE} {vs : List Nat} (f : PyData → PyData)
    (h : EvI T wi ρ M fun φs M1 => ∃ ds : List PyData, φs = ds.map Mo.d ∧ ds.length ≤ sizeLine ∧ (∀ (k : Nat) (d : PyData), ds[k]? = some d → ∃ ρ2, Tgt vs g (Mo.d d) (wipeR ρ vs) ρ2 ∧
      Ev T te ρ2 M1 fun ψ M4 => ψ = Mo.d (f d) ∧ M4 = M1) ∧ K (Mo.d (.list (ds.map f))) M1) : Ev T (tLc wi g tYes te vs) ρ M K := by
  refine ev_lcP (fun _ => true) f fun σ G H e s R q => h σ G H e s R fun J φs M1 G1 H1 k n wk => ?_
  obtain ⟨ds, rfl, hz, step, fin⟩ := k
  refine q J _ M1 G1 H1 ⟨ds, rfl, hz, fun k d hd => ?_, ?_⟩ n wk
  · obtain ⟨ρ2, tg, body⟩ := step k d hd
    exact ⟨ρ2, tg, et_yes ⟨rfl, rfl, fun _ => body⟩⟩
  · rw [List.filter_eq_self.mpr fun _ _ => rfl]
    exact fin
end Lv
/-! #### Rul -/
namespace Lv
open PySem L2 StX
section
variable {T : Tb} {ρ : Rho} {M : Mus} {K : Ks} {K0 : PySem.W.Frag} {φ ψ : Mo} {i j : Int} {d : PyData} {ds : List PyData}
/-! ### operators -/
theorem ov_I0 {g : Int → Int → V} (h : ∀ G, Rep G (g i j) d) (k : K (Mo.d d) M) : OpV T (rI0 g) (Mo.d (.int i)) (Mo.d (.int j)) M K := fun x y G H p1 p2 s Q q => ⟨i, j, rep_int p1, rep_int p2, q _ _ M G H k (h G) (Po.refl s)⟩
theorem ov_I {C : Int → Int → Prop} {g : Int → Int → V} (c : C i j) (h : ∀ G, Rep G (g i j) d) (k : K (Mo.d d) M) : OpV T (rI C g) (Mo.d (.int i)) (Mo.d (.int j)) M K := fun x y G H p1 p2 s Q q => ⟨i, j, rep_int p1, rep_int p2, c, q _ _ M G H k (h G) (Po.refl s)⟩
theorem ov_add (k : K (Mo.d (.int (i + j))) M) : OpV T (rI0 fun i j => .int (i + j)) (Mo.d (.int i)) (Mo.d (.int j)) M K := ov_I0 (fun _ => .int _) k
theorem ov_sub (k : K (Mo.d (.int (i - j))) M) : OpV T (rI0 fun i j => .int (i - j)) (Mo.d (.int i)) (Mo.d (.int j)) M K := ov_I0 (fun _ => .int _) k
theorem ov_lt (k : K (Mo.d (.bool (decide (i < j)))) M) : OpV T (rI0 fun i j => .bl (decide (i < j))) (Mo.d (.int i)) (Mo.d (.int j)) M K := ov_I0 (fun _ => .bl _) k
theorem ov_le (k : K (Mo.d (.bool (decide (i ≤ j)))) M) : OpV T (rI0 fun i j => .bl (decide (i ≤ j))) (Mo.d (.int i)) (Mo.d (.int j)) M K := ov_I0 (fun _ => .bl _) k
theorem ov_gt (k : K (Mo.d (.bool (decide (j < i)))) M) : OpV T (rI0 fun i j => .bl (decide (j < i))) (Mo.d (.int i)) (Mo.d (.int j)) M K := ov_I0 (fun _ => .bl _) k
theorem ov_ge (k : K (Mo.d (.bool (decide (j ≤ i)))) M) : OpV T (rI0 fun i j => .bl (decide (j ≤ i))) (Mo.d (.int i)) (Mo.d (.int j)) M K := ov_I0 (fun _ => .bl _) k
theorem ov_mod (c : 0 < j) (k : K (Mo.d (.int (i % j))) M) : OpV T (rI (fun _ j => 0 < j) fun i j => .int (i % j)) (Mo.d (.int i)) (Mo.d (.int j)) M K := ov_I c (fun _ => .int _) k
theorem ov_div (c : CDivW i j) (k : K (Mo.d (.int (i / j))) M) : OpV T (rI CDivW fun i j => .int (i / j)) (Mo.d (.int i)) (Mo.d (.int j)) M K := ov_I c (fun _ => .int _) k
theorem ov_mul (c : CMul i j) (k : K (Mo.d (.int (i * j))) M) : OpV T (rI CMul fun i j => .int (i * j)) (Mo.d (.int i)) (Mo.d (.int j)) M K := ov_I c (fun _ => .int _) k
theorem dec_vint : decide (V.int i = V.int j) = decide (i = j) := by
  by_cases h : i = j
  · rw [h, decide_eq_true rfl, decide_eq_true rfl]
  · rw [decide_eq_false h, decide_eq_false (fun z => h (V.int.inj z))]
theorem dec_vstr {i j : Str} : decide (V.str i = V.str j) = decide (i = j) := by
  by_cases h : i = j
  · rw [h, decide_eq_true rfl, decide_eq_true rfl]
  · rw [decide_eq_false h, decide_eq_false (fun z => h (V.str.inj z))]
theorem ov_eqI (k : K (Mo.d (.bool (decide (i = j)))) M) : OpV T rEq (Mo.d (.int i)) (Mo.d (.int j)) M K := fun x y G H p1 p2 s Q q => by
  rw [rep_int p1, rep_int p2]
  exact ⟨rfl, q _ _ M G H k (by rw [dec_vint]; exact Rep.bl _) (Po.refl s)⟩
theorem ov_neI (k : K (Mo.d (.bool (!decide (i = j)))) M) : OpV T rNe (Mo.d (.int i)) (Mo.d (.int j)) M K := fun x y G H p1 p2 s Q q => by
  rw [rep_int p1, rep_int p2]
  exact ⟨rfl, q _ _ M G H k (by rw [dec_vint]; exact Rep.bl _) (Po.refl s)⟩
theorem ov_eqS {a b : Str} (k : K (Mo.d (.bool (decide (a = b)))) M) : OpV T rEq (Mo.d (.str a)) (Mo.d (.str b)) M K := fun x y G H p1 p2 s Q q => by
  rw [rep_str p1, rep_str p2]
  exact ⟨rfl, q _ _ M G H k (by rw [dec_vstr]; exact Rep.bl _) (Po.refl s)⟩
theorem ov_eqD {a b : PyData} (ha : SeqAt.shaped a = true) (hb : SeqAt.shaped b = true) (k : K (Mo.d (.bool (PyData.eqv a b))) M) : OpV T (rEqD K0) (Mo.d a) (Mo.d b) M K := fun x y G H p1 p2 s Q q =>
  ⟨a, b, (p1.mono s.sub).dp, (p2.mono s.sub).dp, ha, hb, q _ _ M G H k (Rep.bl _) (Po.refl s)⟩
theorem ov_neD {a b : PyData} (ha : SeqAt.shaped a = true) (hb : SeqAt.shaped b = true) (k : K (Mo.d (.bool (!PyData.eqv a b))) M) : OpV T (rNeD K0) (Mo.d a) (Mo.d b) M K := fun x y G H p1 p2 s Q q =>
  ⟨a, b, (p1.mono s.sub).dp, (p2.mono s.sub).dp, ha, hb, q _ _ M G H k (Rep.bl _) (Po.refl s)⟩
/-- a list that changes, compared -/
theorem dp_mu {p : Addr} {n : Nat} {x : V} {G H : Hp} (s : Sta T M G H) (hj : M[n]? = some (p, Mu.dl ds)) (px : (Mo.adr p).p x G) : Dp K0 H x (.list ds) := by
  obtain ⟨_, o, ho, xs, rfl, hr⟩ := s.at hj
  rw [show x = .ref p from px]
  exact .lst (SqL.of ho) (hr.mono s.sub).dp
theorem ov_neM {p : Addr} {n : Nat} {b : PyData} (hj : M[n]? = some (p, Mu.dl ds)) (ha : SeqAt.shaped (.list ds) = true) (hb : SeqAt.shaped b = true) (k : K (Mo.d (.bool (!PyData.eqv (.list ds) b))) M) : OpV T (rNeD K0) (Mo.adr p) (Mo.d b) M K := fun x y G H p1 p2 s Q q =>
  ⟨_, b, dp_mu s hj p1, (p2.mono s.sub).dp, ha, hb, q _ _ M G H k (Rep.bl _) (Po.refl s)⟩
theorem atI_mem {α : Type} {xs : List α} {n : Nat} {v : α} (h : xs[n]? = some v) : atI xs ((n : Nat) : Int) = some v := atI_nat h
/-- an item -/
theorem ov_ixL {n : Nat} (hi : ds[n]? = some d) (k : K (Mo.d d) M) : OpV T (rIx K0) (Mo.d (.list ds)) (Mo.d (.int (n : Int))) M K := fun x y G H p1 p2 s Q q => by
  obtain ⟨a, xs, h1, h2, h3⟩ := rep_list p1
  obtain ⟨v, h4, h5⟩ := h3.get hi
  exact .inl ⟨a, xs, _, v, h1, rep_int p2, SqL.of (s.sub _ _ h2), atI_nat h4, q _ _ M G H k h5 (Po.refl s)⟩
theorem ov_ixT {n : Nat} (hi : ds[n]? = some d) (k : K (Mo.d d) M) : OpV T (rIx K0) (Mo.d (.tuple ds)) (Mo.d (.int (n : Int))) M K := fun x y G H p1 p2 s Q q => by
  obtain ⟨a, xs, h1, h2, h3⟩ := rep_tup p1
  obtain ⟨v, h4, h5⟩ := h3.get hi
  exact .inr (.inl ⟨a, xs, _, v, h1, rep_int p2, SqT.of (s.sub _ _ h2), atI_nat h4, q _ _ M G H k h5 (Po.refl s)⟩)
theorem ov_ixM {p : Addr} {m n : Nat} (hj : M[m]? = some (p, Mu.dl ds)) (hi : ds[n]? = some d) (k : K (Mo.d d) M) : OpV T (rIx K0) (Mo.adr p) (Mo.d (.int (n : Int))) M K := fun x y G H p1 p2 s Q q => by
  obtain ⟨_, o, ho, xs, rfl, h3⟩ := s.at hj
  obtain ⟨v, h4, h5⟩ := h3.get hi
  exact .inl ⟨p, xs, _, v, p1, rep_int p2, SqL.of ho, atI_nat h4, q _ _ M G H k h5 (Po.refl s)⟩
theorem ov_ixLs {φs : List Mo} {n : Nat} (hi : φs[n]? = some ψ) (k : K ψ M) : OpV T (rIx K0) (Mo.ls φs) (Mo.d (.int (n : Int))) M K := fun x y G H p1 p2 s Q q => by
  obtain ⟨a, xs, h1, h2, h3⟩ := p1
  obtain ⟨v, h4, h5⟩ := h3.get hi
  exact .inl ⟨a, xs, _, v, h1, rep_int p2, SqL.of (s.sub _ _ h2), atI_nat h4, q _ _ M G H k h5 (Po.refl s)⟩
/-- the last item -/
theorem ov_ixLast (hi : ds.getLast? = some d) (k : K (Mo.d d) M) : OpV T (rIx K0) (Mo.d (.list ds)) (Mo.d (.int (-1))) M K := fun x y G H p1 p2 s Q q => by
  obtain ⟨a, xs, h1, h2, h3⟩ := rep_list p1
  have hl := h3.length
  rw [List.getLast?_eq_getElem?] at hi
  obtain ⟨v, h4, h5⟩ := h3.get hi
  have hlt := (List.getElem?_eq_some_iff.mp h4).1
  have e : atI xs (-1) = some v := by
    unfold atI ixN
    rw [if_neg (by omega), if_pos (by omega)]
    show xs[(-1 + (xs.length : Int)).toNat]? = some v
    rw [show (-1 + (xs.length : Int)).toNat = ds.length - 1 by omega]
    exact h4
  exact .inl ⟨a, xs, _, v, h1, rep_int p2, SqL.of (s.sub _ _ h2), e, q _ _ M G H k h5 (Po.refl s)⟩
/-! ### in -/
theorem inV_strs {x : Str} {ss : List Str} : inV (.str x) (ss.map V.str) = decide (x ∈ ss) := by
  unfold inV
  induction ss with
  | nil => rfl
  | cons y r ih =>
    rw [List.map_cons, List.any_cons, ih]
    have e : eqV (.str y) (.str x) = decide (y = x) := by
      show (y == x) = decide (y = x)
      by_cases h : y = x
      · rw [h, decide_eq_true rfl]; exact beq_self_eq_true x
      · rw [decide_eq_false h]; exact beq_eq_false_iff_ne.mpr h
    rw [e]
    by_cases h : y = x
    · subst h; simp
    · have h' : ¬ x = y := fun z => h z.symm
      simp [h, h']
theorem inV_ints {x : Int} {ss : List Int} : inV (.int x) (ss.map V.int) = decide (x ∈ ss) := by
  unfold inV
  induction ss with
  | nil => rfl
  | cons y r ih =>
    rw [List.map_cons, List.any_cons, ih]
    have e : eqV (.int y) (.int x) = decide (y = x) := by
      show (y == x) = decide (y = x)
      by_cases h : y = x
      · rw [h, decide_eq_true rfl]; exact beq_self_eq_true x
      · rw [decide_eq_false h]; exact beq_eq_false_iff_ne.mpr h
    rw [e]
    by_cases h : y = x
    · subst h; simp
    · have h' : ¬ x = y := fun z => h z.symm
      simp [h, h']
theorem flat_strs (ss : List Str) : (ss.map V.str).all flatV = true := by
  rw [List.all_eq_true]
  intro v hv
  obtain ⟨x, _, rfl⟩ := List.mem_map.mp hv
  rfl
theorem flat_ints (ss : List Int) : (ss.map V.int).all flatV = true := by
  rw [List.all_eq_true]
  intro v hv
  obtain ⟨x, _, rfl⟩ := List.mem_map.mp hv
  rfl
abbrev strL (ss : List Str) : PyData := .list (ss.map PyData.str)
abbrev intL (ss : List Int) : PyData := .list (ss.map PyData.int)
theorem ov_inS {b : Bool} {x : Str} {ss : List Str} (k : K (Mo.d (.bool (if b = true then !decide (x ∈ ss) else decide (x ∈ ss)))) M) : OpV T (rIn K0 b) (Mo.d (.str x)) (Mo.d (strL ss)) M K := fun u y G H p1 p2 s Q q => by
  obtain ⟨a, xs, h1, h2, h3⟩ := rep_list p2
  have e := h3.strs
  subst e
  rw [rep_str p1]
  refine ⟨a, _, h1, .inl (SqL.of (s.sub _ _ h2)), rfl, flat_strs ss, q _ _ M G H k (by rw [inV_strs]; exact Rep.bl _) (Po.refl s)⟩
theorem ov_inI {b : Bool} {x : Int} {ss : List Int} (k : K (Mo.d (.bool (if b = true then !decide (x ∈ ss) else decide (x ∈ ss)))) M) : OpV T (rIn K0 b) (Mo.d (.int x)) (Mo.d (intL ss)) M K := fun u y G H p1 p2 s Q q => by
  obtain ⟨a, xs, h1, h2, h3⟩ := rep_list p2
  have e := h3.ints
  subst e
  rw [rep_int p1]
  refine ⟨a, _, h1, .inl (SqL.of (s.sub _ _ h2)), rfl, flat_ints ss, q _ _ M G H k (by rw [inV_ints]; exact Rep.bl _) (Po.refl s)⟩
/-- .. where the list may change -/
theorem ov_inSM {p : Addr} {n : Nat} {b : Bool} {x : Str} {ss : List Str} (hj : M[n]? = some (p, Mu.dl (ss.map PyData.str))) (k : K (Mo.d (.bool (if b = true then !decide (x ∈ ss) else decide (x ∈ ss)))) M) : OpV T (rIn K0 b) (Mo.d (.str x)) (Mo.adr p) M K := fun u y G H p1 p2 s Q q => by
  obtain ⟨_, o, ho, xs, rfl, h3⟩ := s.at hj
  have e := h3.strs
  subst e
  rw [rep_str p1]
  refine ⟨p, _, p2, .inl (SqL.of ho), rfl, flat_strs ss, q _ _ M G H k (by rw [inV_strs]; exact Rep.bl _) (Po.refl s)⟩
theorem ov_inIM {p : Addr} {n : Nat} {b : Bool} {x : Int} {ss : List Int} (hj : M[n]? = some (p, Mu.dl (ss.map PyData.int))) (k : K (Mo.d (.bool (if b = true then !decide (x ∈ ss) else decide (x ∈ ss)))) M) : OpV T (rIn K0 b) (Mo.d (.int x)) (Mo.adr p) M K := fun u y G H p1 p2 s Q q => by
  obtain ⟨_, o, ho, xs, rfl, h3⟩ := s.at hj
  have e := h3.ints
  subst e
  rw [rep_int p1]
  refine ⟨p, _, p2, .inl (SqL.of ho), rfl, flat_ints ss, q _ _ M G H k (by rw [inV_ints]; exact Rep.bl _) (Po.refl s)⟩
/-- a sign in a text -/
def rInSg : R2 := fun x y H Q => ∃ (c : Nat) (z : Str), x = .str ⟨#[c]⟩ ∧ y = .str z ∧ Q (.bl (decide (c ∈ z.cps.toList))) H
theorem o_inSg {X : Cx} : OpR X (compareOp .In) rInSg := op_in_sign
theorem ov_inSg {c : Nat} {z : Str} (k : K (Mo.d (.bool (decide (c ∈ z.cps.toList)))) M) : OpV T rInSg (Mo.d (.str ⟨#[c]⟩)) (Mo.d (.str z)) M K := fun u y G H p1 p2 s Q q =>
  ⟨c, z, rep_str p1, rep_str p2, q _ _ M G H k (Rep.bl _) (Po.refl s)⟩
/-! ### texts, lists together -/
def rCatS : R2 := fun x y H Q => ∃ i j, x = .str i ∧ y = .str j ∧ i.length + j.length ≤ sizeLine ∧ Q (.str (i ++ j)) H
theorem o_catS {X : Cx} : OpR X (binaryOp .Add) rCatS := op_add_str
theorem ov_catS {a b : Str} (hl : a.length + b.length ≤ sizeLine) (k : K (Mo.d (.str (a ++ b))) M) : OpV T rCatS (Mo.d (.str a)) (Mo.d (.str b)) M K := fun u y G H p1 p2 s Q q =>
  ⟨a, b, rep_str p1, rep_str p2, hl, q _ _ M G H k (Rep.str _) (Po.refl s)⟩
theorem ov_cat {es : List PyData} (hl : ds.length + es.length ≤ sizeLine) (k : K (Mo.d (.list (ds ++ es))) M) : OpV T rCat (Mo.d (.list ds)) (Mo.d (.list es)) M K := fun u y G H p1 p2 s Q q => by
  obtain ⟨a, xs, h1, h2, h3⟩ := rep_list p1
  obtain ⟨b, ys, g1, g2, g3⟩ := rep_list p2
  refine ⟨a, b, xs, ys, h1, g1, s.sub _ _ h2, s.sub _ _ g2, by rw [h3.length, g3.length]; exact hl, fun p hp => ?_⟩
  exact q _ _ M _ _ k (Rep.lst upd_same ((h3.append g3).mono (same_upd (sub_none s.sub hp)))) (Po.laid s hp)
/-! ### built-ins -/
def rLen (K0 : PySem.W.Frag) : List V → Hp → VK → Prop := fun xs H Q => ∃ x n, xs = [x] ∧ LenV K0 x H n ∧ Q (.int n) H
theorem c_len {X : Cx} : CallR X (.builtin "len") (rLen X.K) := call_len
theorem one {G : Hp} {xs : List V} (h : MoAll G xs [φ]) : ∃ x, xs = [x] ∧ φ.p x G := by
  cases h with
  | cons a b =>
    cases b
    exact ⟨_, rfl, a⟩
theorem two {G : Hp} {xs : List V} (h : MoAll G xs [φ, ψ]) : ∃ x y, xs = [x, y] ∧ φ.p x G ∧ ψ.p y G := by
  cases h with
  | cons a b =>
    cases b with
    | cons b c =>
      cases c
      exact ⟨_, _, rfl, a, b⟩
theorem cv_lenL (k : K (Mo.d (.int (ds.length : Int))) M) : CbV T (rLen K0) [Mo.d (.list ds)] M K := fun xs G H p s Q q => by
  obtain ⟨x, rfl, hx⟩ := one p
  obtain ⟨a, ys, rfl, h2, h3⟩ := rep_list hx
  exact ⟨_, ds.length, rfl, .inl ⟨ys, SqL.of (s.sub _ _ h2), h3.length.symm⟩, q _ _ M G H k (Rep.int _) (Po.refl s)⟩
theorem cv_lenT (k : K (Mo.d (.int (ds.length : Int))) M) : CbV T (rLen K0) [Mo.d (.tuple ds)] M K := fun xs G H p s Q q => by
  obtain ⟨x, rfl, hx⟩ := one p
  obtain ⟨a, ys, rfl, h2, h3⟩ := rep_tup hx
  exact ⟨_, ds.length, rfl, .inr ⟨ys, SqT.of (s.sub _ _ h2), h3.length.symm⟩, q _ _ M G H k (Rep.int _) (Po.refl s)⟩
theorem cv_lenS {x : Str} (hl : x.length ≤ sizeLine) (k : K (Mo.d (.int (x.length : Int))) M) : CbV T (rLen K0) [Mo.d (.str x)] M K := fun xs G H p s Q q => by
  obtain ⟨y, rfl, hx⟩ := one p
  rw [rep_str hx]
  exact ⟨_, x.length, rfl, ⟨hl, rfl⟩, q _ _ M G H k (Rep.int _) (Po.refl s)⟩
theorem cv_lenM {p : Addr} {n : Nat} (hj : M[n]? = some (p, Mu.dl ds)) (k : K (Mo.d (.int (ds.length : Int))) M) : CbV T (rLen K0) [Mo.adr p] M K := fun xs G H hp s Q q => by
  obtain ⟨x, rfl, hx⟩ := one hp
  obtain ⟨_, o, ho, ys, rfl, h3⟩ := s.at hj
  rw [show x = .ref p from hx]
  exact ⟨_, ds.length, rfl, .inl ⟨ys, SqL.of ho, h3.length.symm⟩, q _ _ M G H k (Rep.int _) (Po.refl s)⟩
def rLenD : List V → Hp → VK → Prop := fun xs H Q => ∃ a kvs, xs = [V.ref a] ∧ H a = some (.dK kvs) ∧ Q (.int kvs.length) H
theorem c_lenD {X : Cx} : CallR X (.builtin "len") rLenD := call_lenD
theorem cv_lenD {p : Addr} {n : Nat} {kvs : List (Key × Mo)} (hj : M[n]? = some (p, Mu.dk kvs)) (k : K (Mo.d (.int (kvs.length : Int))) M) : CbV T rLenD [Mo.adr p] M K := fun xs G H hp s Q q => by
  obtain ⟨x, rfl, hx⟩ := one hp
  obtain ⟨_, o, ho, ys, rfl, h3⟩ := s.at hj
  rw [show x = .ref p from hx]
  exact ⟨_, ys, rfl, ho, by rw [KvOk.length h3]; exact q _ _ M G H k (Rep.int _) (Po.refl s)⟩
def rMax2 : List V → Hp → VK → Prop := fun xs H Q => ∃ i j, xs = [.int i, .int j] ∧ Q (.int (if j > i then j else i)) H
theorem c_max2 {X : Cx} (hc : X.calm = true) : CallR X (.builtin "max") rMax2 := call_max2 hc
theorem cv_max2 (k : K (Mo.d (.int (if j > i then j else i))) M) : CbV T rMax2 [Mo.d (.int i), Mo.d (.int j)] M K := fun xs G H p s Q q => by
  obtain ⟨x, y, rfl, hx, hy⟩ := two p
  rw [rep_int hx, rep_int hy]
  exact ⟨i, j, rfl, q _ _ M G H k (Rep.int _) (Po.refl s)⟩
def rMin2 : List V → Hp → VK → Prop := fun xs H Q => ∃ i j, xs = [.int i, .int j] ∧ Q (.int (if j < i then j else i)) H
theorem c_min2 {X : Cx} (hc : X.calm = true) : CallR X (.builtin "min") rMin2 := call_min2 hc
theorem cv_min2 (k : K (Mo.d (.int (if j < i then j else i))) M) : CbV T rMin2 [Mo.d (.int i), Mo.d (.int j)] M K := fun xs G H p s Q q => by
  obtain ⟨x, y, rfl, hx, hy⟩ := two p
  rw [rep_int hx, rep_int hy]
  exact ⟨i, j, rfl, q _ _ M G H k (Rep.int _) (Po.refl s)⟩
theorem cv_maxL {ns : List Int} (h0 : 0 < ns.length) (k : ∀ m, m ∈ ns → (∀ y, y ∈ ns → y ≤ m) → K (Mo.d (.int m)) M) : CbV T (L2.rMax K0) [Mo.d (intL ns)] M K := fun xs G H p s Q q => by
  obtain ⟨x, rfl, hx⟩ := one p
  obtain ⟨a, ys, rfl, h2, h3⟩ := rep_list hx
  have e := h3.ints
  subst e
  exact ⟨a, ns, rfl, SqL.of (s.sub _ _ h2), h0, fun m h1 h2 => q _ _ M G H (k m h1 h2) (Rep.int _) (Po.refl s)⟩
def rIntC : List V → Hp → VK → Prop := fun xs H Q => (∃ i, xs = [.int i] ∧ Q (.int i) H) ∨ ∃ k, xs = [.bl k] ∧ Q (.int (if k then 1 else 0)) H
theorem c_int {X : Cx} : CallR X (.type "int") rIntC := call_int1
theorem cv_intI (k : K (Mo.d (.int i)) M) : CbV T rIntC [Mo.d (.int i)] M K := fun xs G H p s Q q => by
  obtain ⟨x, rfl, hx⟩ := one p
  rw [rep_int hx]
  exact .inl ⟨i, rfl, q _ _ M G H k (Rep.int _) (Po.refl s)⟩
theorem cv_intB {b : Bool} (k : K (Mo.d (.int (if b then 1 else 0))) M) : CbV T rIntC [Mo.d (.bool b)] M K := fun xs G H p s Q q => by
  obtain ⟨x, rfl, hx⟩ := one p
  rw [rep_bool hx]
  exact .inr ⟨b, rfl, q _ _ M G H k (Rep.int _) (Po.refl s)⟩
def rListC (K0 : PySem.W.Frag) : List V → Hp → VK → Prop := fun xs H Q => ∃ p ys, xs = [.ref p] ∧ (SqL K0 H p ys ∨ SqT K0 H p ys) ∧ ∀ l, H l = none → Q (.ref l) (upd H l (.lst ys))
theorem c_list {X : Cx} : CallR X (.type "list") (rListC X.K) := call_list_of
theorem seq_of {x : V} {G H : Hp} (s : Same G H) (h : (Mo.d (.list ds)).p x G ∨ (Mo.d (.tuple ds)).p x G) : ∃ a ys, x = .ref a ∧ (SqL K0 H a ys ∨ SqT K0 H a ys) ∧ RepL G ys ds := by
  rcases h with h | h
  · obtain ⟨a, ys, h1, h2, h3⟩ := rep_list h
    exact ⟨a, ys, h1, .inl (SqL.of (s _ _ h2)), h3⟩
  · obtain ⟨a, ys, h1, h2, h3⟩ := rep_tup h
    exact ⟨a, ys, h1, .inr (SqT.of (s _ _ h2)), h3⟩
theorem cv_list (hφ : φ = Mo.d (.list ds) ∨ φ = Mo.d (.tuple ds)) (k : K (Mo.d (.list ds)) M) : CbV T (rListC K0) [φ] M K := fun xs G H p s Q q => by
  obtain ⟨x, rfl, hx⟩ := one p
  obtain ⟨a, ys, rfl, h2, h3⟩ := seq_of (K0 := K0) (ds := ds) s.sub (hφ.elim (fun e => .inl (e ▸ hx)) fun e => .inr (e ▸ hx))
  exact ⟨a, ys, rfl, h2, fun l hl => q _ _ M _ _ k (Rep.lst upd_same (h3.mono (same_upd (sub_none s.sub hl)))) (Po.laid s hl)⟩
theorem cv_listM (hφ : φ = Mo.d (.list ds) ∨ φ = Mo.d (.tuple ds)) (k : ∀ l, K (Mo.adr l) (M ++ [(l, Mu.dl ds)])) : CbV T (rListC K0) [φ] M K := fun xs G H p s Q q => by
  obtain ⟨x, rfl, hx⟩ := one p
  obtain ⟨a, ys, rfl, h2, h3⟩ := seq_of (K0 := K0) (ds := ds) s.sub (hφ.elim (fun e => .inl (e ▸ hx)) fun e => .inr (e ▸ hx))
  exact ⟨a, ys, rfl, h2, fun l hl => q _ (Mo.adr l) _ _ _ (k l) rfl (Po.laidM s hl (m := Mu.dl ds) ⟨ys, rfl, h3⟩)⟩
def rTupC (K0 : PySem.W.Frag) : List V → Hp → VK → Prop := fun xs H Q => ∃ p ys, xs = [.ref p] ∧ ((SqL K0 H p ys ∧ ∀ l, H l = none → Q (.ref l) (upd H l (.tup ys))) ∨ (SqT K0 H p ys ∧ Q (.ref p) H))
theorem c_tuple {X : Cx} : CallR X (.type "tuple") (rTupC X.K) := call_tuple_of
theorem cv_tuple (k : K (Mo.d (.tuple ds)) M) : CbV T (rTupC K0) [Mo.d (.list ds)] M K := fun xs G H p s Q q => by
  obtain ⟨x, rfl, hx⟩ := one p
  obtain ⟨a, ys, rfl, h2, h3⟩ := rep_list hx
  exact ⟨a, ys, rfl, .inl ⟨SqL.of (s.sub _ _ h2), fun l hl => q _ _ M _ _ k (Rep.tup upd_same (h3.mono (same_upd (sub_none s.sub hl)))) (Po.laid s hl)⟩⟩
theorem cv_tupleM {p : Addr} {n : Nat} (hj : M[n]? = some (p, Mu.dl ds)) (k : K (Mo.d (.tuple ds)) M) : CbV T (rTupC K0) [Mo.adr p] M K := fun xs G H hp s Q q => by
  obtain ⟨x, rfl, hx⟩ := one hp
  obtain ⟨_, o, ho, ys, rfl, h3⟩ := s.at hj
  rw [show x = .ref p from hx]
  exact ⟨p, ys, rfl, .inl ⟨SqL.of ho, fun l hl => q _ _ M _ _ k (Rep.tup upd_same (h3.mono (same_upd (sub_none s.sub hl)))) (Po.laid s hl)⟩⟩
theorem cv_all {bs : List Bool} (k : K (Mo.d (.bool (bs.all id))) M) : CbV T (rAll K0) [Mo.d (.list (bs.map PyData.bool))] M K := fun xs G H p s Q q => by
  obtain ⟨x, rfl, hx⟩ := one p
  obtain ⟨a, ys, rfl, h2, h3⟩ := rep_list hx
  have e := h3.bools
  subst e
  exact ⟨a, bs, rfl, SqL.of (s.sub _ _ h2), q _ _ M G H k (Rep.bl _) (Po.refl s)⟩
/-- sorted, of ints -/
theorem cv_sortI {ns : List Int} (k : ∀ ns' : List Int, ns'.Perm ns → ns'.Pairwise (· ≤ ·) → K (Mo.d (intL ns')) M) : CbV T (rSortedI K0) [Mo.d (intL ns)] M K := fun xs G H p s Q q => by
  obtain ⟨x, rfl, hx⟩ := one p
  obtain ⟨a, ys, rfl, h2, h3⟩ := rep_list hx
  have e := h3.ints
  subst e
  exact ⟨a, ns, rfl, SqL.of (s.sub _ _ h2), fun ns' l hp hs hl => q _ _ M _ _ (k ns' hp hs) (Rep.lst upd_same (RepL.of_ints ns')) (Po.laid s hl)⟩
/-! ### isinstance -/
def tyD : PyData → String
  | .none => "NoneType"
  | .bool _ => "bool"
  | .int _ => "int"
  | .str _ => "str"
  | .list _ => "list"
  | .tuple _ => "tuple"
  | .dict _ => "dict"
theorem tyX_of {x : V} {G H : Hp} (s : Same G H) (h : Rep G x d) : TyX K0 H x (.type (tyD d)) := by
  cases h with
  | non => exact .base .non
  | bl b => exact .base (.bl b)
  | int i => exact .base (.int i)
  | str x => exact .base (.str x)
  | lst h _ => exact .base (.lst (s _ _ h))
  | tup h _ => exact .base (.tup (s _ _ h))
theorem cv_isi {n : String} {b : Bool} (a : String) (ha : tyD d = a) (h : kitB a n = some b) (k : K (Mo.d (.bool b)) M) : CbV T (rIsi K0) [Mo.d d, Mo.ty n] M K := fun xs G H p s Q q => by
  obtain ⟨x, y, rfl, hx, hy⟩ := two p
  rw [show y = .ty n from hy]
  subst ha
  exact ⟨x, .ty n, _, _, b, rfl, .ty n, tyX_of s.sub hx, kit_ty h, q _ _ M G H k (Rep.bl _) (Po.refl s)⟩
/-- isinstance(x, (list, tuple)) -/
theorem ev_isLine {te : TE} {n1 n2 : String} (h : Ev T te ρ M fun φ M1 => ∃ d b, φ = Mo.d d ∧ PySem.W.kitAny K0 (.type (tyD d)) [.type n1, .type n2] = some b ∧ K (Mo.d (.bool b)) M1) :
    Ev T (tCB (rIsiT K0) (tCons te (tCons (tTup (tCons (tC (.ty n1)) (tCons (tC (.ty n2)) tNil))) tNil))) ρ M K := fun σ G H e s Q q =>
  h.run e s fun x φ M1 G1 H1 ⟨d, b, e1, e2, k⟩ p1 n1' => by
    subst e1
    refine ⟨by show 2 ≤ sizeLine; decide, fun p hp => ?_⟩
    refine ⟨x, p, [.ty n1, .ty n2], _, [.type n1, .type n2], b, rfl, upd_same, .cons (.ty n1) (.cons (.ty n2) .nil), tyX_of ((n1'.st.sub).trans (same_upd hp)) p1, e2, ?_⟩
    exact q _ _ M1 _ _ k (Rep.bl _) (n1'.trans (Po.laid n1'.st hp))
theorem idx_ne {α : Type} [BEq α] [LawfulBEq α] {x w : α} : ∀ {ss : List α} {m : Nat}, m < ss.idxOf x → ss[m]? = some w → w ≠ x
  | [], _, _, h => by simp at h
  | y :: r, m, hm, h => by
    rw [List.idxOf_cons] at hm
    cases hb : y == x with
    | true =>
      rw [hb] at hm
      exact absurd hm (Nat.not_lt_zero _)
    | false =>
      rw [hb] at hm
      cases m with
      | zero =>
        cases h
        exact beq_eq_false_iff_ne.mp hb
      | succ m => exact idx_ne (ss := r) (m := m) (by simpa using hm) (by simpa using h)
/-! ### methods of lists -/
theorem tyV_l {p : Addr} {xs : List V} {H : Hp} (h : H p = some (.lst xs)) : tyV K0 "list" (.ref p) H := .inl ⟨rfl, xs, SqL.of h⟩
theorem ev_append {to : TE} {tr : TA} (h : Ev T to ρ M fun φ M1 => ∃ p, φ = Mo.adr p ∧ (∃ (n : Nat) (ds : List PyData), M1[n]? = some (p, Mu.dl ds)) ∧ EvA T tr ρ M1 fun φs M2 => ∃ (d : PyData) (n : Nat) (ds : List PyData), φs = [Mo.d d] ∧ M2[n]? = some (p, Mu.dl ds) ∧ ds.length < sizeLine ∧ K (Mo.d .none) (M2.set n (p, Mu.dl (ds ++ [d])))) :
    Ev T (tBM K0 "list" rAppend to tr) ρ M K := fun σ G H e s Q q =>
  h.run e s fun x φ M1 G1 H1 ⟨p, e1, ⟨n, ds, hn⟩, k⟩ p1 n1 => by
    subst e1
    obtain ⟨_, o, ho, ys, rfl, _⟩ := n1.st.at hn
    rw [show x = .ref p from p1]
    refine ⟨tyV_l ho, k σ G1 H1 (e.mono n1.g) n1.st _ fun vs φs M2 G2 H2 ⟨d, n2, ds2, e2, hn2, hl, k2⟩ p2 m2 => ?_⟩
    subst e2
    obtain ⟨y, rfl, hy⟩ := one p2
    obtain ⟨_, o, ho2, zs, rfl, hz⟩ := m2.st.at hn2
    refine ⟨p, zs, y, rfl, rfl, ho2, by rw [hz.length]; exact hl, ?_⟩
    exact q _ _ _ _ _ k2 Rep.non ((n1.trans m2).trans (Po.wrote m2.st hn2 (m' := Mu.dl (ds2 ++ [d])) ⟨_, rfl, hz.append (.one hy)⟩))
theorem ev_popAt {to : TE} {tr : TA} (h : Ev T to ρ M fun φ M1 => ∃ p, φ = Mo.adr p ∧ (∃ (n : Nat) (ds : List PyData), M1[n]? = some (p, Mu.dl ds)) ∧ EvA T tr ρ M1 fun φs M2 => ∃ (i n : Nat) (ds : List PyData) (d : PyData), φs = [Mo.d (.int (i : Int))] ∧ M2[n]? = some (p, Mu.dl ds) ∧ ds[i]? = some d ∧ (i : Int) < 2 ^ 63 ∧ K (Mo.d d) (M2.set n (p, Mu.dl (ds.eraseIdx i)))) :
    Ev T (tBM K0 "list" rPopAt to tr) ρ M K := fun σ G H e s Q q =>
  h.run e s fun x φ M1 G1 H1 ⟨p, e1, ⟨n, ds, hn⟩, k⟩ p1 n1 => by
    subst e1
    obtain ⟨_, o, ho, ys, rfl, _⟩ := n1.st.at hn
    rw [show x = .ref p from p1]
    refine ⟨tyV_l ho, k σ G1 H1 (e.mono n1.g) n1.st _ fun vs φs M2 G2 H2 ⟨i, n2, ds2, d, e2, hn2, hd, hi, k2⟩ p2 m2 => ?_⟩
    subst e2
    obtain ⟨y, rfl, hy⟩ := one p2
    obtain ⟨_, o, ho2, zs, rfl, hz⟩ := m2.st.at hn2
    obtain ⟨w, hw1, hw2⟩ := hz.get hd
    rw [rep_int hy]
    obtain ⟨jj, a1, a2, a3, _, _⟩ := atI_get (atI_nat hw1)
    have hlt := (List.getElem?_eq_some_iff.mp hw1).1
    have hsi : seqIndex? (i : Int) zs.length = some i := by
      have := (ixN_seq (n := zs.length) (i := (i : Int)) (j := i) (by unfold ixN; rw [if_pos (by omega), if_pos (by omega), Int.toNat_natCast])).1
      exact this
    refine ⟨p, zs, (i : Int), i, w, rfl, rfl, ho2, by omega, hi, hsi, hw1, ?_⟩
    exact q _ _ _ _ _ k2 hw2 ((n1.trans m2).trans (Po.wrote m2.st hn2 (m' := Mu.dl (ds2.eraseIdx i)) ⟨_, rfl, hz.erase i⟩))
/-- the place of a text in a list of texts, of an int in a list of ints -/
theorem ev_indexS {to : TE} {tr : TA} (h : Ev T to ρ M fun φ M1 => ∃ ss : List Str, φ = Mo.d (strL ss) ∧ EvA T tr ρ M1 fun φs M2 => ∃ x, φs = [Mo.d (.str x)] ∧ x ∈ ss ∧ K (Mo.d (.int ((ss.idxOf x : Nat) : Int))) M2) :
    Ev T (tBM K0 "list" (rIndex K0) to tr) ρ M K := fun σ G H e s Q q =>
  h.run e s fun x φ M1 G1 H1 ⟨ss, e1, k⟩ p1 n1 => by
    subst e1
    obtain ⟨a, ys, rfl, h2, h3⟩ := rep_list p1
    have ez := h3.strs
    subst ez
    refine ⟨tyV_l (n1.st.sub _ _ h2), k σ G1 H1 (e.mono n1.g) n1.st _ fun vs φs M2 G2 H2 ⟨x, e2, hx, k2⟩ p2 m2 => ?_⟩
    subst e2
    obtain ⟨y, rfl, hy⟩ := one p2
    rw [rep_str hy]
    have hlt := List.idxOf_lt_length_of_mem hx
    have hg : (ss.map V.str)[ss.idxOf x]? = some (.str x) := by
      rw [List.getElem?_map, List.getElem?_eq_getElem hlt, List.getElem_idxOf] <;> rfl
    refine ⟨a, ss.map V.str, .str x, ss.idxOf x, .str x, rfl, rfl, SqL.of (m2.st.sub _ _ (m2.g _ _ h2)), rfl, flat_strs ss, hg, beq_self_eq_true x, fun m z' hm hz => ?_, ?_⟩
    · rw [List.getElem?_map] at hz
      cases e3 : ss[m]? with
      | none => rw [e3] at hz; cases hz
      | some w =>
        rw [e3] at hz
        cases hz
        exact beq_eq_false_iff_ne.mpr (idx_ne hm e3)
    · exact q _ _ _ _ _ k2 (Rep.int _) (n1.trans m2)
theorem ev_indexI {to : TE} {tr : TA} (h : Ev T to ρ M fun φ M1 => ∃ ss : List Int, φ = Mo.d (intL ss) ∧ EvA T tr ρ M1 fun φs M2 => ∃ x, φs = [Mo.d (.int x)] ∧ x ∈ ss ∧ K (Mo.d (.int ((ss.idxOf x : Nat) : Int))) M2) :
    Ev T (tBM K0 "list" (rIndex K0) to tr) ρ M K := fun σ G H e s Q q =>
  h.run e s fun x φ M1 G1 H1 ⟨ss, e1, k⟩ p1 n1 => by
    subst e1
    obtain ⟨a, ys, rfl, h2, h3⟩ := rep_list p1
    have ez := h3.ints
    subst ez
    refine ⟨tyV_l (n1.st.sub _ _ h2), k σ G1 H1 (e.mono n1.g) n1.st _ fun vs φs M2 G2 H2 ⟨x, e2, hx, k2⟩ p2 m2 => ?_⟩
    subst e2
    obtain ⟨y, rfl, hy⟩ := one p2
    rw [rep_int hy]
    have hlt := List.idxOf_lt_length_of_mem hx
    have hg : (ss.map V.int)[ss.idxOf x]? = some (.int x) := by
      rw [List.getElem?_map, List.getElem?_eq_getElem hlt, List.getElem_idxOf] <;> rfl
    refine ⟨a, ss.map V.int, .int x, ss.idxOf x, .int x, rfl, rfl, SqL.of (m2.st.sub _ _ (m2.g _ _ h2)), rfl, flat_ints ss, hg, beq_self_eq_true x, fun m z' hm hz => ?_, ?_⟩
    · rw [List.getElem?_map] at hz
      cases e3 : ss[m]? with
      | none => rw [e3] at hz; cases hz
      | some w =>
        rw [e3] at hz
        cases hz
        exact beq_eq_false_iff_ne.mpr (idx_ne hm e3)
    · exact q _ _ _ _ _ k2 (Rep.int _) (n1.trans m2)
end
end Lv
/-! #### Rul2 -/
namespace Lv
open PySem L2 StX
/-! ### dicts -/
def keyD : Key → PyData
  | .inl i => .int i
  | .inr x => .str x
theorem rep_key {k : Key} {v : V} {G : Hp} (h : (Mo.d (keyD k)).p v G) : v = kV k := by
  cases k with
  | inl i => exact rep_int h
  | inr x => exact rep_str h
theorem key_rep (k : Key) (G : Hp) : Rep G (kV k) (keyD k) := by
  cases k with
  | inl i => exact Rep.int i
  | inr x => exact Rep.str x
def putKM (kvs : List (Key × Mo)) (k : Key) (φ : Mo) : List (Key × Mo) :=
  if (kvs.any fun kv => decide (kv.1 = k)) = true then kvs.map (fun kv => if kv.1 = k then (kv.1, φ) else kv) else kvs ++ [(k, φ)]
theorem KvOk.keys {G : Hp} : ∀ {xs : List (Key × V)} {kvs : List (Key × Mo)}, KvOk G xs kvs → xs.map (·.1) = kvs.map (·.1)
  | _, _, .nil => rfl
  | _, _, .cons h t => by rw [List.map_cons, List.map_cons, h.1, KvOk.keys t]
theorem any_keys {α : Type} (k : Key) (l : List (Key × α)) : (l.any fun kv => decide (kv.1 = k)) = (l.map (·.1)).any fun x => decide (x = k) := by
  rw [List.any_map] <;> rfl
theorem KvOk.mapIf {G : Hp} {k : Key} {v : V} {φ : Mo} (hv : φ.p v G) : ∀ {xs : List (Key × V)} {kvs : List (Key × Mo)}, KvOk G xs kvs → KvOk G (xs.map fun kv => if kv.1 = k then (kv.1, v) else kv) (kvs.map fun kv => if kv.1 = k then (kv.1, φ) else kv)
  | _, _, .nil => .nil
  | (a, x) :: xs, (b, y) :: kvs, .cons h t => by
    obtain ⟨h1, h2⟩ := h
    have h1' : a = b := h1
    subst h1'
    rw [List.map_cons, List.map_cons]
    refine .cons ?_ (KvOk.mapIf hv t)
    by_cases e : a = k
    · show (if a = k then (a, v) else (a, x)).1 = (if a = k then (a, φ) else (a, y)).1 ∧ _
      rw [if_pos e, if_pos e]
      exact ⟨rfl, hv⟩
    · show (if a = k then (a, v) else (a, x)).1 = (if a = k then (a, φ) else (a, y)).1 ∧ _
      rw [if_neg e, if_neg e]
      exact ⟨rfl, h2⟩
theorem KvOk.append {G : Hp} : ∀ {xs ys : List (Key × V)} {a b : List (Key × Mo)}, KvOk G xs a → KvOk G ys b → KvOk G (xs ++ ys) (a ++ b)
  | _, _, _, _, .nil, s => s
  | _, _, _, _, .cons h t, s => .cons h (KvOk.append t s)
theorem KvOk.put {G : Hp} {k : Key} {v : V} {φ : Mo} (hv : φ.p v G) {xs : List (Key × V)} {kvs : List (Key × Mo)} (h : KvOk G xs kvs) : KvOk G (putK xs k v) (putKM kvs k φ) := by
  unfold putK putKM
  rw [any_keys k xs, any_keys k kvs, h.keys]
  split
  · exact h.mapIf hv
  · exact h.append (.cons ⟨rfl, hv⟩ .nil)
theorem KvOk.look {G : Hp} {k : Key} : ∀ {xs : List (Key × V)} {kvs : List (Key × Mo)} {φ : Mo}, KvOk G xs kvs → (kvs.find? fun kv => decide (kv.1 = k)).map (·.2) = some φ → ∃ v, valV xs k = some v ∧ φ.p v G
  | _, _, _, .nil, e => by simp at e
  | (a, x) :: xs, (b, y) :: kvs, φ, .cons h t, e => by
    obtain ⟨h1, h2⟩ := h
    have h1' : a = b := h1
    subst h1'
    by_cases ek : a = k
    · rw [List.find?_cons_of_pos (by simpa using ek)] at e
      cases e
      exact ⟨x, valV_pos ek, h2⟩
    · rw [List.find?_cons_of_neg (by simpa using ek)] at e
      obtain ⟨v, h3, h4⟩ := KvOk.look t e
      exact ⟨v, by rw [valV_neg ek]; exact h3, h4⟩
def lookKM (kvs : List (Key × Mo)) (k : Key) : Option Mo := (kvs.find? fun kv => decide (kv.1 = k)).map (·.2)
section
variable {T : Tb} {ρ : Rho} {M : Mus} {K : Ks} {K0 : PySem.W.Frag} {φ ψ : Mo} {ta te td ty tv : TE}
theorem ev_dnew (k : ∀ p, K (Mo.adr p) (M ++ [(p, Mu.dk [])])) : Ev T tDNewK ρ M K := fun σ G H e s Q q => fun p hp => q _ (Mo.adr p) _ _ _ (k p) rfl (Po.laidM s hp (m := Mu.dk []) ⟨[], rfl, .nil⟩)
/-- d[k] = v -/
theorem go_dput {Z : Zo} {D : Ends} (h : Ev Z.T tv ρ M fun φ M1 => Ev Z.T td ρ M1 fun ψ M2 => ∃ p, ψ = Mo.adr p ∧ Ev Z.T ty ρ M2 fun χ M3 => ∃ (n : Nat) (kvs : List (Key × Mo)) (k : Key), χ = Mo.d (keyD k) ∧ M3[n]? = some (p, Mu.dk kvs) ∧ kvs.length < sizeLine ∧ Go Z D.nx ρ (M3.set n (p, Mu.dk (putKM kvs k φ)))) :
    Go Z (sDPut td ty tv D) ρ M := fun σ G H e z =>
  h.run e z.st fun v φ M1 G1 H1 k1 p1 n1 => k1 σ G1 H1 (e.mono n1.g) n1.st _ fun x ψ M2 G2 H2 ⟨p, e2, k2⟩ p2 n2 => k2 σ G2 H2 (e.mono (n1.trans n2).g) n2.st _ fun y χ M3 G3 H3 ⟨n, kvs, k, e3, hn, hl, k3⟩ p3 n3 => by
    subst e2 e3
    obtain ⟨_, o, ho, xs, rfl, hx⟩ := n3.st.at hn
    refine ⟨p, _, p2, by rw [rep_key p3]; exact DPut.k ho (by rw [KvOk.length hx]; exact hl), ?_⟩
    have n03 := n1.trans (n2.trans n3)
    have n4 := Po.wrote n3.st hn (m' := Mu.dk (putKM kvs k φ)) (o' := .dK (putK xs k v)) ⟨_, rfl, hx.put (φ.mono (n2.trans n3).g p1)⟩
    exact k3 σ G3 _ (e.mono n03.g) ((z.to n03).to n4)
/-- d[k] -/
theorem ev_dgetM (h : Ev T td ρ M fun ψ M1 => ∃ p, ψ = Mo.adr p ∧ Ev T ty ρ M1 fun χ M2 => ∃ (n : Nat) (kvs : List (Key × Mo)) (k : Key) (ω : Mo), χ = Mo.d (keyD k) ∧ M2[n]? = some (p, Mu.dk kvs) ∧ lookKM kvs k = some ω ∧ K ω M2) : Ev T (tDGet td ty) ρ M K := fun σ G H e s Q q =>
  h.run e s fun x ψ M1 G1 H1 ⟨p, e1, k1⟩ p1 n1 => k1 σ G1 H1 (e.mono n1.g) n1.st _ fun y χ M2 G2 H2 ⟨n, kvs, k, ω, e2, hn, hl, k2⟩ p2 n2 => by
    subst e1 e2
    obtain ⟨_, o, ho, xs, rfl, hx⟩ := n2.st.at hn
    obtain ⟨v, h3, h4⟩ := hx.look hl
    refine ⟨p, v, p1, ?_, q v ω M2 G2 H2 k2 h4 (n1.trans n2)⟩
    rw [rep_key p2, ← h3]
    exact DGet.k ho
theorem ev_dget (h : Ev T td ρ M fun ψ M1 => ∃ kvs, ψ = Mo.dk kvs ∧ Ev T ty ρ M1 fun χ M2 => ∃ (k : Key) (ω : Mo), χ = Mo.d (keyD k) ∧ lookKM kvs k = some ω ∧ K ω M2) : Ev T (tDGet td ty) ρ M K := fun σ G H e s Q q =>
  h.run e s fun x ψ M1 G1 H1 ⟨kvs, e1, k1⟩ p1 n1 => k1 σ G1 H1 (e.mono n1.g) n1.st _ fun y χ M2 G2 H2 ⟨k, ω, e2, hl, k2⟩ p2 n2 => by
    subst e1 e2
    obtain ⟨a, xs, rfl, ha, hx⟩ := Mo.mono _ n2.g p1
    obtain ⟨v, h3, h4⟩ := hx.look hl
    refine ⟨a, v, rfl, ?_, q v ω M2 G2 H2 k2 h4 (n1.trans n2)⟩
    rw [rep_key p2, ← h3]
    exact DGet.k (n2.st.sub _ _ ha)
/-- {k: v, ..} -/
def EvPr (T : Tb) (trs : List (TE × TE)) (ρ : Rho) (M : Mus) (K : List (Mo × Mo) → Mus → Prop) : Prop := ∀ (σ : Sl) (G H : Hp), EnvOk G σ ρ → Sta T M G H → ∀ Q : List (V × V) → Hp → Prop,
  (∀ ps qs M' G' H', K qs M' → Paired (fun (p : V × V) (q : Mo × Mo) => q.1.p p.1 G' ∧ q.2.p p.2 G') ps qs → Po T M G H M' G' H' → Q ps H') → tPairs trs σ H Q
theorem pr_mono {G G' : Hp} (s : Same G G') : ∀ {ps : List (V × V)} {qs : List (Mo × Mo)}, Paired (fun (p : V × V) (q : Mo × Mo) => q.1.p p.1 G ∧ q.2.p p.2 G) ps qs → Paired (fun (p : V × V) (q : Mo × Mo) => q.1.p p.1 G' ∧ q.2.p p.2 G') ps qs
  | _, _, .nil => .nil
  | _, _, .cons h t => .cons ⟨Mo.mono _ s h.1, Mo.mono _ s h.2⟩ (pr_mono s t)
theorem ep_nil {KP : List (Mo × Mo) → Mus → Prop} (k : KP [] M) : EvPr T [] ρ M KP := fun σ G H e s Q q => q [] [] M G H k .nil (Po.refl s)
theorem ep_cons {KP : List (Mo × Mo) → Mus → Prop} {tk : TE} {r : List (TE × TE)} (h : Ev T tk ρ M fun φ M1 => Ev T tv ρ M1 fun ψ M2 => EvPr T r ρ M2 fun qs M3 => KP ((φ, ψ) :: qs) M3) : EvPr T ((tk, tv) :: r) ρ M KP := fun σ G H e s Q q =>
  h.run e s fun x φ M1 G1 H1 k1 p1 n1 => k1 σ G1 H1 (e.mono n1.g) n1.st _ fun y ψ M2 G2 H2 k2 p2 n2 => k2 σ G2 H2 (e.mono (n1.trans n2).g) n2.st _ fun ps qs M3 G3 H3 k3 p3 n3 =>
    q _ _ M3 G3 H3 k3 (.cons ⟨φ.mono (n2.trans n3).g p1, ψ.mono n3.g p2⟩ p3) (n1.trans (n2.trans n3))
def mergeKM (kvs more : List (Key × Mo)) : List (Key × Mo) := more.foldl (fun acc kv => putKM acc kv.1 kv.2) kvs
theorem KvOk.merge {G : Hp} : ∀ {more : List (Key × V)} {rs : List (Key × Mo)} {kvs : List (Key × V)} {vs : List (Key × Mo)}, KvOk G more rs → KvOk G kvs vs → KvOk G (mergeK kvs more) (mergeKM vs rs)
  | _, _, _, _, .nil, q => q
  | (a, x) :: more, (b, y) :: rs, kvs, vs, .cons h t, q => by
    obtain ⟨h1, h2⟩ := h
    have h1' : a = b := h1
    subst h1'
    exact KvOk.merge (more := more) (rs := rs) t (q.put (k := a) h2)
theorem pairs_kv {G : Hp} : ∀ {ps : List (V × V)} {kvs : List (Key × Mo)}, Paired (fun (p : V × V) (q : Mo × Mo) => q.1.p p.1 G ∧ q.2.p p.2 G) ps (kvs.map fun kv => (Mo.d (keyD kv.1), kv.2)) → ∃ xs : List (Key × V), ps = xs.map (fun kv => (kV kv.1, kv.2)) ∧ KvOk G xs kvs
  | _, [], h => by cases h; exact ⟨[], rfl, .nil⟩
  | _, (k, φ) :: kvs, h => by
    cases h with
    | @cons p _ ps _ h t =>
      obtain ⟨xs, e, hx⟩ := pairs_kv t
      refine ⟨(k, p.2) :: xs, ?_, .cons ⟨rfl, h.2⟩ hx⟩
      rw [List.map_cons, ← e]
      congr 1
      exact Prod.ext (rep_key h.1) rfl
theorem ev_disp {trs : List (TE × TE)} (h : EvPr T trs ρ M fun qs M1 => ∃ kvs : List (Key × Mo), qs = kvs.map (fun kv => (Mo.d (keyD kv.1), kv.2)) ∧ kvs.length ≤ 15 ∧ ∀ p, K (Mo.adr p) (M1 ++ [(p, Mu.dk (mergeKM [] kvs))])) : Ev T (tDisp trs) ρ M K := fun σ G H e s Q q => fun p hp => by
  have n0 := Po.laidM s hp (m := Mu.dk []) (o := .dK []) ⟨[], rfl, .nil⟩
  refine h σ G _ e n0.st.left _ fun ps qs M1 G1 H1 ⟨kvs, e1, hl, k⟩ pr n1 => ?_
  subst e1
  have n1' := Po.frame n0.st n1
  obtain ⟨_, o, ho, xs0, rfl, hx0⟩ := n1'.st.at (at_last (M := M1) (e := (p, Mu.dk [])))
  cases hx0
  obtain ⟨xs, e2, hx⟩ := pairs_kv pr
  refine ⟨ho, xs, e2, by rw [KvOk.length hx]; exact hl, ?_⟩
  have n2 := Po.wrote n1'.st (at_last (M := M1) (e := (p, Mu.dk []))) (m' := Mu.dk (mergeKM [] kvs)) (o' := .dK (mergeK [] xs)) ⟨_, rfl, hx.merge .nil⟩
  rw [set_last] at n2
  exact q _ _ _ _ _ (k p) rfl (n0.trans (n1'.trans n2))
/-- list(d) -/
theorem cv_listD {p : Addr} {n : Nat} {kvs : List (Key × Mo)} (hj : M[n]? = some (p, Mu.dk kvs)) (k : K (Mo.d (.list (kvs.map fun kv => keyD kv.1))) M) : CbV T rListD [Mo.adr p] M K := fun xs G H hp s Q q => by
  obtain ⟨x, rfl, hx⟩ := one hp
  obtain ⟨_, o, ho, ys, rfl, h3⟩ := s.at hj
  rw [show x = .ref p from hx]
  refine ⟨p, ys, rfl, ho, fun l hl => q _ _ M _ _ k (Rep.lst upd_same ?_) (Po.laid s hl)⟩
  have e : ∀ {ys : List (Key × V)} {kvs : List (Key × Mo)}, KvOk G ys kvs → ∀ G', RepL G' (ys.map fun kv => kV kv.1) (kvs.map fun kv => keyD kv.1) := by
    intro ys kvs h
    induction h with
    | nil => intro _; exact .nil
    | cons h t ih =>
      intro G'
      rw [List.map_cons, List.map_cons, h.1]
      exact .cons (key_rep _ _) (ih G')
  exact e h3 _
/-! ### a dict walked -/
theorem ei_keys {KI : List Mo → Mus → Prop} {p : Addr} {od : Obj} {xs : List (Key × V)} {kvs : List (Key × Mo)} (hp : (p, Mu.lk od xs kvs) ∈ M) (h : Ev T te ρ M fun φ M1 => φ = Mo.adr p ∧ M1 = M ∧ KI (kvs.map fun kv => Mo.d (keyD kv.1)) M) : EvIR T [(p, Mu.lk od xs kvs)] (iKeys te) ρ M KI := fun σ G H e s R q =>
  h.run e s fun x φ M1 G1 H1 ⟨e1, e2, k⟩ p1 n1 => by
    subst e1 e2
    obtain ⟨_, o, ho, rfl, hx⟩ := n1.st.mu _ hp
    refine ⟨p, od, p1, .inl ⟨xs, ho, q _ _ _ G1 H1 k n1 fun M G H hR sA s => ?_⟩⟩
    obtain ⟨_, o2, ho2, rfl, hx2⟩ := s.mu _ (hR _ (List.mem_singleton.mpr rfl))
    have hl := KvOk.length hx2
    refine ⟨⟨ho2, by rw [List.length_map, hl]; exact Nat.le_refl _⟩, fun i φ hi => ?_⟩
    have hlt : i < xs.length := by
      have := (List.getElem?_eq_some_iff.mp hi).1
      rw [List.length_map] at this
      omega
    refine ⟨⟨ho2, hlt⟩, fun x H' ⟨eH, kk, v, hk, ex⟩ => ⟨G, by rw [eH]; exact Po.refl s, ?_⟩⟩
    have hkeys := hx2.keys
    have h1 : (xs.map (·.1))[i]? = some kk := by rw [List.getElem?_map, hk] <;> rfl
    rw [hkeys, List.getElem?_map] at h1
    rw [List.getElem?_map] at hi
    cases e5 : kvs[i]? with
    | none => rw [e5] at hi; cases hi
    | some kv =>
      rw [e5] at hi h1
      cases hi
      cases h1
      rw [ex]
      exact key_rep _ _
/-- an expression under which the dict at place n of M is locked -/
theorem ev_lock {t : TE} {p : Addr} {n : Nat} {kvs : List (Key × Mo)} (hn : M[n]? = some (p, Mu.dk kvs)) (h : ∀ od xs, Ev T t ρ (M.set n (p, Mu.lk od xs kvs)) fun φ M1 => M1 = M.set n (p, Mu.lk od xs kvs) ∧ K φ M) : Ev T (tLockE t) ρ M K := fun σ G H e s Q q => by
  obtain ⟨_, o, ho, xs, rfl, hx⟩ := s.at hn
  refine ⟨p, _, ho, trivial, fun od => ?_⟩
  have hlt := (List.getElem?_eq_some_iff.mp hn).1
  have n0 := Po.wrote s hn (m' := Mu.lk od xs kvs) (o' := .frz od (.dK xs)) ⟨rfl, hx⟩
  refine h od xs σ G _ e n0.st _ fun v φ M1 G1 H1 ⟨e1, k⟩ p1 n1 => ?_
  subst e1
  have hn' : (M.set n (p, Mu.lk od xs kvs))[n]? = some (p, Mu.lk od xs kvs) := List.getElem?_set_self hlt
  obtain ⟨_, o2, ho2, rfl, hx2⟩ := n1.st.at hn'
  refine ⟨ho2, ?_⟩
  have n2 := Po.wrote n1.st hn' (m' := Mu.dk kvs) (o' := .dK xs) ⟨xs, rfl, hx2⟩
  rw [List.set_set, show M.set n (p, Mu.dk kvs) = M from by
    apply List.ext_getElem?
    intro i
    by_cases hi : n = i
    · subst hi
      rw [List.getElem?_set_self hlt, hn]
    · rw [List.getElem?_set_ne hi]] at n2
  exact q v φ M G1 _ k p1 (n0.trans (n1.trans n2))
/-- [k for k in d if ..], d locked -/
theorem ev_lockKeys {i n : Nat} {p : Addr} {kvs : List (Key × Mo)} {tt : TT} {vs : List Nat} (bq : Key → Bool) (hi : i ∈ vs) (hir : (wipeR ρ vs).length > i) (hn : M[n]? = some (p, Mu.dk kvs)) (hl : kvs.length ≤ sizeLine)
    (ht : ∀ M1, Ev T te ρ M1 fun φ M2 => φ = Mo.adr p ∧ M2 = M1) (htt : ∀ k M1, EvT T tt ((wipeR ρ vs).set i (some (Mo.d (keyD k)))) M1 fun b M2 => b = bq k ∧ M2 = M1)
    (k : K (Mo.d (.list (((kvs.map (·.1)).filter bq).map keyD))) M) : Ev T (tLockE (tLc (iKeys te) (gName i) tt (tVar i) vs)) ρ M K := by
  refine ev_lock hn fun od xs => ?_
  refine Ev.conv ?_
  refine ev_lcR (R0 := [(p, Mu.lk od xs kvs)]) (ei_keys (List.mem_of_getElem? (List.getElem?_set_self (List.getElem?_eq_some_iff.mp hn).1)) ((ht _).imp fun φ M1 h => ⟨h.1, h.2, ?_⟩))
  refine ⟨fun j acc M2 => acc = ((((kvs.map (·.1)).take j).filter bq).map keyD).map Mo.d ∧ M2 = M.set n (p, Mu.lk od xs kvs), ?_, ⟨by simp, rfl⟩, ?_, ?_⟩
  · rintro j acc M2 ⟨_, rfl⟩ e he
    rw [List.mem_singleton.mp he]
    exact List.mem_of_getElem? (List.getElem?_set_self (List.getElem?_eq_some_iff.mp hn).1)
  · rintro j φ acc M2 hj ⟨rfl, rfl⟩
    rw [List.getElem?_map] at hj
    cases e5 : kvs[j]? with
    | none => rw [e5] at hj; cases hj
    | some kv =>
      rw [e5] at hj
      cases hj
      have hlt := (List.getElem?_eq_some_iff.mp e5).1
      have et : (kvs.map (·.1)).take (j + 1) = (kvs.map (·.1)).take j ++ [kv.1] := by rw [List.take_add_one, List.getElem?_map, e5] <;> rfl
      refine ⟨_, tgt_name hi, fun σ G H e s Q q => htt kv.1 _ σ G H e s Q fun b M3 G3 H3 ⟨hb, hM⟩ n3 => q b M3 G3 H3 ?_ n3⟩
      subst hb hM
      cases hb : bq kv.1 with
      | true =>
        refine iteT (ev_var (List.getElem?_set_self hir) ⟨?_, ?_, rfl⟩)
        · have h1 := List.length_filter_le bq ((kvs.map (·.1)).take j)
          rw [List.length_map, List.length_map]
          rw [List.length_take, List.length_map] at h1
          omega
        · rw [et, List.filter_append, List.filter_cons, if_pos hb, List.filter_nil, List.map_append, List.map_append] <;> rfl
      | false =>
        refine iteF ⟨?_, rfl⟩
        rw [et, List.filter_append, List.filter_cons, if_neg (by rw [hb]; exact Bool.false_ne_true), List.filter_nil, List.append_nil]
  · rintro acc M2 ⟨rfl, rfl⟩
    refine ⟨_, fun v G h => ls_d h, rfl, ?_⟩
    rw [List.length_map, List.take_of_length_le (by rw [List.length_map]; exact Nat.le_refl _)]
    exact k
/-! ### own objects -/
/-- o.f = e -/
theorem go_fld {Z : Zo} {D : Ends} {f : Str} {C : Addr} (c : Cls K0 C) (nn : NoAttr K0 C f) (h : Ev Z.T tv ρ M fun φ M1 => Ev Z.T ta ρ M1 fun ψ M2 => ∃ (p : Addr) (n : Nat) (fs : List (Str × Mo)), ψ = Mo.adr p ∧ M2[n]? = some (p, Mu.ins C fs) ∧ fs.length < 1000 ∧ Go Z D.nx ρ (M2.set n (p, Mu.ins C (putM f φ fs)))) :
    Go Z (sFld K0 ta tv f D) ρ M := fun σ G H e z =>
  h.run e z.st fun v φ M1 G1 H1 k1 p1 n1 => k1 σ G1 H1 (e.mono n1.g) n1.st _ fun x ψ M2 G2 H2 ⟨p, n, fs, e2, hn, hl, k2⟩ p2 n2 => by
    subst e2
    obtain ⟨_, o, ho, dx, vs, rfl, hx⟩ := n2.st.at hn
    refine ⟨p, C, dx, vs, p2, ho, c, nn, by rw [FsOk.length hx]; exact hl, ?_⟩
    have n02 := n1.trans n2
    have n3 := Po.wrote n2.st hn (m' := Mu.ins C (putM f φ fs)) (o' := .ins C dx (putF f v vs)) ⟨dx, _, rfl, FsOk.put (φ.mono n2.g p1) hx⟩
    exact k2 σ G2 _ (e.mono n02.g) ((z.to n02).to n3)
/-- o.m(..) -/
theorem ev_meth {A : Type} {args : A → List Mo} {mu : A → Mus} {pre : A → Prop} {res : A → Mo → Mus → Prop} {E : XK} {tr : TA} {C : Addr} {m : Str}
    (h : Ev T ta ρ M fun φ M1 => ((∃ (p : Addr) (n : Nat) (fs : List (Str × Mo)), φ = Mo.adr p ∧ M1[n]? = some (p, Mu.ins C fs) ∧ fs.lookup m = none) ∨ ∃ fs, φ = Mo.ins C fs ∧ fs.lookup m = none) ∧
      EvA T tr ρ M1 fun φs M2 => ∃ a R, φ :: φs = args a ∧ M2 = mu a ++ R ∧ pre a ∧ ∀ χ M', res a χ M' → K χ (M' ++ R)) : Ev T (tMeth C m (SpG T A args mu pre res) [] E ta tr) ρ M K := fun σ G H e s Q q =>
  h.run e s fun x φ M1 G1 H1 ⟨hin, k1⟩ p1 n1 => by
    have hx : ∃ a dx fs, x = .ref a ∧ H1 a = some (.ins C dx fs) ∧ fs.lookup m = none := by
      rcases hin with ⟨p, n, fs, rfl, hn, hl⟩ | ⟨fs, rfl, hl⟩
      · obtain ⟨_, o, ho, dx, vs, rfl, hx⟩ := n1.st.at hn
        exact ⟨p, dx, vs, p1, ho, hx.lookN hl⟩
      · obtain ⟨a, dx, vs, rfl, h1, h2⟩ := p1
        exact ⟨a, dx, vs, rfl, n1.st.sub _ _ h1, h2.lookN hl⟩
    obtain ⟨a, dx, fs, h1, h2, h3⟩ := hx
    refine ⟨a, dx, fs, h1, h2, h3, k1 σ G1 H1 (e.mono n1.g) n1.st _ fun xs φs M2 G2 H2 ⟨aa, R, e1, e2, hp, k⟩ p2 n2 => ?_⟩
    subst e2
    refine ⟨aa, G2, hp, by rw [← e1, List.append_nil]; exact .cons (φ.mono n2.g p1) p2, n2.st.left, fun v χ M' G' H' hr hv n3 => ?_⟩
    exact q v χ _ G' H' (k χ M' hr) hv ((n1.trans n2).trans (Po.frame n2.st n3))
/-- an __init__'s promise: the object is whole behind it -/
def SpI (T : Tb) (C : Addr) (A : Type) (args : A → List Mo) (pre : A → Prop) (fs : A → List (Str × Mo)) : Sp := fun vs H Q _ => ∃ (a : A) (G : Hp) (x : Addr) (us : List V), pre a ∧ vs = .ref x :: us ∧ MoAll G us (args a) ∧ Sta T [(x, Mu.ins C [])] G H ∧
  ∀ G' H', (Mo.ins C (fs a)).p (.ref x) G' → Po T [(x, Mu.ins C [])] G H [] G' H' → Q .non H'
theorem ev_make {A : Type} {args : A → List Mo} {pre : A → Prop} {fs : A → List (Str × Mo)} {E : XK} {tr : TA} {C : Addr}
    (h : EvA T tr ρ M fun φs M1 => ∃ a, φs = args a ∧ pre a ∧ K (Mo.ins C (fs a)) M1) : Ev T (tMake C (SpI T C A args pre fs) [] E tr) ρ M K := fun σ G H e s Q q =>
  h σ G H e s _ fun xs φs M1 G1 H1 ⟨a, e1, hp, k⟩ p1 n1 => fun x dx hx hdx hne => by
    subst e1
    -- the object's dict is laid (untracked by the data), then the object
    have s1 : Sta T M1 G1 (upd H1 dx (.own x)) := n1.st.step (W := []) ⟨Same.refl _, fun b o hb g _ _ => ⟨g, by rw [upd_ne (ne_of_none hb hdx)]; exact hb⟩, fun b hb => blk_upd hdx hb⟩ (fun _ _ z => by cases z) (same_updH n1.st.sub _ (sub_none n1.st.sub hdx)) (tabs_upd n1.st.tab hdx) n1.st.tg
    have nx1 : Nx [] G1 H1 G1 (upd H1 dx (.own x)) := ⟨Same.refl _, fun b o hb g _ _ => ⟨g, by rw [upd_ne (ne_of_none hb hdx)]; exact hb⟩, fun b hb => blk_upd hdx hb⟩
    have n2 : Po T M1 G1 H1 M1 G1 (upd H1 dx (.own x)) := ⟨nx1.mono (by simp), s1, New.refl _ _⟩
    have hx2 : (upd H1 dx (.own x)) x = none := by rw [upd_ne (Ne.symm hne)]; exact hx
    have n3 := Po.laidM s1 hx2 (m := Mu.ins C []) (o := .ins C dx []) ⟨dx, [], rfl, .nil⟩
    have s3 : Sta T [(x, Mu.ins C [])] G1 (upd (upd H1 dx (.own x)) x (.ins C dx [])) := ⟨n3.st.sub, n3.st.tab, n3.st.tg, by simp, fun e he => n3.st.mu e (List.mem_append_right _ he)⟩
    refine ⟨a, G1, x, xs, hp, by rw [List.append_nil], p1, s3, fun G' H' hv n4 => ⟨rfl, ?_⟩⟩
    refine q _ _ M1 G' H' k hv ?_
    -- M1 is framed
    have hR : ∀ e ∈ M1, G' e.1 = none ∧ ∃ o, H' e.1 = some o ∧ e.2.p o G' := fun e he => by
      obtain ⟨g, o, ho, p⟩ := n3.st.mu e (List.mem_append_left _ he)
      have hm : e.1 ∉ ([(x, Mu.ins C [])] : Mus).map (·.1) := fun zz => by
        have e1 : e.1 = x := by simpa using zz
        obtain ⟨_, o', ho', _⟩ := s1.mu e he
        rw [e1, hx2] at ho'
        cases ho'
      obtain ⟨g', h'⟩ := n4.nx.keep e.1 o ho g hm (plainO.nt (e.2.pl p))
      exact ⟨g', o, h', e.2.mono n4.g p⟩
    have n13 := n1.trans (n2.trans n3)
    exact ⟨⟨n13.g.trans n4.g, fun b o hb g hw ht => by
      obtain ⟨g1, h1⟩ := n13.nx.keep b o hb g hw ht
      exact n4.nx.keep b o h1 g1 (fun zz => by
        have e1 : b = x := by simpa using zz
        have hH1 : H1 b = none := by rw [e1]; exact hx
        exact (n1.nx.dom b (blk_none hH1)).no hb ht) ht, fun b hb => n13.nx.dom b (n4.nx.dom b hb)⟩, ⟨n4.st.sub, n4.st.tab, n4.st.tg, n1.st.nd, hR⟩, n1.nw⟩
end
/-! ### a def's promise from its body -/
theorem moall_start {G : Hp} {vs : List V} {φs : List Mo} (N : List Str) (h : MoAll G vs φs) (hl : φs.length ≤ N.length) : EnvOk G (L2.start N vs) (φs.map some ++ List.replicate (N.length - φs.length) none) := by
  have hlen := h.length
  refine ⟨by unfold L2.start; simp [hlen], fun i φ e => ?_⟩
  unfold L2.start
  by_cases hi : i < φs.length
  · rw [List.getElem?_append_left (by simpa using hi), List.getElem?_map] at e
    cases e2 : φs[i]? with
    | none => rw [e2] at e; cases e
    | some ψ =>
      rw [e2] at e
      cases e
      obtain ⟨v, h1, h2⟩ := h.get e2
      refine ⟨v, ?_, h2⟩
      rw [List.getElem?_append_left (by simpa [hlen] using hi), List.getElem?_map, h1] <;> rfl
  · rw [List.getElem?_append_right (by simpa using hi), List.getElem?_replicate] at e
    split at e <;> cases e
section
variable {P : Program} {w : World} {K0 : PySem.W.Frag} {mg : Str → Option Value} {base : Heap}
/-- what the body is to do: Z the state ahead of it, Q what is wanted -/
def Body (T : Tb) (n : Nat) {A : Type} (args : A → List Mo) (mu : A → Mus) (res : A → Mo → Mus → Prop) (a : A) (t : TS) : Prop := ∀ (G H A0 : Hp) (Q : VK), (∀ φ M' R, res a φ M' → GoR ⟨T, (mu a).map (·.1), G, H, A0⟩ Q φ (M' ++ R)) →
  Go ⟨T, (mu a).map (·.1), G, H, A0⟩ (t { nx := fun _ H' => Q .non H', rt := Q }) ((args a).map some ++ List.replicate (n - (args a).length) none) (mu a)
theorem fn_ok {x qual : Str} {pa : Arguments} {bd : List Stmt} {sc : Scope} {kws : List (Str × V)} {f : Addr} {fd : FuncData} {N ps : List Str} {k : Nat} {T : Tb} {A : Type} {args : A → List Mo} {mu : A → Mus} {pre : A → Prop} {res : A → Mo → Mus → Prop}
    (F : FunD K0 x qual pa bd sc [] kws f fd) (S : FnScope N ps sc) (hl : ∀ a, (args a).length = ps.length) (hN : ps.length ≤ N.length)
    (body : ∀ (a : A), pre a → ∀ (cdv : Value) (A' : Around) (outer : List Env) (s : Shared) (H : Hp) (E : XK), Room k (A'.deeper (PyProof.Rows.envOfC qual sc s.heap.objs.size f cdv)) →
      ∃ t, PSs (cxOf CX0 P w K0 mg base N qual sc f cdv A' outer s H E).nox bd t ∧ Body T N.length args mu res a t) :
    FnOk P w K0 mg base CX0 (k + 1) f fd ps (SpG T A args mu pre res) := by
  refine F.ok S (fun vs H Q E h => ?_) (fun cdv A' outer s H vs Q E hr h => ?_)
  · obtain ⟨a, G, _, h1, _⟩ := h
    rw [h1.length, hl]
  · obtain ⟨a, G, hp, h1, h2, q⟩ := h
    obtain ⟨t, ht, hb⟩ := body a hp cdv A' outer s H E hr
    refine ⟨t, ht.nox, ?_⟩
    refine hb G H G Q (fun φ M' R hres v G' H' hv z => ?_) (L2.start N vs) G H (moall_start N h1 (by rw [hl]; exact hN)) ⟨h2, Nx.refl _ _ _, fun x hx => .inl hx, Same.refl _⟩
    refine q v φ M' G' H' hres hv ⟨z.nx, z.st.left, fun e he => ?_⟩
    exact z.nw e.1 (List.mem_map_of_mem (List.mem_append_left _ he))
/-- .. of a def that changes nothing -/
theorem fn_okP {x qual : Str} {pa : Arguments} {bd : List Stmt} {sc : Scope} {kws : List (Str × V)} {f : Addr} {fd : FuncData} {N ps : List Str} {k : Nat} {T : Tb} {A : Type} {args : A → List Mo} {pre : A → Prop} {res : A → Mo}
    (F : FunD K0 x qual pa bd sc [] kws f fd) (S : FnScope N ps sc) (hl : ∀ a, (args a).length = ps.length) (hN : ps.length ≤ N.length)
    (body : ∀ (a : A), pre a → ∀ (cdv : Value) (A' : Around) (outer : List Env) (s : Shared) (H : Hp) (E : XK), Room k (A'.deeper (PyProof.Rows.envOfC qual sc s.heap.objs.size f cdv)) →
      ∃ t, PSs (cxOf CX0 P w K0 mg base N qual sc f cdv A' outer s H E).nox bd t ∧ ∀ (G H A0 : Hp) (Q : VK), (∀ M, GoR ⟨T, [], G, H, A0⟩ Q (res a) M) →
        Go ⟨T, [], G, H, A0⟩ (t { nx := fun _ H' => Q .non H', rt := Q }) ((args a).map some ++ List.replicate (N.length - (args a).length) none) []) :
    FnOk P w K0 mg base CX0 (k + 1) f fd ps (SpP T A args pre res) := fn_ok F S hl hN fun a hp cdv A' outer s H E hr => by
  obtain ⟨t, ht, hb⟩ := body a hp cdv A' outer s H E hr
  exact ⟨t, ht, fun G H A0 Q hq => hb G H A0 Q fun M => hq _ [] M ⟨rfl, rfl⟩⟩
end
end Lv
/-! #### Gn -/
namespace Lv
open PySem L2 StX PyProof.Rows GenW
/-! ## a for loop within a generator, a for loop over one -/
section
variable {prog : Program} {w : World} {A : Around} {R : GenEnd} {Y : Protocol} {n : Nat} {s0 : Shared} {c : Code} {fs : List Frame} {s : Shared} {env : Env}
/-- what the loop does with how its body ends -/
def forK (C : Code) : Flow → Sem PySem.Fin
  | .next => .pure (.again C)
  | .cont => .pure (.again C)
  | .brk => .pure (.done .next)
  | .ret v => .pure (.done (.ret v))
def forH (env : Env) : Value → Sem PySem.Fin := fun e => (do noteFrame e env; theTreesLotGoes e : Sem Unit).wrap (fun _ => .raise e) .raise id id
/-- one turn that has an item -/
theorem seg_turn {tg : Expr} {it : Value} {body : List Stmt}
    (h : wpAny (model prog w) (A.over (.forLoop tg it body [] env) fs) (pyNext it) (fun r s1 => ∃ v, r = some v ∧ wpAny (model prog w) (A.over (.forLoop tg it body [] env) fs) (letOwnedTupleGo tg it v) (fun _ s2 =>
      wpAny (model prog w) (A.over (.forLoop tg it body [] env) fs) (assign tg env v) (fun _ s3 => Seg (model prog w) A R Y n s0 (.forLoop tg it body [] env) ((execs body env).wrap (forK (.forLoop tg it body [] env)) (forH env) id id) fs s3) (fun _ _ => False) s2) (fun _ _ => False) s1) (fun _ _ => False) s) :
    Seg (model prog w) A R Y n s0 (.forLoop tg it body [] env) ((model prog w).den (.forLoop tg it body [] env)) fs s := by
  show Seg _ A R Y n s0 _ ((forTurn tg it body [] env).onRaise (fun x => do noteFrame x env; theTreesLotGoes x)) fs s
  rw [Sem.onRaise_eq_wrap]
  unfold forTurn
  refine seg_bind_wrap (wpAny_standAt ?_)
  refine seg_bind_wrap (wpAny_onRaise (wpAny_mono h (fun r s1 h1 => ?_) fun _ _ z => z.elim))
  obtain ⟨v, rfl, h1⟩ := h1
  dsimp only
  refine seg_bind_wrap (wpAny_mono h1 (fun _ s2 h2 => ?_) fun _ _ z => z.elim)
  refine seg_bind_wrap (wpAny_mono h2 (fun _ s3 h3 => ?_) fun _ _ z => z.elim)
  rw [Sem.bind_eq_wrap', Sem.wrap_wrap]
  rw [Sem.wrap_congr (execs body env) _ _ (K' := forK (.forLoop tg it body [] env)) (H' := forH env) (fun f => by cases f <;> rfl) (fun e => by
    show (do noteFrame e env; theTreesLotGoes e : Sem Unit).bind (fun _ => .raise e) = _
    rw [Sem.bind_eq_wrap] <;> rfl)]
  exact h3
/-- the loop begins -/
theorem seg_for {tg iter : Expr} {body : List Stmt} {pos : Pos} {K : Flow → Sem PySem.Fin} {J : Value → Sem PySem.Fin} {gd : Bool → Bool} {lv : List Value → List Value} (hs : ∀ x, foldedSetIterable iter env x = pure x)
    (h : wpAny (model prog w) (A.over c fs) (eval iter env) (fun x s1 => wpAny (model prog w) (A.over c fs) (pyIter x) (fun it s2 =>
      ∀ (k : Result → Sem PySem.Fin) (l : List Value) (p : Pos), Seg (model prog w) A R Y n s0 (.forLoop tg it body [] env) ((model prog w).den (.forLoop tg it body [] env)) (.ret k none (gd false) l c p [] :: fs) s2) (fun _ _ => False) s1) (fun _ _ => False) s) :
    Seg (model prog w) A R Y n s0 c ((exec (.For tg iter body [] pos) env).wrap K J gd lv) fs s := by
  rw [exec_For]
  refine seg_bind_wrap (wpAny_standAt ?_)
  refine seg_bind_wrap (wpAny_mono h (fun x s1 h1 => ?_) fun _ _ z => z.elim)
  refine seg_bind_wrap (wpAny_of_eq (hs x) ?_)
  refine seg_bind_wrap (wpAny_standAt ?_)
  refine seg_bind_wrap (wpAny_holding (wpAny_mono h1 (fun it s2 h2 => ?_) fun _ _ z => z.elim))
  exact seg_call fun p => h2 _ _ p
end
end Lv
/-! #### Gn2 -/
namespace Lv
open PySem L2 StX PyProof.Rows GenW
/-! ### a heap's first part -/
def cutH (h : Heap) (L : Nat) : Heap := ⟨h.objs.extract 0 L, h.life⟩
theorem cutH_get {h : Heap} {L b : Nat} (hb : b < L) : (cutH h L).get? b = h.get? b := by
  have e : (h.objs.extract 0 L)[b]? = h.objs[b]? := by
    rw [Array.getElem?_extract]
    by_cases h1 : b < h.objs.size
    · rw [if_pos (by omega)]
      simp
    · rw [if_neg (by omega)]
      exact (Array.getElem?_eq_none (by omega)).symm
  unfold cutH Heap.get?
  rw [e]
theorem cutH_size {h : Heap} {L : Nat} (hL : L ≤ h.objs.size) : (cutH h L).objs.size = L := by
  unfold cutH
  simp
  omega
theorem cutH_of {h : Heap} {L b : Nat} {o : Obj} (e : (cutH h L).get? b = some o) : b < L ∧ h.get? b = some o := by
  have hb : b < (cutH h L).objs.size := Heap.lt_size e
  have hs : (cutH h L).objs.size ≤ L := by unfold cutH; simp; omega
  have hb2 : b < L := Nat.lt_of_lt_of_le hb hs
  rw [cutH_get hb2] at e
  exact ⟨hb2, e⟩
/-! ### the context of a generator's frame, entered anew at s -/
def gnx (X : Cx) (Eg : Env) (N : List Str) (s : Shared) (H : Hp) : Cx where
  prog := X.prog
  w := X.w
  K := X.K
  mg := X.mg
  base := X.base
  A := X.A.in1.deeper Eg
  N := N
  s_0 := { s with heap := cutH s.heap Eg.locals }
  H_0 := H
  env := Eg
  outer := X.stack
  stack := Eg :: X.stack
  ex := []
  fn := fun _ => true
  calm := true
  pn := []
  xe := fun _ _ => False
/-- a frame without cells, younger than all that its maker knows -/
structure GEnv (X : Cx) (Eg : Env) (pins : List (Addr × Obj)) : Prop where
  kind : Eg.scope.kind = .function
  glob : Eg.globals = mainGlobals
  blt : Eg.builtins = builtinsNs
  cells : Eg.cells = []
  noc : ∀ x, ¬ (Eg.kindOf x = some .cell ∨ Eg.kindOf x = some .free)
  frame : Eg.frame = some Eg.locals
  young : X.env.locals < Eg.locals
  sz : X.s_0.heap.objs.size ≤ Eg.locals
  yc : ∀ x c, X.env.cells.lookup x = some c → c < Eg.locals
  pn : ∀ p ∈ X.pn ++ pins, p.1 < Eg.locals
/-- the frame's names -/
def FrOk (Eg : Env) (N : List Str) (s : Shared) (H : Hp) (σ : L2.St) : Prop := H Eg.locals = none ∧ σ.length = N.length ∧ ∃ m, s.heap.Ns Eg.locals m ∧ ∀ (i : Nat) (x : Str) (v : V), N[i]? = some x → σ[i]? = some (some v) → Vis Eg.scope x → ∃ u, RelV v u ∧ Eg.kindOf x = some .local ∧ m x = some u
section
variable {X : Cx} {Eg : Env} {N : List Str} {pins pg : List (Addr × Obj)} {σ σg : L2.St} {H H' : Hp} {s s' : Shared}
theorem frs_young (I : Inv X pins σ H s) (ge : GEnv X Eg pins) : ∀ b ∈ frs X.stack, b < Eg.locals := fun b hb => by
  rcases List.mem_cons.mp (I.stkSub b hb) with e | e
  · rw [e]; exact ge.young
  · obtain ⟨_, o, ho, _⟩ := I.ok.funs.mem e
    exact Nat.lt_of_lt_of_le (Heap.lt_size ho) ge.sz
theorem cut_funs {h base : Heap} {L : Nat} : ∀ {l : List Env}, (∀ b ∈ frs l, b < L) → h.FunFrames base l → (cutH h L).FunFrames base l
  | [], _, _ => trivial
  | env :: r, hb, hl => by
    obtain ⟨hk, ⟨F, o, hf, hn, ho, hd⟩, hr⟩ := hl
    have e : frs (env :: r) = F :: frs r := by
      unfold frs
      rw [List.filterMap_cons, hf]
    rw [e] at hb
    exact ⟨hk, ⟨F, o, hf, hn, by rw [cutH_get (hb F (by simp))]; exact ho, hd⟩, cut_funs (fun b q => hb b (List.mem_cons_of_mem _ q)) hr⟩
/-- from the maker's view to the frame's -/
theorem regen (I : Inv X pins σ H s) (ge : GEnv X Eg pins) (hd : X.A.handled = none) (hL : Eg.locals < s.heap.objs.size) (fr : FrOk Eg N s H σg) (hp : ∀ p ∈ pg, s.heap.get? p.1 = some p.2 ∧ H p.1 = none ∧ Eg.locals < p.1 ∧ ∀ v, p.2.data ≠ .cell v) : Inv (gnx X Eg N s H) pg σg H s := by
  obtain ⟨f1, f2, m, f3, f4⟩ := fr
  have hz := cutH_size (Nat.le_of_lt hL)
  have nl : ∀ x c, Eg.cells.lookup x = some c → False := fun x c e => by rw [ge.cells] at e; cases e
  have fy := frs_young I ge
  refine ⟨⟨I.ok.mod, ge.kind, ge.glob, ge.blt, Nat.le_of_eq hz, fun x y c e => (nl x c e).elim, fun x q => (ge.noc x q).elim, fun x c _ e => (nl x c e).elim, fun _ => hd, Around.frames_deeper (show X.A.in1.frames = some X.stack from I.ok.frames), .inr ⟨rfl, ge.frame⟩, fun b z => (by cases z),
    fun b o e => ?_, ?_, fun b o _ z => (by cases z), fun b z => (by cases z), cut_funs fy I.stack, fun b hb => I.stkFree b hb⟩, rfl, I.bare, Un.kept (fun b u q => (cutH_of q).2), ⟨m, f3, fun i x v h1 h2 h3 => ?_⟩, fun x c e => (nl x c e).elim, f1, fun x c e => (nl x c e).elim, fun p q => ?_, I.hok, f2⟩
  · obtain ⟨q1, q2⟩ := I.bs b o e
    have hb : b < Eg.locals := Nat.lt_of_lt_of_le (Heap.lt_size e) (Nat.le_trans I.ok.bsz ge.sz)
    exact ⟨by show (cutH s.heap Eg.locals).get? b = _; rw [cutH_get hb]; exact q1, q2⟩
  · show X.base.objs.size ≤ (cutH s.heap Eg.locals).objs.size
    rw [hz]
    exact Nat.le_trans I.ok.bsz ge.sz
  · obtain ⟨u, r, k, e⟩ := f4 i x v h1 h2 h3
    exact ⟨u, r, .inl ⟨k, e⟩⟩
  · obtain ⟨q1, q2, q3, q4⟩ := hp p q
    exact ⟨q1, q2, Nat.ne_of_gt q3, fun z => absurd (fy p.1 z) (Nat.not_lt.mpr (Nat.le_of_lt q3)), q4⟩
/-- and back -/
theorem ungen (I : Inv X pins σ H s) (ge : GEnv X Eg pins) (hL : Eg.locals < s.heap.objs.size) (J : Inv (gnx X Eg N s H) pg σg H' s') : Inv X pins σ H' s' := by
  have lt : ∀ b o, s.heap.get? b = some o → b ∉ (List.range s.heap.objs.size).filter (fun b => decide (Eg.locals ≤ b)) → b < Eg.locals := fun b o e hn => by
    by_cases hb : b < Eg.locals
    · exact hb
    · exact absurd (List.mem_filter.mpr ⟨List.mem_range.mpr (Heap.lt_size e), decide_eq_true (Nat.le_of_not_lt hb)⟩) hn
  have cut : ∀ b o, s.heap.get? b = some o → b ∉ (List.range s.heap.objs.size).filter (fun b => decide (Eg.locals ≤ b)) → (gnx X Eg N s H).s_0.heap.get? b = some o := fun b o e hn => by
    show (cutH s.heap Eg.locals).get? b = some o
    rw [cutH_get (lt b o e hn)]
    exact e
  refine I.call' (ch := (List.range s.heap.objs.size).filter (fun b => decide (Eg.locals ≤ b))) J.os ⟨fun b o e n hb hx => J.base.keep b o (cut b o e hx) n hb (by intro z; cases z), fun b o e n hb hx => J.base.slot b o (cut b o e hx) n hb (by intro z; cases z), fun b o e n hx => J.base.free b o (cut b o e hx) n (by intro z; cases z),
    fun b o e hx => J.base.there b o (cut b o e hx) (by intro z; cases z), J.base.tups, J.base.frzs, J.base.tbls⟩ J.hok J.bare fun b hb => ?_
  have hb2 : Eg.locals ≤ b := of_decide_eq_true (List.mem_filter.mp hb).2
  exact ⟨.inr (Nat.le_trans ge.sz hb2), Nat.ne_of_gt (Nat.lt_of_lt_of_le ge.young hb2), fun x c e z => absurd (ge.yc x c e) (Nat.not_lt.mpr (z ▸ hb2)), fun p hp z => absurd (ge.pn p hp) (Nat.not_lt.mpr (z ▸ hb2))⟩
/-- the frame, at a later point -/
theorem frok_of (ge : GEnv X Eg pins) {s0 : Shared} {H0 : Hp} (J : Inv (gnx X Eg N s0 H0) pg σg H' s') : FrOk Eg N s' H' σg := by
  obtain ⟨m, h1, h2⟩ := J.loc
  refine ⟨J.free, J.len, m, h1, fun i x v e1 e2 e3 => ?_⟩
  obtain ⟨u, r, l⟩ := h2 i x v e1 e2 e3
  rcases l with ⟨k, e⟩ | ⟨k, _⟩
  · exact ⟨u, r, k, e⟩
  · exact (ge.noc x k).elim
theorem FrOk.keep {H2 : Hp} {s2 : Shared} (f : FrOk Eg N s H σg) (h : ∀ o, s.heap.get? Eg.locals = some o → s2.heap.get? Eg.locals = some o ∧ H2 Eg.locals = none) : FrOk Eg N s2 H2 σg := by
  obtain ⟨f1, f2, m, f3, f4⟩ := f
  obtain ⟨o, es, ep, ho, r⟩ := id f3
  exact ⟨(h o ho).2, f2, m, f3.at' fun o e => (h o e).1, f4⟩
/-- the state of generators is none of Inv's -/
theorem Inv.gens {g : Nat} {x : GenState} (I : Inv X pins σ H s) (hx : x.bare = true) : Inv X pins σ H (s.setGen g x) :=
  ⟨I.ok, I.os, allBare_setGen I.bare hx, I.base, I.loc, I.cell, I.free, I.freeC, I.pin, I.hok, I.len⟩
end
end Lv
/-! #### Gn3 -/
namespace Lv
open PySem L2 StX PyProof.Rows GenW
/-! ### steps that leave the generators as they are -/
section
variable {X : Cx} {pins : List (Addr × Obj)} {σ : L2.St} {H : Hp} {s : Shared} {E : Value → Shared → Prop}
theorem var_at {i : Nat} {x : Str} {v : V} {pos : Pos} {Q : Value → Shared → Prop} (I : Inv X pins σ H s) (hN : X.N[i]? = some x) (hv : X.env.kindOf x = some .local) (e : σ[i]? = some (some v)) (k : ∀ u, RelV v u → Q u s) (hd : (x == ("__debug__" : Str)) = false := by decide) :
    wpAny (model X.prog X.w) X.A (eval (.Name x pos) X.env) Q E s := by
  obtain ⟨m, hn, hl⟩ := I.loc
  obtain ⟨u, r, l⟩ := hl i x v hN e (.inl hv)
  rcases l with ⟨hk, hm⟩ | ⟨hk, _⟩
  · exact wpAny_Name (wpAny_loadName_local I.ok.kind hk hn hm (k u r)) hd
  · rw [hv] at hk
    rcases hk with h | h <;> cases h
theorem store_at {i : Nat} {x : Str} {v : V} {u : Value} {Q : Unit → Shared → Prop} (I : Inv X pins σ H s) (hN : X.N.Nodup) (hi : X.N[i]? = some x) (hx : X.env.kindOf x = some .local) (hc : X.env.cells = []) (r : RelV v u)
    (k : ∀ s', s'.gens = s.gens → Inv X pins (σ.set i (some v)) H s' → Q () s') : wpAny (model X.prog X.w) X.A (storeName X.env x u) Q E s := by
  obtain ⟨m, hn, hl⟩ := id I.loc
  have nl : ∀ y c, X.env.cells.lookup y = some c → False := fun y c e => by rw [hc] at e; cases e
  have hiσ : i < σ.length := by rw [I.len]; exact (List.getElem?_eq_some_iff.mp hi).1
  refine wpAny_storeName_local hx hn (fun h' hn' hs => k _ rfl ?_) (by rw [I.ok.kind] <;> rfl)
  have ne : ∀ b o, X.s_0.heap.get? b = some o → b ≠ X.env.locals := fun b o e => Nat.ne_of_lt (Nat.lt_of_lt_of_le (Heap.lt_size e) I.ok.above)
  have ko : ∀ b o, b ≠ X.env.locals → s.heap.get? b = some o → h'.get? b = some o := fun b o q e => by
    have z := hs.2 b q
    rw [z]
    exact e
  refine ⟨I.ok, I.os, I.bare, ⟨fun b o e n q x => ko b o (ne b o e) (I.base.keep b o e n q x), fun b o e n q x => let ⟨sl, z⟩ := I.base.slot b o e n q x; ⟨sl, ko b _ (ne b o e) z⟩, I.base.free, fun b o e x => let ⟨o', z⟩ := I.base.there b o e x; ⟨o', ko b o' (ne b o e) z⟩, I.base.tups, I.base.frzs, I.base.tbls⟩,
    ⟨_, hn', fun j y w e1 e2 e3 => ?_⟩, fun y c e => (nl y c e).elim, I.free, I.freeC, fun p hp => ?_, fun b ob e => ?_, by rw [List.length_set]; exact I.len⟩
  · by_cases hj : j = i
    · subst hj
      rw [hi] at e1
      cases e1
      rw [List.getElem?_set_self hiσ] at e2
      cases e2
      exact ⟨u, r, .inl ⟨hx, if_pos rfl⟩⟩
    · rw [List.getElem?_set_ne (fun z => hj z.symm)] at e2
      obtain ⟨u', r', q⟩ := hl j y w e1 e2 e3
      rcases q with ⟨q1, q2⟩ | ⟨_, c, e, _⟩
      · have hy : y ≠ x := fun z => hj (nodup_ix hN e1 (z ▸ hi))
        exact ⟨u', r', .inl ⟨q1, (if_neg hy).trans q2⟩⟩
      · exact (nl y c e).elim
  · obtain ⟨e, n, q, nf, d⟩ := I.pin p hp
    exact ⟨ko p.1 p.2 q e, n, q, nf, d⟩
  · refine (I.hok b ob e).stay (fun c w hc q => ko c w (fun z => ?_) q) (fun _ q => q) fun _ _ q => q
    have hf := I.free
    rcases hc with y | y
    · rw [← z, y, e] at hf
      cases hf
    · rw [← z, y] at hf
      cases hf
theorem append_at {F : Addr} {xs : List V} {y : V} {u : Value} {Q : Value → Shared → Prop} (I : Inv X pins σ H s) (hF : H F = some (.lst xs)) (hz : xs.length < sizeLine) (r : RelV y u) (k : ∀ w s', s'.gens = s.gens → Inv X pins σ (upd H F (.lst (xs ++ [y]))) s' → Q w s') :
    wpAny (model X.prog X.w) X.A (call (.builtin "list.append") [.ref F, u]) Q E s := by
  obtain ⟨z, its, n, rv, hl, e⟩ := I.lstM hF
  have hsz : its.toArray.size ≤ sizeLine := by rw [List.size_toArray]; omega
  refine call_meets PySem.F.slot_list_append ⟨_, e, rfl⟩ PySem.F.entry_list_append (PySem.F.args_list_append_2 _ _) (PySem.list_append F its.toArray n u hsz) ⟨e, ?_⟩
  refine k _ _ ?_ (I.lset (its' := its ++ [u]) hF e (by simp) (rv.append (.cons r .nil)) ?_)
  · rfl
  · rw [List.length_append, List.length_singleton]
    omega
/-- found.append(naming); if len(found) == top: return found -/
theorem turn_at {F : Addr} {xs : List V} {y : V} {top : Int} {i2 i3 i4 : Nat} {nf nn nt : Str} {q1 q2 q3 q4 q5 q6 q7 q8 q9 q10 q11 q12 q13 : Pos} {Q : Flow → Shared → Prop} (I : Inv X pins σ H s) (h3 : X.N[i3]? = some nf) (h4 : X.N[i4]? = some nn) (h2 : X.N[i2]? = some nt)
    (k3 : X.env.kindOf nf = some .local) (k4 : X.env.kindOf nn = some .local) (k2 : X.env.kindOf nt = some .local) (hg : Gl X "len") (hm : X.mg "len" = none) (e3 : σ[i3]? = some (some (.ref F))) (e4 : σ[i4]? = some (some y)) (e2 : σ[i2]? = some (some (.int top))) (hF : H F = some (.lst xs)) (hz : xs.length < 1000)
    (hd3 : (nf == ("__debug__" : Str)) = false) (hd4 : (nn == ("__debug__" : Str)) = false) (hd2 : (nt == ("__debug__" : Str)) = false)
    (hline : (q2.endLine == q4.line) = true) (hsw : swapsWith (.Call (.Attribute (.Name nf q1) "append" q2) [.Name nn q3] [] q4) none q5.line X.env = pure false)
    (hst : ∀ (y : Str) (p : Pos), starEach [.Name y p] X.env = (false, eval (.Name y p) X.env) :: starEach [] X.env) (hbase : attributeBase (.Name nf q1) "append" X.env (eval (.Name nf q1) X.env) = eval (.Name nf q1) X.env)
    (k : ∀ s', s'.gens = s.gens → Inv X pins σ (upd H F (.lst (xs ++ [y]))) s' → if ((xs.length + 1 : Nat) : Int) = top then Q (.ret (.ref F)) s' else Q .next s') :
    wpAny (model X.prog X.w) X.A (execs [.Expr (.Call (.Attribute (.Name nf q1) "append" q2) [.Name nn q3] [] q4) q5, .If (.Compare (.Call (.Name "len" q6) [.Name nf q7] [] q8) [.Eq] [.Name nt q9] q10) [.Return (some (.Name nf q11)) q12] [] q13] X.env) Q E s := by
  have hsl : xs.length < sizeLine := Nat.lt_of_lt_of_le hz (by decide)
  refine wpAny_execs_cons ?_
  refine wpAny_Expr_any ?_ I.quiet hsw
  refine wpAny_Call_method_late hbase (by rw [hst] <;> rfl) hline rfl (var_at I h3 k3 e3 (fun u r => ?_) hd3)
  have ty : tyV X.K "list" (.ref F) H := .inl ⟨rfl, _, SqL.of hF⟩
  obtain ⟨t1, t2⟩ := tyV_is I r ty
  obtain rfl : u = Value.ref F := r
  refine ⟨"list", "list.append", PySem.F.plainAttrs_list, PySem.F.slot_list_append, PySem.F.type_list_append, t1, t2, ?_⟩
  have hA : wpAny (model X.prog X.w) X.A (spliced (backTo q4 (starEach [.Name nn q3] X.env))) (fun vs s' => wpAny (model X.prog X.w) X.A (call (.builtin "list.append") ([.ref F] ++ vs)) (fun w s2 => wpAny (model X.prog X.w) X.A (execs [.If (.Compare (.Call (.Name "len" q6) [.Name nf q7] [] q8) [.Eq] [.Name nt q9] q10) [.Return (some (.Name nf q11)) q12] [] q13] X.env) Q E s2) E s') E s := by
    refine args_cons (var_at I h4 k4 e4 (fun u2 r2 => args_nil ?_) hd4) (hst _ _)
    refine append_at I hF hsl r2 fun w s1 g1 I1 => ?_
    refine wpAny_execs_cons ?_
    refine wpAny_If (wpAny_isTrue_Compare1 (wpAny_Call_Name_kw (ld_blt I1 hg hm boot_len ?_ (by decide) (by decide))) (nomark _))
    refine PyProof.Rows.callWith_builtin1 (args_cons (var_at I1 h3 k3 e3 (fun u3 r3 => args_nil ?_) hd3) (hst _ _)) (hst _ _) rfl
    obtain rfl : u3 = Value.ref F := r3
    obtain ⟨its, rv, pl, hz2⟩ := I1.list (SqL.of upd_same)
    have hlen := rv.length
    rw [List.length_append, List.length_singleton] at hlen
    refine Calls.call_len_list pl.isList (by simp only [List.size_toArray]; omega) ?_
    have I2 := I1.tok (s1.toks + 1 + 1)
    refine var_at I2 h2 k2 e2 (fun u4 r4 => ?_) hd2
    obtain ⟨t4, rfl⟩ := r4
    refine PyProof.Rows.eq_int ?_
    refine wpAny_truthy_bool ?_
    have hk := k { s1 with toks := s1.toks + 1 + 1 } g1 I2
    rw [List.size_toArray, ← hlen]
    by_cases ht : ((xs.length + 1 : Nat) : Int) = top
    · rw [if_pos ht] at hk
      rw [if_pos (show (((xs.length + 1 : Nat) : Int) == top) = true from beq_iff_eq.mpr ht)]
      refine wpAny_execs_cons ?_
      refine wpAny_Return_some (var_at I2 h3 k3 e3 (fun u5 r5 => ?_) hd3)
      obtain rfl : u5 = Value.ref F := r5
      exact hk
    · rw [if_neg ht] at hk
      rw [if_neg (show ¬ (((xs.length + 1 : Nat) : Int) == top) = true from fun z => ht (beq_iff_eq.mp z))]
      refine wpAny_execs_nil ?_
      exact wpAny_execs_nil hk
  rw [hst] at hA ⊢
  exact Calls.callWith_builtin rfl (Calls.evalArgs_plain hA)
end
end Lv
/-! #### Gn4 -/
namespace Lv
open PySem L2 StX PyProof.Rows GenW
/-! ### what the consumer holds, what the generator promises -/
def rhoF (φ1 φ2 : Mo) (top : Nat) (F : Addr) (x : Option Mo) : Rho := [some φ1, some φ2, some (Mo.d (.int (top : Int))), some (Mo.adr F), x]
def musF (F : Addr) (itm : Nat → PyData) (i : Nat) : Mus := [(F, Mu.dl ((List.range i).map itm))]
/-- at the consumer's point: what may come next -/
def RdyG (X : Cx) (pins pG : List (Addr × Obj)) (Z : Zo) (φ1 φ2 : Mo) (top : Nat) (F : Addr) (itm : Nat → PyData) (i : Nat) (G : Hp) (P : Shared → Prop) : Prop :=
  ∀ (s : Shared) (σ : L2.St) (H G2 : Hp) (x : Option Mo), i < top → Inv X (pins ++ pG) σ H s → EnvOk G2 σ (rhoF φ1 φ2 top F x) → Z.Ok (musF F itm i) G2 H → Same G G2 → P s
def GY2 (X : Cx) (pins : List (Addr × Obj)) (Z : Zo) (φ1 φ2 : Mo) (top : Nat) (F : Addr) (itm : Nat → PyData) (a : Addr) (go : Obj) : Protocol := fun r s0 v s1 kap =>
  ∃ (i : Nat) (σ : L2.St) (H G : Hp) (x4 : Option Mo) (x : V) (pG : List (Addr × Obj)), r + 1 + i = top ∧ Inv X (pins ++ pG) σ H s1 ∧ EnvOk G σ (rhoF φ1 φ2 top F x4) ∧ Z.Ok (musF F itm i) G H ∧ (a, go) ∈ pG ∧ RelV x v ∧ (Mo.d (itm i)).p x G ∧
    RdyG X pins pG Z φ1 φ2 top F itm (i + 1) G fun s => kap (.send .none) s
def GR2 : GenEnd := fun _ _ r _ => ((r = .ok (.ret .none) ∨ r = .ok .next) ∧ False) ∨ ∃ e, r = .error e ∧ False
section
variable {X : Cx} {Eg : Env} {N : List Str} {pins : List (Addr × Obj)} {Z : Zo} {φ1 φ2 : Mo} {top : Nat} {F : Addr} {itm : Nat → PyData} {a : Addr} {go : Obj} {st0 : Stmt} {t0 : TS} {iter ey : Expr} {wi : TI} {te : TE} {x : Str} {tp yp ep fpos : Pos} {φs : List Mo}
theorem gen_loop (ge : GEnv X Eg pins) (hd : X.A.handled = none) (ha : Eg.locals < a) (hgo : ∀ v, go.data ≠ .cell v) (hco : Eg.scope.isCoroutine = false) (hint : interactive Eg = false)
    (hG : ∀ s H, PG (gnx X Eg N s H) (.Name x tp) (gName 2)) (hE : ∀ s H, PE (gnx X Eg N s H) ey te)
    (rE : ∀ (M : Mus) (i : Nat), i < top → Ev Z.T te [some φ1, some φ2, some (Mo.d (.int (i : Int)))] M fun φ M1 => φ = Mo.d (itm i) ∧ M1 = M)
    (hφ : ∀ i, i < top → φs[i]? = some (Mo.d (.int (i : Int)))) {J : It} {fp : List Addr} {it : Addr} {tn : Nat → Heap → Prop} {A0 : Hp} (Tu : Turn X.prog X.w X.K (.Name x tp) J fp it tn) (wk : WalkM Z.T J φs A0) (hfp : ∀ b ∈ fp, Eg.locals < b ∧ b ≠ a)
    {fs : List Frame} (hover : X.A.in1.over (.forLoop (.Name x tp) (.ref it) [.Expr (.Yield (some ey) yp) ep] [] Eg) fs = X.A.in1.deeper Eg) (hsp : splitAtGen fs = none) (hgd : fs.any Frame.guarded = false) :
    ∀ (r i : Nat), r + 1 + i = top → ∀ (s0 s : Shared) (σ : L2.St) (H G : Hp) (x4 y : Option Mo) (σg : L2.St), Inv X pins σ H s → EnvOk G σ (rhoF φ1 φ2 top F x4) → Z.Ok (musF F itm i) G H → Same A0 G → FrOk Eg N s H σg → EnvOk G σg [some φ1, some φ2, y] →
      s.heap.get? a = some go → H a = none → (∀ b ∈ fp, H b = none) → tn i s.heap →
      Seg (model X.prog X.w) X.A.in1 GR2 (GY2 X pins Z φ1 φ2 top F itm a go) (r + 1) s0 (.forLoop (.Name x tp) (.ref it) [.Expr (.Yield (some ey) yp) ep] [] Eg) ((model X.prog X.w).den (.forLoop (.Name x tp) (.ref it) [.Expr (.Yield (some ey) yp) ep] [] Eg)) fs s := by
  intro r
  induction r with
  | zero => ?_
  | succ r ih => ?_
  all_goals
    intro i hi s0 s σ H G x4 y σg I e z hA fr eg ga Ha hfpN st
    have hit : i < top := by omega
    have hL : Eg.locals < s.heap.objs.size := let ⟨_, _, m, f3, _⟩ := fr; f3.lt
    have J0 : Inv (gnx X Eg N s H) [(a, go)] σg H s := regen I ge hd hL fr fun p hp => by
      rw [List.mem_singleton.mp hp]
      exact ⟨ga, Ha, ha, hgo⟩
    have hz : (gnx X Eg N s H).s_0.heap.objs.size = Eg.locals := cutH_size (Nat.le_of_lt hL)
    have fy := frs_young I ge
    have fpok : ∀ {H' : Hp}, (∀ b ∈ fp, H' b = none) → ∀ b ∈ fp, FpOk (gnx X Eg N s H) [(a, go)] H' b := fun {H'} hn b hb => by
      obtain ⟨q1, q2⟩ := hfp b hb
      refine ⟨hn b hb, Nat.ne_of_gt q1, fun w => absurd (fy b w) (Nat.not_lt.mpr (Nat.le_of_lt q1)), .inr (by rw [hz]; exact Nat.le_of_lt q1), fun y c w => ?_, fun p hp w => ?_⟩
      · have w' : Eg.cells.lookup y = some c := w
        rw [ge.cells] at w'
        cases w'
      · rw [List.mem_singleton.mp hp] at w
        exact q2 w.symm
    obtain ⟨wstop, wgo⟩ := wk (musF F itm i) G H hA z.st
    obtain ⟨jgo, jy⟩ := wgo i _ (hφ i hit)
    refine seg_turn ?_
    rw [hover]
    refine thn (Tu.item (gnx X Eg N s H) rfl rfl rfl rfl i [(a, go)] s σg H (fun _ _ => False) J0 (fpok hfpN) st jgo) fun rr s1 ⟨u, hu, h1⟩ => ⟨u, hu, thn h1 fun _ s2 ⟨xv, H5, J5, r5, y5, st5, fr5⟩ => ?_⟩
    obtain ⟨G5, po5, p5⟩ := jy xv H5 y5
    have J5' := J5.pinned (fpok fr5) (Tu.obj _ _ st5)
    refine thn ((hG s H).run _ s2 σg H5 xv u (fun σ6 H6 => H6 = H5 ∧ EnvOk G5 σ6 [some φ1, some φ2, some (Mo.d (.int (i : Int)))]) J5' r5 ⟨rfl, (eg.mono po5.g).set (i := 2) p5⟩) fun _ s3 ⟨σ6, H6, J6, e6, eg6⟩ => ?_
    subst e6
    refine seg_execs_cons (seg_Expr_Yield hsp rfl hgd ?_ hco hint)
    rw [hover]
    refine wpAny_mono ((hE s H).run _ s3 σ6 H6 (fun v H7 => ∃ G7, (Mo.d (itm i)).p v G7 ∧ Po Z.T (musF F itm i) G5 H6 (musF F itm i) G7 H7) J6 (rE (musF F itm i) i hit σ6 G5 H6 eg6 po5.st _ fun v φ M7 G7 H7 ⟨e1, e2⟩ p7 n7 => ⟨G7, by rw [← e1]; exact p7, by rw [e2] at n7; exact n7⟩)) (fun v s4 ⟨vx, H7, J7, rv, G7, p7, po7⟩ => ?_) fun _ _ w => w.elim
    intro kap hk
    have I7 := ungen I ge hL J7
    obtain ⟨m7, ⟨oL, es, ep', hoL, hdL, hrL⟩, _⟩ := id J7.loc
    have hpin : ∀ p ∈ (Eg.locals, oL) :: ([(a, go)] ++ pinsAt fp s2.heap), s4.heap.get? p.1 = some p.2 ∧ H7 p.1 = none ∧ Eg.locals ≤ p.1 ∧ ∀ v, p.2.data ≠ .cell v := fun p hp => by
      rcases List.mem_cons.mp hp with w | w
      · rw [w]
        exact ⟨hoL, J7.free, Nat.le_refl _, fun v q => by rw [hdL] at q; cases q⟩
      · obtain ⟨q1, q2, q3, q4, q5⟩ := J7.pin p (List.mem_append_right _ w)
        refine ⟨q1, q2, ?_, q5⟩
        rcases List.mem_append.mp w with w | w
        · rw [List.mem_singleton.mp w]; exact Nat.le_of_lt ha
        · exact Nat.le_of_lt (hfp _ (of_pinsAt w).1).1
    have I7p : Inv X (pins ++ ((Eg.locals, oL) :: ([(a, go)] ++ pinsAt fp s2.heap))) σ H7 s4 := I7.pins_of fun p hp => by
      rcases List.mem_append.mp hp with w | w
      · exact I7.pin p (List.mem_append_right _ w)
      · obtain ⟨q1, q2, q3, q4⟩ := hpin p w
        refine ⟨q1, q2, Nat.ne_of_gt (Nat.lt_of_lt_of_le ge.young q3), fun w2 => ?_, q4⟩
        obtain ⟨_, o, ho, _⟩ := I.ok.funs.mem w2
        exact absurd (Nat.lt_of_lt_of_le (Heap.lt_size ho) ge.sz) (Nat.not_lt.mpr q3)
    have po := po5.trans po7
    refine ⟨i, σ, H7, G7, x4, vx, _, by omega, I7p, e.mono po.g, z.to po, List.mem_cons_of_mem _ (List.mem_append_left _ (List.mem_singleton.mpr rfl)), rv, p7, ?_⟩
    intro s8 σ8 H8 G8 y8 hlt I8 e8 z8 sG
    first
      | exact absurd hlt (by omega)
      | skip
  all_goals
    refine hk .none s8 (seg_execs_nil ?_)
    have at8 : ∀ p ∈ (Eg.locals, oL) :: ([(a, go)] ++ pinsAt fp s2.heap), s8.heap.get? p.1 = some p.2 ∧ H8 p.1 = none := fun p hp => let ⟨q1, q2, _⟩ := I8.pin p (List.mem_append_right _ (List.mem_append_right _ hp)); ⟨q1, q2⟩
    have fr7 : FrOk Eg N s4 H7 σ6 := frok_of ge J7
    have hb8 : ∀ b ∈ fp, ∀ o, s2.heap.get? b = some o → s8.heap.get? b = some o ∧ H8 b = none := fun b hb o ho => at8 (b, o) (List.mem_cons_of_mem _ (List.mem_append_right _ (mem_pinsAt hb ho)))
    refine seg_again rfl (ih (i + 1) (by omega) s8 s8 σ8 H8 G8 y8 _ σ6 I8.unpinned e8 z8 ((hA.trans po.g).trans sG) (fr7.keep fun o ho => ?_) (eg6.mono (po7.g.trans sG)) (at8 (a, go) (by simp)).1 (at8 (a, go) (by simp)).2 (fun b hb => ?_) (Tu.keep _ _ _ st5 fun b hb o ho => (hb8 b hb o ho).1))
    · have hoL' : s4.heap.get? Eg.locals = some oL := hoL
      rw [hoL'] at ho
      cases ho
      exact at8 (Eg.locals, oL) (by simp)
    · obtain ⟨o, ho, _⟩ := Tu.obj _ _ st5 b hb
      exact (hb8 b hb o ho).2
end
end Lv
/-! #### Gn5 -/
namespace Lv
open PySem L2 StX PyProof.Rows GenW
section
variable {X : Cx} {Eg : Env} {N : List Str} {pins : List (Addr × Obj)} {Z : Zo} {φ1 φ2 : Mo} {top : Nat} {F : Addr} {itm : Nat → PyData} {a : Addr} {go : Obj} {st0 : Stmt} {t0 : TS} {iter ey : Expr} {wi : TI} {te : TE} {x : Str} {tp yp ep fpos : Pos} {φs : List Mo}
theorem gen_start (ge : GEnv X Eg pins) (hd : X.A.handled = none) (ha : Eg.locals < a) (hgo : ∀ v, go.data ≠ .cell v) (hco : Eg.scope.isCoroutine = false) (hint : interactive Eg = false)
    (hA : ∀ s H, PS (gnx X Eg N s H) st0 t0) (hI : ∀ s H, PI (gnx X Eg N s H) (.Name x tp) iter wi) (hG : ∀ s H, PG (gnx X Eg N s H) (.Name x tp) (gName 2)) (hE : ∀ s H, PE (gnx X Eg N s H) ey te)
    (r0 : ∀ (Z' : Zo) (D : Ends) (M : Mus), Z'.T = Z.T → Go Z' D.nx [some φ1, some φ2, none] M → Go Z' (t0 D) [some φ1, some φ2, none] M)
    (rI : ∀ (M : Mus) (Kk : List Mo → Mus → Prop), Kk φs M → EvI Z.T wi [some φ1, some φ2, none] M Kk)
    (rE : ∀ (M : Mus) (i : Nat), i < top → Ev Z.T te [some φ1, some φ2, some (Mo.d (.int (i : Int)))] M fun φ M1 => φ = Mo.d (itm i) ∧ M1 = M)
    (hφ : ∀ i, i < top → φs[i]? = some (Mo.d (.int (i : Int)))) (hs : ∀ x, foldedSetIterable iter Eg x = pure x) (htop : 0 < top)
    {s0 s : Shared} {σ : L2.St} {H G : Hp} {x4 : Option Mo} {σg : L2.St} (I : Inv X pins σ H s) (e : EnvOk G σ (rhoF φ1 φ2 top F x4)) (z : Z.Ok (musF F itm 0) G H) (fr : FrOk Eg N s H σg) (eg : EnvOk G σg [some φ1, some φ2, none]) (ga : s.heap.get? a = some go) (Ha : H a = none) :
    Seg (model X.prog X.w) X.A.in1 GR2 (GY2 X pins Z φ1 φ2 top F itm a go) top s0 (.func [st0, .For (.Name x tp) iter [.Expr (.Yield (some ey) yp) ep] [] fpos] Eg) ((model X.prog X.w).den (.func [st0, .For (.Name x tp) iter [.Expr (.Yield (some ey) yp) ep] [] fpos] Eg)) [] s := by
  obtain ⟨r, rfl⟩ : ∃ r, top = r + 1 := ⟨top - 1, by omega⟩
  have hL : Eg.locals < s.heap.objs.size := let ⟨_, _, m, f3, _⟩ := fr; f3.lt
  have J0 : Inv (gnx X Eg N s H) [(a, go)] σg H s := regen I ge hd hL fr fun p hp => by
    rw [List.mem_singleton.mp hp]
    exact ⟨ga, Ha, ha, hgo⟩
  refine seg_func (seg_execs_cons (seg_wrap ?_))
  rw [over_func]
  refine wpAny_mono ((hA s H).run [(a, go)] s σg H { nx := fun σ' H' => ∃ G', EnvOk G' σ' [some φ1, some φ2, none] ∧ Z.Ok (musF F itm 0) G' H' ∧ Same G G', rt := fun _ _ => False } J0 (r0 (Z.at G) { nx := fun σ' H' => ∃ G', EnvOk G' σ' [some φ1, some φ2, none] ∧ Z.Ok (musF F itm 0) G' H' ∧ Same G G', rt := fun _ _ => False } (musF F itm 0) rfl (fun σ' G' H' e' z' => ⟨G', e', z'.back z.an, z'.an⟩) σg G H eg ⟨z.st, z.nx, z.nw, Same.refl _⟩)) (fun f s1 hf => ?_) fun _ _ w => w.elim
  cases f with
  | brk => obtain ⟨_, _, _, q⟩ := hf; exact q.elim
  | cont => obtain ⟨_, _, _, q⟩ := hf; exact q.elim
  | ret u => obtain ⟨_, _, _, _, _, q⟩ := hf; exact q.elim
  | next =>
    obtain ⟨σ1, H1, J1, G1, e1, z1, sG⟩ := hf
    refine seg_execs_cons (seg_for hs ?_)
    rw [over_func]
    refine wpAny_mono ((hI s H).run [(a, go)] s1 σ1 H1 (fun J H2 => ∃ G2, Po Z.T (musF F itm 0) G1 H1 (musF F itm 0) G2 H2 ∧ WalkM Z.T J φs G2) J1 (rI (musF F itm 0) (fun φ M => φ = φs ∧ M = musF F itm 0) ⟨rfl, rfl⟩ σ1 G1 H1 e1 z1.st _ fun J φ M2 G2 H2 ⟨q1, q2⟩ po wk => ⟨G2, by rw [q2] at po; exact po, by rw [← q1]; exact wk⟩)) (fun v s2 h2 => wpAny_mono h2 (fun u s3 h3 => ?_) fun _ _ w => w.elim) fun _ _ w => w.elim
    obtain ⟨it, fp, tn, J, H3, rfl, J3, Tu, st, f2, G3, po3, wk⟩ := h3
    intro k l p
    have hz : (gnx X Eg N s H).s_0.heap.objs.size = Eg.locals := cutH_size (Nat.le_of_lt hL)
    refine gen_loop ge hd ha hgo hco hint hG hE rE hφ Tu wk (fun b hb => ?_) ((over_loop rfl rfl).trans over_func) rfl rfl r 0 (by omega) _ s3 σ H3 G3 x4 none σ1 (ungen I ge hL J3) (e.mono (sG.trans po3.g)) (z1.to po3) (Same.refl _) (frok_of ge J3) (e1.mono po3.g) (J3.pin (a, go) (by simp)).1 (J3.pin (a, go) (by simp)).2.1 (fun b hb => (f2 b hb).1) st
    obtain ⟨q1, q2, q3, q4, q5, q6⟩ := f2 b hb
    refine ⟨?_, fun w => q6 (a, go) (by simp) w.symm⟩
    rcases q4 with w | w
    · cases w
    · rw [hz] at w
      exact Nat.lt_of_le_of_ne w (fun y => q2 y.symm)
end
/-- for x in f(a, b): found.append(x); if len(found) == top: return found -/
def tGenFor (T : Tb) (φ1 φ2 : Mo) (top : Nat) (itm : Nat → PyData) : TS := fun D σ H => ∃ (Z : Zo) (F : Addr) (G : Hp) (x4 : Option Mo), Z.T = T ∧ EnvOk G σ (rhoF φ1 φ2 top F x4) ∧ Z.Ok (musF F itm 0) G H ∧
  ∀ σ' G' H' y4, EnvOk G' σ' (rhoF φ1 φ2 top F y4) → Z.Ok (musF F itm top) G' H' → D.rt (.ref F) H'
theorem getO {G : Hp} {σ : L2.St} {ρ : Rho} {i : Nat} {φ : Mo} (e : EnvOk G σ ρ) (h : ρ[i]? = some (some φ)) : ∃ v, σ[i]? = some (some v) ∧ φ.p v G := e.2 i φ h
section
variable {X : Cx} {T : Tb} {N : List Str} {φ1 φ2 : Mo} {top : Nat} {itm : Nat → PyData} {st0 : Stmt} {t0 : TS} {iter ey : Expr} {wi : TI} {te : TE} {x y0 y1 name qual n0 n1 n2 n3 n4 : Str} {tp yp ep fpos gp g0 g1 g2 cp wpos : Pos} {φs : List Mo} {k : Nat} {f : Addr} {params : Arguments} {scope : Scope} {dV kV doc pm cdv ct oc : Value} {an od : Option Addr} {osl : Array (Option Value)}
  {q1 q2 q3 q4 q5 q6 q7 q8 q9 q10 q11 q12 q13 : Pos}
theorem ps_genFor (lk : X.K.lookup f = some ⟨oc, od, .func (PySem.W.fnOf name qual params [st0, .For (.Name x tp) iter [.Expr (.Yield (some ey) yp) ep] [] fpos] scope dV kV doc pm an cdv ct), osl⟩) (hcd : PySem.W.codeIn X.K cdv qual = true) (S : GScope N [y0, y1] scope) (hnoc : ∀ y ∈ scope.names, y.2 ≠ .cell ∧ y.2 ≠ .free) (hcells : ∀ L, cellsFrom L scope.names [] = []) (hNl : N.length = 3) (hN0 : N[0]? = some y0) (hN1 : N[1]? = some y1)
    (hb : Binds X.K (PySem.W.fnOf name qual params [st0, .For (.Name x tp) iter [.Expr (.Yield (some ey) yp) ep] [] fpos] scope dV kV doc pm an cdv ct) [y0, y1] []) (hr : Room (k + 2) X.A) (hg : Gl X name) (hm : X.mg name = some (.ref f)) (hk : PySem.W.keepIn X.K (.ref f) = true) (hdb : (name == ("__debug__" : Str)) = false)
    (hA : ∀ L s H, PS (gnx X (envOfC qual scope L f cdv) N s H) st0 t0) (hI : ∀ L s H, PI (gnx X (envOfC qual scope L f cdv) N s H) (.Name x tp) iter wi) (hG : ∀ L s H, PG (gnx X (envOfC qual scope L f cdv) N s H) (.Name x tp) (gName 2)) (hE : ∀ L s H, PE (gnx X (envOfC qual scope L f cdv) N s H) ey te)
    (r0 : ∀ (Z' : Zo) (D : Ends) (M : Mus), Z'.T = T → Go Z' D.nx [some φ1, some φ2, none] M → Go Z' (t0 D) [some φ1, some φ2, none] M) (rI : ∀ (M : Mus) (Kk : List Mo → Mus → Prop), Kk φs M → EvI T wi [some φ1, some φ2, none] M Kk)
    (rE : ∀ (M : Mus) (i : Nat), i < top → Ev T te [some φ1, some φ2, some (Mo.d (.int (i : Int)))] M fun φ M1 => φ = Mo.d (itm i) ∧ M1 = M)
    (hφ : ∀ i, i < top → φs[i]? = some (Mo.d (.int (i : Int)))) (hs : ∀ L x, foldedSetIterable iter (envOfC qual scope L f cdv) x = pure x) (htop : 0 < top) (htop2 : top ≤ 900)
    (hNd : X.N.Nodup) (hcX : X.env.cells = []) (h0 : X.N[0]? = some n0) (h1 : X.N[1]? = some n1) (h2 : X.N[2]? = some n2) (h3 : X.N[3]? = some n3) (h4 : X.N[4]? = some n4) (hlX : X.N.length = 5)
    (k0 : X.env.kindOf n0 = some .local) (k1 : X.env.kindOf n1 = some .local) (k2 : X.env.kindOf n2 = some .local) (k3 : X.env.kindOf n3 = some .local) (k4 : X.env.kindOf n4 = some .local) (hgl : Gl X "len") (hml : X.mg "len" = none)
    (hd0 : (n0 == ("__debug__" : Str)) = false) (hd1 : (n1 == ("__debug__" : Str)) = false) (hd3 : (n3 == ("__debug__" : Str)) = false) (hd4 : (n4 == ("__debug__" : Str)) = false) (hd2 : (n2 == ("__debug__" : Str)) = false)
    (hline : (q2.endLine == q4.line) = true) (hsw : swapsWith (.Call (.Attribute (.Name n3 q1) "append" q2) [.Name n4 q3] [] q4) none q5.line X.env = pure false)
    (hst : ∀ (y : Str) (p : Pos), starEach [.Name y p] X.env = (false, eval (.Name y p) X.env) :: starEach [] X.env) (hst2 : ∀ (y : Str) (p : Pos) (y' : Str) (p' : Pos), starEach [.Name y p, .Name y' p'] X.env = (false, eval (.Name y p) X.env) :: starEach [.Name y' p'] X.env) (hbase : attributeBase (.Name n3 q1) "append" X.env (eval (.Name n3 q1) X.env) = eval (.Name n3 q1) X.env)
    (hsX : ∀ v, foldedSetIterable (.Call (.Name name gp) [.Name n0 g0, .Name n1 g1] [] g2) X.env v = pure v) :
    PS X (.For (.Name n4 cp) (.Call (.Name name gp) [.Name n0 g0, .Name n1 g1] [] g2) [.Expr (.Call (.Attribute (.Name n3 q1) "append" q2) [.Name n4 q3] [] q4) q5, .If (.Compare (.Call (.Name "len" q6) [.Name n3 q7] [] q8) [.Eq] [.Name n2 q9] q10) [.Return (some (.Name n3 q11)) q12] [] q13] [] wpos) (tGenFor T φ1 φ2 top itm) := by
  refine ⟨fun pins s σ H D I h => ?_⟩
  obtain ⟨Z, F, G, x4, rfl, e, z, fin⟩ := h
  obtain ⟨v0, e0, p0⟩ := getO (i := 0) e rfl
  obtain ⟨v1, e1, p1⟩ := getO (i := 1) e rfl
  refine wpAny_For (wpAny_Call_Name_kw (ld_glob I hg hm ?_ hdb)) hsX
  refine PySem.W.callWith_K (h₀ := X.base) I.ok.mod.kin hk (args_cons (var_at I h0 k0 e0 (fun u0 r0' => args_cons (var_at I h1 k1 e1 (fun u1 r1' => args_nil ⟨I.kIn, ?_⟩) hd1) (hst _ _)) hd0) (hst2 _ _ _ _)) (hst2 _ _ _ _) (by rw [hst] <;> rfl)
  have KX : X.K.In s.heap := I.kIn
  refine wpAny_call (codeAny_call_generator hr.depth (KX _ _ lk) rfl S.co S.gen rfl (PySem.W.codeRec_of KX hcd) (hb s [u0, u1] KX rfl _ _ _ _ ?_))
  have ndP : [y0, y1].Nodup := by
    have h := S.nd.sublist (List.take_sublist 2 N)
    have hp := S.pre
    rw [show ([y0, y1] : List Str).length = 2 from rfl] at hp
    rw [hp] at h
    exact h
  refine wpAny_newFunctionEnv_cells S.kind (fun y hy => .inl ?_) fun env he s1 xc => ?_
  · have hy2 : y ∈ [(y0, u0), (y1, u1)] := hy
    have hp : y.1 ∈ [y0, y1] := by
      rcases List.mem_cons.mp hy2 with w | w
      · rw [w]; exact List.mem_cons_self
      · rw [List.mem_singleton.mp w]; exact List.mem_cons_of_mem _ List.mem_cons_self
    rcases S.par y.1 hp with w | w
    · exact w
    · exact absurd rfl (hnoc _ (PySem.mem_of_lookup w)).1
  subst he
  have lim1 : s1.heap.NoLimit := I.nolimit.keeps xc.toInCall.keep
  refine ⟨lim1, ?_⟩
  obtain ⟨h', tk, es1, hk1⟩ := xc.done
  have kp1 : ∀ b o, s.heap.get? b = some o → s1.heap.get? b = some o := xc.toInCall.keep
  have main : ∀ (go : Obj) (nm qn : Value) (tk2 : Nat), go.cls = .type "generator" → go.data = .fields #[.int s1.gens.size 0, nm, qn] → go.slots = #[] → (∀ hh : Heap, (hh.push go).get? hh.objs.size = some go) →
      wpAny (model X.prog X.w) X.A (pyIter (.ref s1.heap.objs.size)) (fun it s2 => codeAny (model X.prog X.w) X.A (.forLoop (.Name n4 cp) it [.Expr (.Call (.Attribute (.Name n3 q1) "append" q2) [.Name n4 q3] [] q4) q5, .If (.Compare (.Call (.Name "len" q6) [.Name n3 q7] [] q8) [.Eq] [.Name n2 q9] q10) [.Return (some (.Name n3 q11)) q12] [] q13] [] X.env)
        (fun r s' => match r with | .ok f => SP X pins D f s' | .error e => cameBackBy (model X.prog X.w) X.A X.env X.xe e s') s2) X.xe { s1 with gens := s1.gens.push (.fresh (.func [st0, .For (.Name x tp) iter [.Expr (.Yield (some ey) yp) ep] [] fpos] (envOfC qual scope s.heap.objs.size f cdv))), toks := tk2, heap := s1.heap.push go } := by
    intro go nm qn tk2 gc gd gs hgp
    have hgen : ∀ hh : Heap, hh.get? s1.heap.objs.size = some go → hh.IsGen s1.heap.objs.size s1.gens.size := fun hh e => ⟨go, nm, qn, e, gc, gd, gs⟩
    have hgo : ∀ v, go.data ≠ .cell v := fun v q => by rw [gd] at q; cases q
    refine wpAny_pyIter_gen (hgen _ (hgp _)) ?_
    have kp2 : ∀ b o, s.heap.get? b = some o → (s1.heap.push go).get? b = some o := fun b o q => Heap.get?_push_of_some _ (kp1 b o q)
    have I2 : Inv X pins σ H { s1 with gens := s1.gens.push (.fresh (.func [st0, .For (.Name x tp) iter [.Expr (.Yield (some ey) yp) ep] [] fpos] (envOfC qual scope s.heap.objs.size f cdv))), toks := tk2, heap := s1.heap.push go } := by
      refine I.call' (ch := []) ?_ (Un.kept kp2) (I.hok.kept kp2) ?_ (fun b w => by cases w)
      · show s1.os = s.os
        rw [es1]
      · exact AllBare.push (by rw [es1]; exact I.bare) rfl
    have lt1 : s.heap.objs.size < s1.heap.objs.size := xc.toInCall.ns.lt
    have fresh2 : ∀ b, s.heap.objs.size ≤ b → H b = none := fun b hb => I.hok.fresh hb
    have ge : GEnv X (envOfC qual scope s.heap.objs.size f cdv) pins := by
      refine ⟨S.kind, rfl, rfl, hcells _, fun y hy => ?_, rfl, I.lt, I.sz, fun y c hy => ?_, fun p hp => Heap.lt_size (I.pin p hp).1⟩
      · rcases hy with w | w
        · exact absurd rfl (hnoc _ (PySem.mem_of_lookup w)).1
        · exact absurd rfl (hnoc _ (PySem.mem_of_lookup w)).2
      · obtain ⟨v, o, ho, _⟩ := I.cell y c hy
        exact Heap.lt_size ho
    have loc : ∀ y ∈ [y0, y1], (envOfC qual scope s.heap.objs.size f cdv).kindOf y = some .local := fun y hy => by
      rcases S.par y hy with w | w
      · exact w
      · exact absurd rfl (hnoc _ (PySem.mem_of_lookup w)).1
    have fr : ∀ {s2 : Shared} {H2 : Hp}, (∀ o, s1.heap.get? s.heap.objs.size = some o → s2.heap.get? s.heap.objs.size = some o) → H2 s.heap.objs.size = none → FrOk (envOfC qual scope s.heap.objs.size f cdv) N s2 H2 [some v0, some v1, none] := fun {s2 H2} hkk hn => by
      refine ⟨hn, by rw [hNl] <;> rfl, _, xc.toInCall.ns.at' hkk, fun i y v a1 a2 a3 => ?_⟩
      match i with
      | 0 =>
        cases a2
        rw [hN0] at a1
        cases a1
        exact ⟨u0, r0', loc _ List.mem_cons_self, bindL_get (P := [y0, y1]) (vs := [u0, u1]) (i := 0) ndP rfl rfl (loc _ List.mem_cons_self)⟩
      | 1 =>
        cases a2
        rw [hN1] at a1
        cases a1
        exact ⟨u1, r1', loc _ (List.mem_cons_of_mem _ List.mem_cons_self), bindL_get (P := [y0, y1]) (vs := [u0, u1]) (i := 1) ndP rfl rfl (loc _ (List.mem_cons_of_mem _ List.mem_cons_self))⟩
      | 2 => cases a2
      | n + 3 => cases a2
    obtain ⟨m1, ⟨oL, esL, epL, hoL, hdL, hrL⟩⟩ : ∃ m, s1.heap.Ns s.heap.objs.size m := ⟨_, xc.toInCall.ns⟩
    have hoL2 : (s1.heap.push go).get? s.heap.objs.size = some oL := Heap.get?_push_of_some _ hoL
    have hpG : ∀ p ∈ [(s.heap.objs.size, oL), (s1.heap.objs.size, go)], (s1.heap.push go).get? p.1 = some p.2 ∧ H p.1 = none ∧ s.heap.objs.size ≤ p.1 ∧ ∀ v, p.2.data ≠ .cell v := fun p hp => by
      rcases List.mem_cons.mp hp with w | w
      · rw [w]
        exact ⟨hoL2, fresh2 _ (Nat.le_refl _), Nat.le_refl _, fun v q => by rw [hdL] at q; cases q⟩
      · rw [List.mem_singleton.mp w]
        exact ⟨hgp _, fresh2 _ (Nat.le_of_lt lt1), Nat.le_of_lt lt1, hgo⟩
    have I2p : Inv X (pins ++ [(s.heap.objs.size, oL), (s1.heap.objs.size, go)]) σ H { s1 with gens := s1.gens.push (.fresh (.func [st0, .For (.Name x tp) iter [.Expr (.Yield (some ey) yp) ep] [] fpos] (envOfC qual scope s.heap.objs.size f cdv))), toks := tk2, heap := s1.heap.push go } := I2.pins_of fun p hp => by
      rcases List.mem_append.mp hp with w | w
      · exact I2.pin p (List.mem_append_right _ w)
      · obtain ⟨a1, a2, a3, a4⟩ := hpG p w
        exact ⟨a1, a2, Nat.ne_of_gt (Nat.lt_of_lt_of_le I.lt a3), I.nofs a3, a4⟩
    refine codeAny_forLoop_any (fun n s5 => ∃ (i : Nat) (σ5 : L2.St) (H5 G5 : Hp) (x5 : Option Mo) (pG : List (Addr × Obj)) (gs5 : GenState), n = top - i ∧ i < top ∧ Inv X (pins ++ pG) σ5 H5 s5 ∧ EnvOk G5 σ5 (rhoF φ1 φ2 top F x5) ∧ Z.Ok (musF F itm i) G5 H5 ∧ (s1.heap.objs.size, go) ∈ pG ∧ s5.gens[s1.gens.size]? = some gs5 ∧
      RdyG X pins pG Z φ1 φ2 top F itm i G5 fun s6 => gs5.Goes (model X.prog X.w) X.A.in1 GR2 (GY2 X pins Z φ1 φ2 top F itm s1.heap.objs.size go) (top - i) (.send .none) s6) ?_ top ⟨0, σ, H, G, x4, _, _, rfl, htop, I2p, e, z, List.mem_cons_of_mem _ List.mem_cons_self, Array.getElem?_push_size .., ?_⟩
    · rintro n s5 ⟨i, σ5, H5, G5, x5, pG, gs5, rfl, hit, I5, e5, z5, hmem, hgs, rdy⟩
      obtain ⟨m, hm5⟩ : ∃ m, top - i = m + 1 := ⟨top - i - 1, by omega⟩
      have hpa := (I5.pin (s1.heap.objs.size, go) (List.mem_append_right _ (List.mem_append_right _ hmem))).1
      have hgl5 : s1.gens.size < s5.gens.size := (Array.getElem?_eq_some_iff.mp hgs).1
      refine wpAny_gsz (n := s1.gens.size + 1) hgl5 (next_genG (n := m + 1) (F := fun _ _ _ => False) (Er := fun _ _ => False) (Y := GY2 X pins Z φ1 φ2 top F itm s1.heap.objs.size go) hr.hd I5.nolimit hr.depth (hgen _ hpa) hgs ?_ (fun v s6 gs6 hbare hv => ?_) (fun s6 hp => hp.elim) fun e6 s6 he => he.elim)
      · have q := rdy (s5.setGen s1.gens.size .running) σ5 H5 G5 x5 hit (Lv.Inv.gens I5 rfl) e5 z5 (Same.refl _)
        rw [hm5] at q
        exact q
      · intro hsz
        obtain ⟨i', σ6, H6, G6, x6, xv, pG6, hi', I6, e6, z6, hmem6, rv, pv6, rdy6⟩ := hv
        have hii : i' = i := by omega
        subst hii
        have hsz6 : s1.gens.size < s6.gens.size := by
          have w : (s6.setGen s1.gens.size gs6).gens.size = s6.gens.size := setGen_size _ _ _
          have w2 : s1.gens.size + 1 ≤ (s6.setGen s1.gens.size gs6).gens.size := hsz
          omega
        refine wpAny_of_eq (a := ()) rfl ?_
        refine wpAny_assign_Name ?_
        obtain ⟨v2, c2, p2⟩ := getO (i := 2) e6 rfl
        obtain ⟨v3, c3, p3⟩ := getO (i := 3) e6 rfl
        obtain rfl : v2 = .int (top : Int) := rep_int p2
        obtain rfl : v3 = .ref F := p3
        have hl6 : 4 < σ6.length := by rw [I6.len, hlX]; omega
        refine store_at (Lv.Inv.gens I6 hbare) hNd h4 k4 hcX rv fun s7 hg7 I7 => ?_
        obtain ⟨_, o, ho, xs, rfl, hrep⟩ := z6.st.at (j := 0) (p := F) rfl
        have hxl : xs.length = i' := by rw [hrep.length, List.length_map, List.length_range]
        have set_ne : ∀ j w, j ≠ 4 → σ6[j]? = w → (σ6.set 4 (some xv))[j]? = w := fun j w hj hw => by rw [List.getElem?_set_ne (Ne.symm hj)]; exact hw
        refine turn_at I7 h3 h4 h2 k3 k4 k2 hgl hml (set_ne 3 _ (by decide) c3) (by rw [List.getElem?_set_self hl6]) (set_ne 2 _ (by decide) c2) ho (by omega) hd3 hd4 hd2 hline hsw hst hbase fun s8 hg8 I8 => ?_
        have hM : musF F itm (i' + 1) = (musF F itm i').set 0 (F, Mu.dl ((List.range (i' + 1)).map itm)) := rfl
        have z8 : Z.Ok (musF F itm (i' + 1)) G6 (upd H6 F (.lst (xs ++ [xv]))) := by
          rw [hM]
          refine z6.to (Po.wrote z6.st (j := 0) (p := F) rfl ⟨_, rfl, ?_⟩)
          rw [List.range_succ, List.map_append]
          exact hrep.append (RepL.one pv6)
        have e8 : EnvOk G6 (σ6.set 4 (some xv)) (rhoF φ1 φ2 top F (some (Mo.d (itm i')))) := e6.set (i := 4) pv6
        by_cases ht : i' + 1 = top
        · rw [if_pos (by rw [hxl]; omega)]
          refine ⟨.ref F, _, _, I8.unpinned, rfl, ?_⟩
          exact fin _ G6 _ _ e8 (by rw [← ht]; exact z8)
        · rw [if_neg (by rw [hxl]; omega)]
          refine ⟨top - (i' + 1), by omega, i' + 1, _, _, G6, _, pG6, gs6, rfl, by omega, I8, e8, z8, hmem6, ?_, ?_⟩
          · rw [hg8, hg7]
            exact setGen_at hsz6
          · intro s9 σ9 H9 G9 y9 hlt I9 e9 z9 sG
            have q := rdy6 s9 σ9 H9 G9 y9 hlt I9 e9 z9 sG
            rw [show top - (i' + 1) = m by omega]
            exact q
    · intro s6 σ6 H6 G6 y6 _ I6 e6 z6 sG
      refine ⟨rfl, ?_⟩
      have at6 : ∀ p ∈ [(s.heap.objs.size, oL), (s1.heap.objs.size, go)], s6.heap.get? p.1 = some p.2 ∧ H6 p.1 = none := fun p hp => let ⟨a1, a2, _⟩ := I6.pin p (List.mem_append_right _ (List.mem_append_right _ hp)); ⟨a1, a2⟩
      refine gen_start (N := N) (σg := [some v0, some v1, none]) ge hr.hd lt1 hgo S.co (by simp [interactive, envOfC, S.kind]) (hA _) (hI _) (hG _) (hE _) r0 rI rE hφ (hs _) htop I6.unpinned e6 z6 (fr (fun o ho => ?_) (at6 (s.heap.objs.size, oL) (by simp)).2) ⟨rfl, fun i φ hφi => ?_⟩ (at6 (s1.heap.objs.size, go) (by simp)).1 (at6 (s1.heap.objs.size, go) (by simp)).2
      · rw [hoL] at ho
        cases ho
        exact (at6 (s.heap.objs.size, oL) (by simp)).1
      · match i with
        | 0 => cases hφi; exact ⟨v0, rfl, φ1.mono sG p0⟩
        | 1 => cases hφi; exact ⟨v1, rfl, φ2.mono sG p1⟩
        | 2 => cases hφi
        | n + 3 => cases hφi
  exact main _ _ _ _ rfl rfl rfl fun hh => Heap.get?_push_size _ rfl
end
end Lv
/-! #### Facts -/
namespace Lv
open PySem L2 StX
/-- what the top has made -/
structure Fc (K : PySem.W.Frag) (mg : Str → Option Value) : Prop where
  says : He.SaysD fa fn K
  hp : ∃ h : Heap, K.In h ∧ h.Ns mainGlobals mg
  ex : exB K = true
section
variable {K : PySem.W.Frag} {mg : Str → Option Value}
theorem Fc.g_is_whole (c : Fc K mg) : mg "is_whole" = some (.ref (He.ga K "is_whole")) := let ⟨_, X, G⟩ := c.hp; He.glo_ok X G (c.says.fact 0 rfl)
theorem Fc.g_is_number (c : Fc K mg) : mg "is_number" = some (.ref (He.ga K "is_number")) := let ⟨_, X, G⟩ := c.hp; He.glo_ok X G (c.says.fact 1 rfl)
theorem Fc.g_is_name (c : Fc K mg) : mg "is_name" = some (.ref (He.ga K "is_name")) := let ⟨_, X, G⟩ := c.hp; He.glo_ok X G (c.says.fact 2 rfl)
theorem Fc.g_is_line (c : Fc K mg) : mg "is_line" = some (.ref (He.ga K "is_line")) := let ⟨_, X, G⟩ := c.hp; He.glo_ok X G (c.says.fact 3 rfl)
theorem Fc.g_are_unlike (c : Fc K mg) : mg "are_unlike" = some (.ref (He.ga K "are_unlike")) := let ⟨_, X, G⟩ := c.hp; He.glo_ok X G (c.says.fact 4 rfl)
theorem Fc.g_each_once (c : Fc K mg) : mg "each_once" = some (.ref (He.ga K "each_once")) := let ⟨_, X, G⟩ := c.hp; He.glo_ok X G (c.says.fact 5 rfl)
theorem Fc.g_ordered (c : Fc K mg) : mg "ordered" = some (.ref (He.ga K "ordered")) := let ⟨_, X, G⟩ := c.hp; He.glo_ok X G (c.says.fact 6 rfl)
theorem Fc.g_is_tree (c : Fc K mg) : mg "is_tree" = some (.ref (He.ga K "is_tree")) := let ⟨_, X, G⟩ := c.hp; He.glo_ok X G (c.says.fact 7 rfl)
theorem Fc.g_are_trees (c : Fc K mg) : mg "are_trees" = some (.ref (He.ga K "are_trees")) := let ⟨_, X, G⟩ := c.hp; He.glo_ok X G (c.says.fact 8 rfl)
theorem Fc.g_parts_of (c : Fc K mg) : mg "parts_of" = some (.ref (He.ga K "parts_of")) := let ⟨_, X, G⟩ := c.hp; He.glo_ok X G (c.says.fact 9 rfl)
theorem Fc.g_deep_of (c : Fc K mg) : mg "deep_of" = some (.ref (He.ga K "deep_of")) := let ⟨_, X, G⟩ := c.hp; He.glo_ok X G (c.says.fact 10 rfl)
theorem Fc.g_Flat (c : Fc K mg) : mg "Flat" = some (.ref (He.ga K "Flat")) := let ⟨_, X, G⟩ := c.hp; He.glo_ok X G (c.says.fact 11 rfl)
theorem Fc.g_Term (c : Fc K mg) : mg "Term" = some (.ref (He.ga K "Term")) := let ⟨_, X, G⟩ := c.hp; He.glo_ok X G (c.says.fact 12 rfl)
theorem Fc.g_look_at_term (c : Fc K mg) : mg "look_at_term" = some (.ref (He.ga K "look_at_term")) := let ⟨_, X, G⟩ := c.hp; He.glo_ok X G (c.says.fact 13 rfl)
theorem Fc.g_are_such_names (c : Fc K mg) : mg "are_such_names" = some (.ref (He.ga K "are_such_names")) := let ⟨_, X, G⟩ := c.hp; He.glo_ok X G (c.says.fact 14 rfl)
theorem Fc.g_look_at_names (c : Fc K mg) : mg "look_at_names" = some (.ref (He.ga K "look_at_names")) := let ⟨_, X, G⟩ := c.hp; He.glo_ok X G (c.says.fact 15 rfl)
theorem Fc.g_name_for (c : Fc K mg) : mg "name_for" = some (.ref (He.ga K "name_for")) := let ⟨_, X, G⟩ := c.hp; He.glo_ok X G (c.says.fact 16 rfl)
theorem Fc.g_inner (c : Fc K mg) : mg "inner" = some (.ref (He.ga K "inner")) := let ⟨_, X, G⟩ := c.hp; He.glo_ok X G (c.says.fact 17 rfl)
theorem Fc.g_catches_of (c : Fc K mg) : mg "catches_of" = some (.ref (He.ga K "catches_of")) := let ⟨_, X, G⟩ := c.hp; He.glo_ok X G (c.says.fact 18 rfl)
theorem Fc.g_is_right (c : Fc K mg) : mg "is_right" = some (.ref (He.ga K "is_right")) := let ⟨_, X, G⟩ := c.hp; He.glo_ok X G (c.says.fact 19 rfl)
theorem Fc.g_all_live (c : Fc K mg) : mg "all_live" = some (.ref (He.ga K "all_live")) := let ⟨_, X, G⟩ := c.hp; He.glo_ok X G (c.says.fact 20 rfl)
theorem Fc.g_in_line (c : Fc K mg) : mg "in_line" = some (.ref (He.ga K "in_line")) := let ⟨_, X, G⟩ := c.hp; He.glo_ok X G (c.says.fact 21 rfl)
theorem Fc.g_is_pool (c : Fc K mg) : mg "is_pool" = some (.ref (He.ga K "is_pool")) := let ⟨_, X, G⟩ := c.hp; He.glo_ok X G (c.says.fact 22 rfl)
theorem Fc.g_look_at_pool (c : Fc K mg) : mg "look_at_pool" = some (.ref (He.ga K "look_at_pool")) := let ⟨_, X, G⟩ := c.hp; He.glo_ok X G (c.says.fact 23 rfl)
theorem Fc.g_choices_for (c : Fc K mg) : mg "choices_for" = some (.ref (He.ga K "choices_for")) := let ⟨_, X, G⟩ := c.hp; He.glo_ok X G (c.says.fact 24 rfl)
theorem Fc.g_product (c : Fc K mg) : mg "product" = some (.ref (He.ga K "product")) := let ⟨_, X, G⟩ := c.hp; He.glo_ok X G (c.says.fact 25 rfl)
theorem Fc.g_how_many (c : Fc K mg) : mg "how_many" = some (.ref (He.ga K "how_many")) := let ⟨_, X, G⟩ := c.hp; He.glo_ok X G (c.says.fact 26 rfl)
theorem Fc.g_let_at (c : Fc K mg) : mg "let_at" = some (.ref (He.ga K "let_at")) := let ⟨_, X, G⟩ := c.hp; He.glo_ok X G (c.says.fact 27 rfl)
theorem Fc.g_naming_by (c : Fc K mg) : mg "naming_by" = some (.ref (He.ga K "naming_by")) := let ⟨_, X, G⟩ := c.hp; He.glo_ok X G (c.says.fact 28 rfl)
theorem Fc.g_all_namings (c : Fc K mg) : mg "all_namings" = some (.ref (He.ga K "all_namings")) := let ⟨_, X, G⟩ := c.hp; He.glo_ok X G (c.says.fact 29 rfl)
theorem Fc.g_naming_at (c : Fc K mg) : mg "naming_at" = some (.ref (He.ga K "naming_at")) := let ⟨_, X, G⟩ := c.hp; He.glo_ok X G (c.says.fact 30 rfl)
theorem Fc.g_is_from (c : Fc K mg) : mg "is_from" = some (.ref (He.ga K "is_from")) := let ⟨_, X, G⟩ := c.hp; He.glo_ok X G (c.says.fact 31 rfl)
theorem Fc.g_number_of (c : Fc K mg) : mg "number_of" = some (.ref (He.ga K "number_of")) := let ⟨_, X, G⟩ := c.hp; He.glo_ok X G (c.says.fact 32 rfl)
theorem Fc.g__law_pool (c : Fc K mg) : mg "_law_pool" = some (.ref (He.ga K "_law_pool")) := let ⟨_, X, G⟩ := c.hp; He.glo_ok X G (c.says.fact 33 rfl)
theorem Fc.g__law_take (c : Fc K mg) : mg "_law_take" = some (.ref (He.ga K "_law_take")) := let ⟨_, X, G⟩ := c.hp; He.glo_ok X G (c.says.fact 34 rfl)
theorem Fc.g__law_one (c : Fc K mg) : mg "_law_one" = some (.ref (He.ga K "_law_one")) := let ⟨_, X, G⟩ := c.hp; He.glo_ok X G (c.says.fact 35 rfl)
theorem Fc.g__law_turned (c : Fc K mg) : mg "_law_turned" = some (.ref (He.ga K "_law_turned")) := let ⟨_, X, G⟩ := c.hp; He.glo_ok X G (c.says.fact 36 rfl)
theorem Fc.g__law_unlike (c : Fc K mg) : mg "_law_unlike" = some (.ref (He.ga K "_law_unlike")) := let ⟨_, X, G⟩ := c.hp; He.glo_ok X G (c.says.fact 37 rfl)
theorem Fc.g__law_words (c : Fc K mg) : mg "_law_words" = some (.ref (He.ga K "_law_words")) := let ⟨_, X, G⟩ := c.hp; He.glo_ok X G (c.says.fact 38 rfl)
theorem Fc.g__law_leaf (c : Fc K mg) : mg "_law_leaf" = some (.ref (He.ga K "_law_leaf")) := let ⟨_, X, G⟩ := c.hp; He.glo_ok X G (c.says.fact 39 rfl)
theorem Fc.g__law_grown (c : Fc K mg) : mg "_law_grown" = some (.ref (He.ga K "_law_grown")) := let ⟨_, X, G⟩ := c.hp; He.glo_ok X G (c.says.fact 40 rfl)
theorem Fc.g__law_bound (c : Fc K mg) : mg "_law_bound" = some (.ref (He.ga K "_law_bound")) := let ⟨_, X, G⟩ := c.hp; He.glo_ok X G (c.says.fact 41 rfl)
theorem Fc.g__law_nested (c : Fc K mg) : mg "_law_nested" = some (.ref (He.ga K "_law_nested")) := let ⟨_, X, G⟩ := c.hp; He.glo_ok X G (c.says.fact 42 rfl)
theorem Fc.g__law_tree (c : Fc K mg) : mg "_law_tree" = some (.ref (He.ga K "_law_tree")) := let ⟨_, X, G⟩ := c.hp; He.glo_ok X G (c.says.fact 43 rfl)
theorem Fc.g__law_below (c : Fc K mg) : mg "_law_below" = some (.ref (He.ga K "_law_below")) := let ⟨_, X, G⟩ := c.hp; He.glo_ok X G (c.says.fact 44 rfl)
theorem Fc.g__law_spots (c : Fc K mg) : mg "_law_spots" = some (.ref (He.ga K "_law_spots")) := let ⟨_, X, G⟩ := c.hp; He.glo_ok X G (c.says.fact 45 rfl)
theorem Fc.g__law_page (c : Fc K mg) : mg "_law_page" = some (.ref (He.ga K "_law_page")) := let ⟨_, X, G⟩ := c.hp; He.glo_ok X G (c.says.fact 46 rfl)
theorem Fc.g__law_free (c : Fc K mg) : mg "_law_free" = some (.ref (He.ga K "_law_free")) := let ⟨_, X, G⟩ := c.hp; He.glo_ok X G (c.says.fact 47 rfl)
theorem Fc.g__law_in_order (c : Fc K mg) : mg "_law_in_order" = some (.ref (He.ga K "_law_in_order")) := let ⟨_, X, G⟩ := c.hp; He.glo_ok X G (c.says.fact 48 rfl)
theorem Fc.g__law_inside (c : Fc K mg) : mg "_law_inside" = some (.ref (He.ga K "_law_inside")) := let ⟨_, X, G⟩ := c.hp; He.glo_ok X G (c.says.fact 49 rfl)
theorem Fc.g__law_live (c : Fc K mg) : mg "_law_live" = some (.ref (He.ga K "_law_live")) := let ⟨_, X, G⟩ := c.hp; He.glo_ok X G (c.says.fact 50 rfl)
theorem Fc.g__law_all_live (c : Fc K mg) : mg "_law_all_live" = some (.ref (He.ga K "_law_all_live")) := let ⟨_, X, G⟩ := c.hp; He.glo_ok X G (c.says.fact 51 rfl)
theorem Fc.g__law_named (c : Fc K mg) : mg "_law_named" = some (.ref (He.ga K "_law_named")) := let ⟨_, X, G⟩ := c.hp; He.glo_ok X G (c.says.fact 52 rfl)
theorem Fc.g__law_wordlist (c : Fc K mg) : mg "_law_wordlist" = some (.ref (He.ga K "_law_wordlist")) := let ⟨_, X, G⟩ := c.hp; He.glo_ok X G (c.says.fact 53 rfl)
theorem Fc.g__law_right_naming (c : Fc K mg) : mg "_law_right_naming" = some (.ref (He.ga K "_law_right_naming")) := let ⟨_, X, G⟩ := c.hp; He.glo_ok X G (c.says.fact 54 rfl)
theorem Fc.g__law_product (c : Fc K mg) : mg "_law_product" = some (.ref (He.ga K "_law_product")) := let ⟨_, X, G⟩ := c.hp; He.glo_ok X G (c.says.fact 55 rfl)
theorem Fc.g__law_places (c : Fc K mg) : mg "_law_places" = some (.ref (He.ga K "_law_places")) := let ⟨_, X, G⟩ := c.hp; He.glo_ok X G (c.says.fact 56 rfl)
theorem Fc.g__law_first (c : Fc K mg) : mg "_law_first" = some (.ref (He.ga K "_law_first")) := let ⟨_, X, G⟩ := c.hp; He.glo_ok X G (c.says.fact 57 rfl)
theorem Fc.g_law (c : Fc K mg) : mg "law" = some (.ref (He.ga K "law")) := let ⟨_, X, G⟩ := c.hp; He.glo_ok X G (c.says.fact 58 rfl)
theorem Fc.b_len (c : Fc K mg) : mg "len" = none := let ⟨_, X, G⟩ := c.hp; He.free_ok X G (c.says.fact 59 rfl)
theorem Fc.b_max (c : Fc K mg) : mg "max" = none := let ⟨_, X, G⟩ := c.hp; He.free_ok X G (c.says.fact 60 rfl)
theorem Fc.b_min (c : Fc K mg) : mg "min" = none := let ⟨_, X, G⟩ := c.hp; He.free_ok X G (c.says.fact 61 rfl)
theorem Fc.b_int (c : Fc K mg) : mg "int" = none := let ⟨_, X, G⟩ := c.hp; He.free_ok X G (c.says.fact 62 rfl)
theorem Fc.b_isinstance (c : Fc K mg) : mg "isinstance" = none := let ⟨_, X, G⟩ := c.hp; He.free_ok X G (c.says.fact 63 rfl)
theorem Fc.b_list (c : Fc K mg) : mg "list" = none := let ⟨_, X, G⟩ := c.hp; He.free_ok X G (c.says.fact 64 rfl)
theorem Fc.b_tuple (c : Fc K mg) : mg "tuple" = none := let ⟨_, X, G⟩ := c.hp; He.free_ok X G (c.says.fact 65 rfl)
theorem Fc.b_all (c : Fc K mg) : mg "all" = none := let ⟨_, X, G⟩ := c.hp; He.free_ok X G (c.says.fact 66 rfl)
theorem Fc.b_sorted (c : Fc K mg) : mg "sorted" = none := let ⟨_, X, G⟩ := c.hp; He.free_ok X G (c.says.fact 67 rfl)
theorem Fc.b_zip (c : Fc K mg) : mg "zip" = none := let ⟨_, X, G⟩ := c.hp; He.free_ok X G (c.says.fact 68 rfl)
theorem Fc.b_enumerate (c : Fc K mg) : mg "enumerate" = none := let ⟨_, X, G⟩ := c.hp; He.free_ok X G (c.says.fact 69 rfl)
theorem Fc.b_range (c : Fc K mg) : mg "range" = none := let ⟨_, X, G⟩ := c.hp; He.free_ok X G (c.says.fact 70 rfl)
theorem Fc.b_bool (c : Fc K mg) : mg "bool" = none := let ⟨_, X, G⟩ := c.hp; He.free_ok X G (c.says.fact 71 rfl)
theorem Fc.b_str (c : Fc K mg) : mg "str" = none := let ⟨_, X, G⟩ := c.hp; He.free_ok X G (c.says.fact 72 rfl)
theorem Fc.b_super (c : Fc K mg) : mg "super" = none := let ⟨_, X, G⟩ := c.hp; He.free_ok X G (c.says.fact 73 rfl)
theorem Fc.i_MOST_LETTERS (c : Fc K mg) : ∃ t, mg "MOST_LETTERS" = some (.int 8 t) := let ⟨_, X, G⟩ := c.hp; He.int_ok X G (c.says.fact 74 rfl)
theorem Fc.i_MOST_NODES (c : Fc K mg) : ∃ t, mg "MOST_NODES" = some (.int 400 t) := let ⟨_, X, G⟩ := c.hp; He.int_ok X G (c.says.fact 75 rfl)
theorem Fc.i_MOST_BINDERS (c : Fc K mg) : ∃ t, mg "MOST_BINDERS" = some (.int 60 t) := let ⟨_, X, G⟩ := c.hp; He.int_ok X G (c.says.fact 76 rfl)
theorem Fc.i_MOST_DEEP (c : Fc K mg) : ∃ t, mg "MOST_DEEP" = some (.int 100 t) := let ⟨_, X, G⟩ := c.hp; He.int_ok X G (c.says.fact 77 rfl)
theorem Fc.i_MOST_POOL (c : Fc K mg) : ∃ t, mg "MOST_POOL" = some (.int 60 t) := let ⟨_, X, G⟩ := c.hp; He.int_ok X G (c.says.fact 78 rfl)
theorem Fc.s_LETTERS (c : Fc K mg) : ∃ t, mg "LETTERS" = some (.str "abcdefghijklmnopqrstuvwxyz" t) := let ⟨_, X, G⟩ := c.hp; He.str_ok X G (c.says.fact 79 rfl)
theorem Fc.cls_Flat (c : Fc K mg) : Cls K (He.ga K "Flat") := He.cls_ok (c.says.fact 80 rfl)
theorem Fc.mk_Flat (c : Fc K mg) : Mk K (He.ga K "Flat") (He.ma K (He.ga K "Flat") "__init__") := He.mkr_ok (c.says.fact 81 rfl)
theorem Fc.n_Flat_nodes (c : Fc K mg) : NoAttr K (He.ga K "Flat") "nodes" := He.noat_ok (c.says.fact 82 rfl)
theorem Fc.n_Flat_around (c : Fc K mg) : NoAttr K (He.ga K "Flat") "around" := He.noat_ok (c.says.fact 83 rfl)
theorem Fc.n_Flat_binder_nodes (c : Fc K mg) : NoAttr K (He.ga K "Flat") "binder_nodes" := He.noat_ok (c.says.fact 84 rfl)
theorem Fc.n_Flat_use_nodes (c : Fc K mg) : NoAttr K (He.ga K "Flat") "use_nodes" := He.noat_ok (c.says.fact 85 rfl)
theorem Fc.cls_Term (c : Fc K mg) : Cls K (He.ga K "Term") := He.cls_ok (c.says.fact 86 rfl)
theorem Fc.mk_Term (c : Fc K mg) : Mk K (He.ga K "Term") (He.ma K (He.ga K "Term") "__init__") := He.mkr_ok (c.says.fact 87 rfl)
theorem Fc.n_Term_own_tree (c : Fc K mg) : NoAttr K (He.ga K "Term") "own_tree" := He.noat_ok (c.says.fact 88 rfl)
theorem Fc.n_Term_own_nodes (c : Fc K mg) : NoAttr K (He.ga K "Term") "own_nodes" := He.noat_ok (c.says.fact 89 rfl)
theorem Fc.n_Term_own_around (c : Fc K mg) : NoAttr K (He.ga K "Term") "own_around" := He.noat_ok (c.says.fact 90 rfl)
theorem Fc.n_Term_binder_nodes (c : Fc K mg) : NoAttr K (He.ga K "Term") "binder_nodes" := He.noat_ok (c.says.fact 91 rfl)
theorem Fc.n_Term_use_nodes (c : Fc K mg) : NoAttr K (He.ga K "Term") "use_nodes" := He.noat_ok (c.says.fact 92 rfl)
theorem Fc.n_Term_own_names (c : Fc K mg) : NoAttr K (He.ga K "Term") "own_names" := He.noat_ok (c.says.fact 93 rfl)
theorem Fc.n_Term_use_around (c : Fc K mg) : NoAttr K (He.ga K "Term") "use_around" := He.noat_ok (c.says.fact 94 rfl)
theorem Fc.n_Term_own_meaning (c : Fc K mg) : NoAttr K (He.ga K "Term") "own_meaning" := He.noat_ok (c.says.fact 95 rfl)
theorem Fc.m_Flat_add (c : Fc K mg) : Meth K (He.ga K "Flat") "add" (He.ma K (He.ga K "Flat") "add") := He.meth_ok (c.says.fact 96 rfl)
theorem Fc.m_Term_meant (c : Fc K mg) : Meth K (He.ga K "Term") "meant" (He.ma K (He.ga K "Term") "meant") := He.meth_ok (c.says.fact 97 rfl)
theorem Fc.f_is_whole (c : Fc K mg) : ∃ fd, FunD K "is_whole" "is_whole" (defArgs s_is_whole) (defBody s_is_whole) (defScope s_is_whole) [] [] (He.ga K "is_whole") fd := c.says.def_ (d := d_is_whole) 0 rfl
theorem Fc.f_is_number (c : Fc K mg) : ∃ fd, FunD K "is_number" "is_number" (defArgs s_is_number) (defBody s_is_number) (defScope s_is_number) [] [] (He.ga K "is_number") fd := c.says.def_ (d := d_is_number) 1 rfl
theorem Fc.f_is_name (c : Fc K mg) : ∃ fd, FunD K "is_name" "is_name" (defArgs s_is_name) (defBody s_is_name) (defScope s_is_name) [] [] (He.ga K "is_name") fd := c.says.def_ (d := d_is_name) 2 rfl
theorem Fc.f_is_line (c : Fc K mg) : ∃ fd, FunD K "is_line" "is_line" (defArgs s_is_line) (defBody s_is_line) (defScope s_is_line) [] [] (He.ga K "is_line") fd := c.says.def_ (d := d_is_line) 3 rfl
theorem Fc.f_are_unlike (c : Fc K mg) : ∃ fd, FunD K "are_unlike" "are_unlike" (defArgs s_are_unlike) (defBody s_are_unlike) (defScope s_are_unlike) [] [] (He.ga K "are_unlike") fd := c.says.def_ (d := d_are_unlike) 4 rfl
theorem Fc.f_each_once (c : Fc K mg) : ∃ fd, FunD K "each_once" "each_once" (defArgs s_each_once) (defBody s_each_once) (defScope s_each_once) [] [] (He.ga K "each_once") fd := c.says.def_ (d := d_each_once) 5 rfl
theorem Fc.f_ordered (c : Fc K mg) : ∃ fd, FunD K "ordered" "ordered" (defArgs s_ordered) (defBody s_ordered) (defScope s_ordered) [] [] (He.ga K "ordered") fd := c.says.def_ (d := d_ordered) 6 rfl
theorem Fc.f_is_tree (c : Fc K mg) : ∃ fd, FunD K "is_tree" "is_tree" (defArgs s_is_tree) (defBody s_is_tree) (defScope s_is_tree) [] [] (He.ga K "is_tree") fd := c.says.def_ (d := d_is_tree) 7 rfl
theorem Fc.f_are_trees (c : Fc K mg) : ∃ fd, FunD K "are_trees" "are_trees" (defArgs s_are_trees) (defBody s_are_trees) (defScope s_are_trees) [] [] (He.ga K "are_trees") fd := c.says.def_ (d := d_are_trees) 8 rfl
theorem Fc.f_parts_of (c : Fc K mg) : ∃ fd, FunD K "parts_of" "parts_of" (defArgs s_parts_of) (defBody s_parts_of) (defScope s_parts_of) [] [] (He.ga K "parts_of") fd := c.says.def_ (d := d_parts_of) 9 rfl
theorem Fc.f_deep_of (c : Fc K mg) : ∃ fd, FunD K "deep_of" "deep_of" (defArgs s_deep_of) (defBody s_deep_of) (defScope s_deep_of) [] [] (He.ga K "deep_of") fd := c.says.def_ (d := d_deep_of) 10 rfl
theorem Fc.f_Flat_init (c : Fc K mg) : ∃ fd, FunD K "__init__" "Flat.__init__" (defArgs s_Flat_init) (defBody s_Flat_init) (defScope s_Flat_init) [] [] (He.ma K (He.ga K "Flat") "__init__") fd := c.says.def_ (d := d_Flat_init) 11 rfl
theorem Fc.f_Flat_add (c : Fc K mg) : ∃ fd, FunD K "add" "Flat.add" (defArgs s_Flat_add) (defBody s_Flat_add) (defScope s_Flat_add) [] [] (He.ma K (He.ga K "Flat") "add") fd := c.says.def_ (d := d_Flat_add) 12 rfl
theorem Fc.f_Term_init (c : Fc K mg) : ∃ fd, FunD K "__init__" "Term.__init__" (defArgs s_Term_init) (defBody s_Term_init) (defScope s_Term_init) [] [] (He.ma K (He.ga K "Term") "__init__") fd := c.says.def_ (d := d_Term_init) 13 rfl
theorem Fc.f_Term_meant (c : Fc K mg) : ∃ fd, FunD K "meant" "Term.meant" (defArgs s_Term_meant) (defBody s_Term_meant) (defScope s_Term_meant) [] [] (He.ma K (He.ga K "Term") "meant") fd := c.says.def_ (d := d_Term_meant) 14 rfl
theorem Fc.f_look_at_term (c : Fc K mg) : ∃ fd, FunD K "look_at_term" "look_at_term" (defArgs s_look_at_term) (defBody s_look_at_term) (defScope s_look_at_term) [] [] (He.ga K "look_at_term") fd := c.says.def_ (d := d_look_at_term) 15 rfl
theorem Fc.f_are_such_names (c : Fc K mg) : ∃ fd, FunD K "are_such_names" "are_such_names" (defArgs s_are_such_names) (defBody s_are_such_names) (defScope s_are_such_names) [] [] (He.ga K "are_such_names") fd := c.says.def_ (d := d_are_such_names) 16 rfl
theorem Fc.f_look_at_names (c : Fc K mg) : ∃ fd, FunD K "look_at_names" "look_at_names" (defArgs s_look_at_names) (defBody s_look_at_names) (defScope s_look_at_names) [] [] (He.ga K "look_at_names") fd := c.says.def_ (d := d_look_at_names) 17 rfl
theorem Fc.f_name_for (c : Fc K mg) : ∃ fd, FunD K "name_for" "name_for" (defArgs s_name_for) (defBody s_name_for) (defScope s_name_for) [] [] (He.ga K "name_for") fd := c.says.def_ (d := d_name_for) 18 rfl
theorem Fc.f_inner (c : Fc K mg) : ∃ fd, FunD K "inner" "inner" (defArgs s_inner) (defBody s_inner) (defScope s_inner) [] [] (He.ga K "inner") fd := c.says.def_ (d := d_inner) 19 rfl
theorem Fc.f_catches_of (c : Fc K mg) : ∃ fd, FunD K "catches_of" "catches_of" (defArgs s_catches_of) (defBody s_catches_of) (defScope s_catches_of) [] [] (He.ga K "catches_of") fd := c.says.def_ (d := d_catches_of) 20 rfl
theorem Fc.f_is_right (c : Fc K mg) : ∃ fd, FunD K "is_right" "is_right" (defArgs s_is_right) (defBody s_is_right) (defScope s_is_right) [] [] (He.ga K "is_right") fd := c.says.def_ (d := d_is_right) 21 rfl
theorem Fc.f_all_live (c : Fc K mg) : ∃ fd, FunD K "all_live" "all_live" (defArgs s_all_live) (defBody s_all_live) (defScope s_all_live) [] [] (He.ga K "all_live") fd := c.says.def_ (d := d_all_live) 22 rfl
theorem Fc.f_in_line (c : Fc K mg) : ∃ fd, FunD K "in_line" "in_line" (defArgs s_in_line) (defBody s_in_line) (defScope s_in_line) [] [] (He.ga K "in_line") fd := c.says.def_ (d := d_in_line) 23 rfl
theorem Fc.f_is_pool (c : Fc K mg) : ∃ fd, FunD K "is_pool" "is_pool" (defArgs s_is_pool) (defBody s_is_pool) (defScope s_is_pool) [] [] (He.ga K "is_pool") fd := c.says.def_ (d := d_is_pool) 24 rfl
theorem Fc.f_look_at_pool (c : Fc K mg) : ∃ fd, FunD K "look_at_pool" "look_at_pool" (defArgs s_look_at_pool) (defBody s_look_at_pool) (defScope s_look_at_pool) [] [] (He.ga K "look_at_pool") fd := c.says.def_ (d := d_look_at_pool) 25 rfl
theorem Fc.f_choices_for (c : Fc K mg) : ∃ fd, FunD K "choices_for" "choices_for" (defArgs s_choices_for) (defBody s_choices_for) (defScope s_choices_for) [] [] (He.ga K "choices_for") fd := c.says.def_ (d := d_choices_for) 26 rfl
theorem Fc.f_product (c : Fc K mg) : ∃ fd, FunD K "product" "product" (defArgs s_product) (defBody s_product) (defScope s_product) [] [] (He.ga K "product") fd := c.says.def_ (d := d_product) 27 rfl
theorem Fc.f_how_many (c : Fc K mg) : ∃ fd, FunD K "how_many" "how_many" (defArgs s_how_many) (defBody s_how_many) (defScope s_how_many) [] [] (He.ga K "how_many") fd := c.says.def_ (d := d_how_many) 28 rfl
theorem Fc.f_let_at (c : Fc K mg) : ∃ fd, FunD K "let_at" "let_at" (defArgs s_let_at) (defBody s_let_at) (defScope s_let_at) [] [] (He.ga K "let_at") fd := c.says.def_ (d := d_let_at) 29 rfl
theorem Fc.f_naming_by (c : Fc K mg) : ∃ fd, FunD K "naming_by" "naming_by" (defArgs s_naming_by) (defBody s_naming_by) (defScope s_naming_by) [] [] (He.ga K "naming_by") fd := c.says.def_ (d := d_naming_by) 30 rfl
theorem Fc.f_all_namings (c : Fc K mg) : ∃ fd, FunD K "all_namings" "all_namings" (defArgs s_all_namings) (defBody s_all_namings) (defScope s_all_namings) [] [] (He.ga K "all_namings") fd := c.says.def_ (d := d_all_namings) 31 rfl
theorem Fc.f_naming_at (c : Fc K mg) : ∃ fd, FunD K "naming_at" "naming_at" (defArgs s_naming_at) (defBody s_naming_at) (defScope s_naming_at) [] [] (He.ga K "naming_at") fd := c.says.def_ (d := d_naming_at) 32 rfl
theorem Fc.f_is_from (c : Fc K mg) : ∃ fd, FunD K "is_from" "is_from" (defArgs s_is_from) (defBody s_is_from) (defScope s_is_from) [] [] (He.ga K "is_from") fd := c.says.def_ (d := d_is_from) 33 rfl
theorem Fc.f_number_of (c : Fc K mg) : ∃ fd, FunD K "number_of" "number_of" (defArgs s_number_of) (defBody s_number_of) (defScope s_number_of) [] [] (He.ga K "number_of") fd := c.says.def_ (d := d_number_of) 34 rfl
theorem Fc.f__law_pool (c : Fc K mg) : ∃ fd, FunD K "_law_pool" "_law_pool" (defArgs s__law_pool) (defBody s__law_pool) (defScope s__law_pool) [] [] (He.ga K "_law_pool") fd := c.says.def_ (d := d__law_pool) 35 rfl
theorem Fc.f__law_take (c : Fc K mg) : ∃ fd, FunD K "_law_take" "_law_take" (defArgs s__law_take) (defBody s__law_take) (defScope s__law_take) [] [] (He.ga K "_law_take") fd := c.says.def_ (d := d__law_take) 36 rfl
theorem Fc.f__law_one (c : Fc K mg) : ∃ fd, FunD K "_law_one" "_law_one" (defArgs s__law_one) (defBody s__law_one) (defScope s__law_one) [] [] (He.ga K "_law_one") fd := c.says.def_ (d := d__law_one) 37 rfl
theorem Fc.f__law_turned (c : Fc K mg) : ∃ fd, FunD K "_law_turned" "_law_turned" (defArgs s__law_turned) (defBody s__law_turned) (defScope s__law_turned) [] [] (He.ga K "_law_turned") fd := c.says.def_ (d := d__law_turned) 38 rfl
theorem Fc.f__law_unlike (c : Fc K mg) : ∃ fd, FunD K "_law_unlike" "_law_unlike" (defArgs s__law_unlike) (defBody s__law_unlike) (defScope s__law_unlike) [] [] (He.ga K "_law_unlike") fd := c.says.def_ (d := d__law_unlike) 39 rfl
theorem Fc.f__law_words (c : Fc K mg) : ∃ fd, FunD K "_law_words" "_law_words" (defArgs s__law_words) (defBody s__law_words) (defScope s__law_words) [] [] (He.ga K "_law_words") fd := c.says.def_ (d := d__law_words) 40 rfl
theorem Fc.f__law_leaf (c : Fc K mg) : ∃ fd, FunD K "_law_leaf" "_law_leaf" (defArgs s__law_leaf) (defBody s__law_leaf) (defScope s__law_leaf) [] [] (He.ga K "_law_leaf") fd := c.says.def_ (d := d__law_leaf) 41 rfl
theorem Fc.f__law_grown (c : Fc K mg) : ∃ fd, FunD K "_law_grown" "_law_grown" (defArgs s__law_grown) (defBody s__law_grown) (defScope s__law_grown) [] [] (He.ga K "_law_grown") fd := c.says.def_ (d := d__law_grown) 42 rfl
theorem Fc.f__law_bound (c : Fc K mg) : ∃ fd, FunD K "_law_bound" "_law_bound" (defArgs s__law_bound) (defBody s__law_bound) (defScope s__law_bound) [] [] (He.ga K "_law_bound") fd := c.says.def_ (d := d__law_bound) 43 rfl
theorem Fc.f__law_nested (c : Fc K mg) : ∃ fd, FunD K "_law_nested" "_law_nested" (defArgs s__law_nested) (defBody s__law_nested) (defScope s__law_nested) [] [] (He.ga K "_law_nested") fd := c.says.def_ (d := d__law_nested) 44 rfl
theorem Fc.f__law_tree (c : Fc K mg) : ∃ fd, FunD K "_law_tree" "_law_tree" (defArgs s__law_tree) (defBody s__law_tree) (defScope s__law_tree) [] [] (He.ga K "_law_tree") fd := c.says.def_ (d := d__law_tree) 45 rfl
theorem Fc.f__law_below (c : Fc K mg) : ∃ fd, FunD K "_law_below" "_law_below" (defArgs s__law_below) (defBody s__law_below) (defScope s__law_below) [] [] (He.ga K "_law_below") fd := c.says.def_ (d := d__law_below) 46 rfl
theorem Fc.f__law_spots (c : Fc K mg) : ∃ fd, FunD K "_law_spots" "_law_spots" (defArgs s__law_spots) (defBody s__law_spots) (defScope s__law_spots) [] [] (He.ga K "_law_spots") fd := c.says.def_ (d := d__law_spots) 47 rfl
theorem Fc.f__law_page (c : Fc K mg) : ∃ fd, FunD K "_law_page" "_law_page" (defArgs s__law_page) (defBody s__law_page) (defScope s__law_page) [] [] (He.ga K "_law_page") fd := c.says.def_ (d := d__law_page) 48 rfl
theorem Fc.f__law_free (c : Fc K mg) : ∃ fd, FunD K "_law_free" "_law_free" (defArgs s__law_free) (defBody s__law_free) (defScope s__law_free) [] [] (He.ga K "_law_free") fd := c.says.def_ (d := d__law_free) 49 rfl
theorem Fc.f__law_in_order (c : Fc K mg) : ∃ fd, FunD K "_law_in_order" "_law_in_order" (defArgs s__law_in_order) (defBody s__law_in_order) (defScope s__law_in_order) [] [] (He.ga K "_law_in_order") fd := c.says.def_ (d := d__law_in_order) 50 rfl
theorem Fc.f__law_inside (c : Fc K mg) : ∃ fd, FunD K "_law_inside" "_law_inside" (defArgs s__law_inside) (defBody s__law_inside) (defScope s__law_inside) [] [] (He.ga K "_law_inside") fd := c.says.def_ (d := d__law_inside) 51 rfl
theorem Fc.f__law_live (c : Fc K mg) : ∃ fd, FunD K "_law_live" "_law_live" (defArgs s__law_live) (defBody s__law_live) (defScope s__law_live) [] [] (He.ga K "_law_live") fd := c.says.def_ (d := d__law_live) 52 rfl
theorem Fc.f__law_all_live (c : Fc K mg) : ∃ fd, FunD K "_law_all_live" "_law_all_live" (defArgs s__law_all_live) (defBody s__law_all_live) (defScope s__law_all_live) [] [] (He.ga K "_law_all_live") fd := c.says.def_ (d := d__law_all_live) 53 rfl
theorem Fc.f__law_named (c : Fc K mg) : ∃ fd, FunD K "_law_named" "_law_named" (defArgs s__law_named) (defBody s__law_named) (defScope s__law_named) [] [] (He.ga K "_law_named") fd := c.says.def_ (d := d__law_named) 54 rfl
theorem Fc.f__law_wordlist (c : Fc K mg) : ∃ fd, FunD K "_law_wordlist" "_law_wordlist" (defArgs s__law_wordlist) (defBody s__law_wordlist) (defScope s__law_wordlist) [] [] (He.ga K "_law_wordlist") fd := c.says.def_ (d := d__law_wordlist) 55 rfl
theorem Fc.f__law_right_naming (c : Fc K mg) : ∃ fd, FunD K "_law_right_naming" "_law_right_naming" (defArgs s__law_right_naming) (defBody s__law_right_naming) (defScope s__law_right_naming) [] [] (He.ga K "_law_right_naming") fd := c.says.def_ (d := d__law_right_naming) 56 rfl
theorem Fc.f__law_product (c : Fc K mg) : ∃ fd, FunD K "_law_product" "_law_product" (defArgs s__law_product) (defBody s__law_product) (defScope s__law_product) [] [] (He.ga K "_law_product") fd := c.says.def_ (d := d__law_product) 57 rfl
theorem Fc.f__law_places (c : Fc K mg) : ∃ fd, FunD K "_law_places" "_law_places" (defArgs s__law_places) (defBody s__law_places) (defScope s__law_places) [] [] (He.ga K "_law_places") fd := c.says.def_ (d := d__law_places) 58 rfl
theorem Fc.f__law_first (c : Fc K mg) : ∃ fd, FunD K "_law_first" "_law_first" (defArgs s__law_first) (defBody s__law_first) (defScope s__law_first) [] [] (He.ga K "_law_first") fd := c.says.def_ (d := d__law_first) 59 rfl
theorem Fc.f_law (c : Fc K mg) : ∃ fd, FunD K "law" "law" (defArgs s_law) (defBody s_law) (defScope s_law) [] [] (He.ga K "law") fd := c.says.def_ (d := d_law) 60 rfl
end
end Lv
/-! #### Tm -/
namespace Lv
open PySem L2 StX PyProof.Rows
/-! ### short words for terms -/
section
variable {X : Cx} {x : Str} {pos : Pos} {e : Expr} {es : List Expr} {te : TE} {ta : TA}
theorem gl_int {i : Int} (hm : ∃ t, X.mg x = some (.int i t)) (hg : Gl X x := by rfl) (hd : (x == ("__debug__" : Str)) = false := by decide) : PE X (.Name x pos) (tC (.int i)) := by
  obtain ⟨t, h⟩ := hm
  exact pe_glob hg h ⟨t, rfl⟩ hd
theorem gl_str {z : Str} (hm : ∃ t, X.mg x = some (.str z t)) (hg : Gl X x := by rfl) (hd : (x == ("__debug__" : Str)) = false := by decide) : PE X (.Name x pos) (tC (.str z)) := by
  obtain ⟨t, h⟩ := hm
  exact pe_glob hg h ⟨t, rfl⟩ hd
theorem gl_cls {a : Addr} (hm : X.mg x = some (.ref a)) (hg : Gl X x := by rfl) (hd : (x == ("__debug__" : Str)) = false := by decide) : PE X (.Name x pos) (tC (.ref a)) := pe_glob hg hm rfl hd
theorem bl_ty {n : String} (hv : bootBuiltins x = some (.type n)) (hm : X.mg x = none) (hg : Gl X x := by rfl) (hn : x ≠ "__name__" := by decide) (hd : (x == ("__debug__" : Str)) = false := by decide) : PE X (.Name x pos) (tC (.ty n)) := pe_bltn hg hm hv rfl hn hd
/-- a target's name -/
theorem tn (i : Nat) (hN : X.N.Nodup) (hi : X.N[i]? = some x := by rfl) (hx : Loc X.env.scope x := by first | exact Or.inl rfl | exact Or.inr rfl) (hf : X.fn x = true ∨ X.env.scope.names.lookup x = some .local := by first | exact .inl rfl | exact .inr rfl) : PG X (.Name x pos) (gName i) := pg_name hN hi hx hf
/-- a def of the text, as its callers know it -/
structure Cal (P : Program) (w : World) (K : PySem.W.Frag) (mg : Str → Option Value) (base : Heap) (k : Nat) (x : Str) (ps : List Str) (sp : Sp) : Prop where
  ex : ∃ f fd, FnOk P w K mg base CX0 k f fd ps sp ∧ mg x = some (.ref f) ∧ PySem.W.keepIn K (.ref f) = true ∧ Binds K fd ps []
theorem Cal.mono {P : Program} {w : World} {K : PySem.W.Frag} {mg : Str → Option Value} {base : Heap} {j k : Nat} {ps : List Str} {sp : Sp} (c : Cal P w K mg base j x ps sp) (h : j ≤ k) : Cal P w K mg base k x ps sp := by
  obtain ⟨f, fd, h1, h2⟩ := c.ex
  exact ⟨f, fd, h1.mono h, h2⟩
theorem pe_fn {k : Nat} {ps : List Str} {sp : Sp} {p : Pos} (c : Cal X.prog X.w X.K X.mg X.base k x ps sp) (hr : Room k X.A) (ha : PA X (e :: es) ta) (hg : Gl X x := by rfl) (hdb : (x == ("__debug__" : Str)) = false := by decide) (he : starEach (e :: es) X.env = (false, eval e X.env) :: starEach es X.env := by rfl) (hpl : (backTo pos (starEach es X.env)).any (·.1) = false := by rfl) :
    PE X (.Call (.Name x p) (e :: es) [] pos) (tCall sp [] E0 ta) := by
  obtain ⟨f, fd, h1, h2, h3, h4⟩ := c.ex
  exact pe_call h1 hr hg h2 h3 h4 .nil pass0 ha hdb he hpl
/-- a method of a class of the text -/
structure CalM (P : Program) (w : World) (K : PySem.W.Frag) (mg : Str → Option Value) (base : Heap) (k : Nat) (C : Addr) (m : Str) (ps : List Str) (sp : Sp) : Prop where
  ex : ∃ f fd, FnOk P w K mg base CX0 k f fd ps sp ∧ Meth K C m f ∧ Binds K fd ps []
theorem CalM.mono {P : Program} {w : World} {K : PySem.W.Frag} {mg : Str → Option Value} {base : Heap} {j k : Nat} {C : Addr} {m : Str} {ps : List Str} {sp : Sp} (c : CalM P w K mg base j C m ps sp) (h : j ≤ k) : CalM P w K mg base k C m ps sp := by
  obtain ⟨f, fd, h1, h2⟩ := c.ex
  exact ⟨f, fd, h1.mono h, h2⟩
/-- a class of the text that is made -/
structure CalC (P : Program) (w : World) (K : PySem.W.Frag) (mg : Str → Option Value) (base : Heap) (k : Nat) (x : Str) (C : Addr) (ps : List Str) (sp : Sp) : Prop where
  ex : ∃ f fd, FnOk P w K mg base CX0 k f fd ps sp ∧ Mk K C f ∧ mg x = some (.ref C) ∧ Binds K fd ps []
theorem CalC.mono {P : Program} {w : World} {K : PySem.W.Frag} {mg : Str → Option Value} {base : Heap} {j k : Nat} {C : Addr} {ps : List Str} {sp : Sp} (c : CalC P w K mg base j x C ps sp) (h : j ≤ k) : CalC P w K mg base k x C ps sp := by
  obtain ⟨f, fd, h1, h2⟩ := c.ex
  exact ⟨f, fd, h1.mono h, h2⟩
theorem pe_new {k : Nat} {C : Addr} {ps : List Str} {sp : Sp} {p : Pos} (c : CalC X.prog X.w X.K X.mg X.base k x C ps sp) (hr : Room (k + 1) X.A) (ha : PA X (e :: es) ta) (hg : Gl X x := by rfl) (hdb : (x == ("__debug__" : Str)) = false := by decide) (he : starEach (e :: es) X.env = (false, eval e X.env) :: starEach es X.env := by rfl) (hpl : (backTo pos (starEach es X.env)).any (·.1) = false := by rfl) :
    PE X (.Call (.Name x p) (e :: es) [] pos) (tMake C sp [] E0 ta) := by
  obtain ⟨f, fd, h1, h2, h3, h4⟩ := c.ex
  exact pe_make h2 h1 hr hg h3 h4 .nil pass0 ha hdb he hpl
end
theorem fn_mk {P : Program} {w : World} {K : PySem.W.Frag} {mg : Str → Option Value} {base : Heap} {k : Nat} {x qual : Str} {pa : Arguments} {bd : List Stmt} {sc : Scope} {f : Addr} {fd : FuncData} {ps : List Str} {sp : Sp}
    (F : FunD K x qual pa bd sc [] [] f fd) (hm : mg x = some (.ref f)) (ok : FnOk P w K mg base CX0 k f fd ps sp)
    (h : ∀ (kV doc pm : Value) (an : Option Addr) (cdv ct : Value) (us : List Value), us.length = ps.length → bindArgs (PySem.W.fnOf x qual pa bd sc .none kV doc pm an cdv ct) ⟨us, []⟩ = pure (ps.zip us)) : Cal P w K mg base k x ps sp :=
  ⟨f, fd, ok, hm, F.kp, F.bindsN h⟩
/-- tuples of anything known -/
def Mo.tp (φs : List Mo) : Mo := ⟨fun v G => ∃ a xs, v = .ref a ∧ G a = some (.tup xs) ∧ MoAll G xs φs, fun s ⟨a, xs, e, h, r⟩ => ⟨a, xs, e, s _ _ h, r.mono s⟩⟩
theorem ev_tupM {T : Tb} {ρ : Rho} {M : Mus} {K : Ks} {tr : TA} (h : EvA T tr ρ M fun φs M1 => φs.length ≤ sizeLine ∧ K (Mo.tp φs) M1) : Ev T (tTup tr) ρ M K := fun σ G H e s Q q =>
  h σ G H e s _ fun xs φs M1 G1 H1 ⟨hl, k⟩ p1 n1 => ⟨by rw [p1.length]; exact hl, fun p hp =>
    q _ _ M1 _ _ k ⟨p, xs, rfl, upd_same, p1.mono (same_upd (sub_none n1.st.sub hp))⟩ (n1.trans (Po.laid n1.st hp))⟩
theorem tgt_tp {K0 : PySem.W.Frag} {vs : List Nat} {n : Nat} {gs : TGs} {φs : List Mo} {ρ ρ' : Rho} (hl : φs.length = n) (h : Tgts vs gs φs ρ ρ') : Tgt vs (gTup K0 n gs) (Mo.tp φs) ρ ρ' := fun v σ G H hv e s Q q => by
  obtain ⟨a, xs, h1, h2, h3⟩ := hv
  exact ⟨a, xs, h1, SqT.of (s _ _ h2), by rw [h3.length]; exact hl, h xs σ G H h3 e s Q q⟩
theorem ov_neg {T : Tb} {M : Mus} {K : Ks} {i : Int} (k : K (Mo.d (.int (-i))) M) : UnV T (rU fun i => .int (-i)) (Mo.d (.int i)) M K := fun x G H p s Q q => ⟨i, rep_int p, q _ _ M G H k (Rep.int _) (Po.refl s)⟩
theorem go_par3 {Z : Zo} {D : Ends} {ρ : Rho} {M : Mus} {i j l : Nat} {ta : TA} (h : EvA Z.T ta ρ M fun φs M1 => ∃ φ ψ χ, φs = [φ, ψ, χ] ∧ Go Z D.nx (((ρ.set i (some φ)).set j (some ψ)).set l (some χ)) M1) : Go Z (tPar3 i j l ta D) ρ M := fun σ G H e z =>
  h σ G H e z.st _ fun vs φs M1 G1 H1 ⟨φ, ψ, χ, e1, k⟩ p1 n1 => by
    subst e1
    cases p1 with
    | cons a r =>
      cases r with
      | cons b r =>
        cases r with
        | cons c r =>
          cases r
          exact ⟨_, _, _, rfl, k _ G1 H1 ((((e.mono n1.g).set a).set b).set c) (z.to n1)⟩
theorem boot_sorted' : bootBuiltins "sorted" = some (.builtin "sorted") := by decide +kernel
end Lv
/-! #### Mir -/
/-! The mirror: terms, what is around, what is meant, as plain data. -/
namespace Lv
open PySem
inductive Tr where
  | use (n : Str)
  | join (l : Str) (ps : List Tr)
  | bind (n : Str) (ah : List Tr) (b : Tr)
mutual
def Tr.en : Tr → PyData
  | .use n => .tuple [.str "use", .str n]
  | .join l ps => .tuple [.str "join", .str l, .tuple (Tr.enL ps)]
  | .bind n ah b => .tuple [.str "bind", .str n, .tuple (Tr.enL ah), b.en]
def Tr.enL : List Tr → List PyData
  | [] => []
  | t :: ts => t.en :: Tr.enL ts
end
mutual
def Tr.size : Tr → Nat
  | .use _ => 1
  | .join _ ps => 1 + Tr.sizeL ps
  | .bind _ ah b => 1 + Tr.sizeL ah + b.size
def Tr.sizeL : List Tr → Nat
  | [] => 0
  | t :: ts => t.size + Tr.sizeL ts
end
mutual
def Tr.nb : Tr → Nat
  | .use _ => 0
  | .join _ ps => Tr.nbL ps
  | .bind _ ah b => 1 + Tr.nbL ah + b.nb
def Tr.nbL : List Tr → Nat
  | [] => 0
  | t :: ts => t.nb + Tr.nbL ts
end
mutual
def Tr.allN (q : Str → Prop) : Tr → Prop
  | .use n => q n
  | .join l ps => q l ∧ Tr.allNL q ps
  | .bind n ah b => q n ∧ Tr.allNL q ah ∧ b.allN q
def Tr.allNL (q : Str → Prop) : List Tr → Prop
  | [] => True
  | t :: ts => t.allN q ∧ Tr.allNL q ts
end
mutual
def Tr.useN (q : Str → Prop) : Tr → Prop
  | .use n => q n
  | .join _ ps => Tr.useNL q ps
  | .bind _ ah b => Tr.useNL q ah ∧ b.useN q
def Tr.useNL (q : Str → Prop) : List Tr → Prop
  | [] => True
  | t :: ts => t.useN q ∧ Tr.useNL q ts
end
theorem Tr.enL_map : ∀ ts : List Tr, Tr.enL ts = ts.map Tr.en
  | [] => rfl
  | t :: ts => by rw [Tr.enL, Tr.enL_map ts, List.map_cons]
theorem Tr.size_pos : ∀ t : Tr, 0 < t.size
  | .use _ => by rw [Tr.size]; omega
  | .join _ _ => by rw [Tr.size]; omega
  | .bind _ _ _ => by rw [Tr.size]; omega
theorem Tr.len_sizeL : ∀ ts : List Tr, ts.length ≤ Tr.sizeL ts
  | [] => Nat.le_refl _
  | t :: ts => by
    have h1 := Tr.len_sizeL ts
    have h2 := t.size_pos
    rw [Tr.sizeL, List.length_cons]
    omega
theorem Tr.mem_sizeL {t : Tr} : ∀ {ts : List Tr}, t ∈ ts → t.size ≤ Tr.sizeL ts
  | a :: ts, h => by
    rw [Tr.sizeL]
    rcases List.mem_cons.mp h with h | h
    · rw [h]; omega
    · have := Tr.mem_sizeL h
      omega
theorem Tr.mem_allNL {q : Str → Prop} {t : Tr} : ∀ {ts : List Tr}, t ∈ ts → Tr.allNL q ts → t.allN q
  | a :: ts, h, g => by
    rw [Tr.allNL] at g
    rcases List.mem_cons.mp h with h | h
    · rw [h]; exact g.1
    · exact Tr.mem_allNL h g.2
theorem Tr.sizeL_app : ∀ (a b : List Tr), Tr.sizeL (a ++ b) = Tr.sizeL a + Tr.sizeL b
  | [], b => by rw [List.nil_append, Tr.sizeL, Nat.zero_add]
  | t :: a, b => by rw [List.cons_append, Tr.sizeL, Tr.sizeL, Tr.sizeL_app a b, Nat.add_assoc]
theorem Tr.nbL_app : ∀ (a b : List Tr), Tr.nbL (a ++ b) = Tr.nbL a + Tr.nbL b
  | [], b => by rw [List.nil_append, Tr.nbL, Nat.zero_add]
  | t :: a, b => by rw [List.cons_append, Tr.nbL, Tr.nbL, Tr.nbL_app a b, Nat.add_assoc]
theorem Tr.allNL_app {q : Str → Prop} : ∀ {a b : List Tr}, Tr.allNL q a → Tr.allNL q b → Tr.allNL q (a ++ b)
  | [], b, _, h => h
  | t :: a, b, g, h => by
    rw [Tr.allNL] at g
    rw [List.cons_append, Tr.allNL]
    exact ⟨g.1, Tr.allNL_app g.2 h⟩
theorem Tr.useNL_app {q : Str → Prop} : ∀ {a b : List Tr}, Tr.useNL q a → Tr.useNL q b → Tr.useNL q (a ++ b)
  | [], b, _, h => h
  | t :: a, b, g, h => by
    rw [Tr.useNL] at g
    rw [List.cons_append, Tr.useNL]
    exact ⟨g.1, Tr.useNL_app g.2 h⟩
/-! ### the nodes as they are met, and the binders around -/
abbrev Nd := Tr × List Nat
mutual
def fl : Tr → List Nat → Nat → List Nd
  | .use n, ar, _ => [(.use n, ar)]
  | .join l ps, ar, k => (.join l ps, ar) :: flL ps ar k
  | .bind n ah b, ar, k => (.bind n ah b, ar) :: (flL ah ar (k + 1) ++ fl b (ar ++ [k]) (k + 1 + Tr.nbL ah))
def flL : List Tr → List Nat → Nat → List Nd
  | [], _, _ => []
  | t :: ts, ar, k => fl t ar k ++ flL ts ar (k + t.nb)
end
mutual
theorem fl_len : ∀ (t : Tr) (ar : List Nat) (k : Nat), (fl t ar k).length = t.size
  | .use n, ar, k => by rw [fl, Tr.size] <;> rfl
  | .join l ps, ar, k => by rw [fl, Tr.size, List.length_cons, flL_len ps, Nat.add_comm]
  | .bind n ah b, ar, k => by rw [fl, Tr.size, List.length_cons, List.length_append, flL_len ah, fl_len b]; omega
theorem flL_len : ∀ (ts : List Tr) (ar : List Nat) (k : Nat), (flL ts ar k).length = Tr.sizeL ts
  | [], ar, k => by rw [flL, Tr.sizeL] <;> rfl
  | t :: ts, ar, k => by rw [flL, Tr.sizeL, List.length_append, fl_len t, flL_len ts]
end
def Tr.isB : Tr → Bool
  | .bind _ _ _ => true
  | _ => false
def Tr.isU : Tr → Bool
  | .use _ => true
  | _ => false
def Tr.name : Tr → Str
  | .use n => n
  | .join l _ => l
  | .bind n _ _ => n
/-- the places of binders, of uses -/
def ixs (q : Tr → Bool) : List Nd → Nat → List Nat
  | [], _ => []
  | p :: r, i => if q p.1 = true then i :: ixs q r (i + 1) else ixs q r (i + 1)
theorem ixs_app (q : Tr → Bool) : ∀ (a b : List Nd) (i : Nat), ixs q (a ++ b) i = ixs q a i ++ ixs q b (i + a.length)
  | [], b, i => rfl
  | p :: a, b, i => by
    rw [List.cons_append, ixs, ixs, ixs_app q a b (i + 1), List.length_cons, show i + 1 + a.length = i + (a.length + 1) by omega]
    split <;> rfl
theorem ixs_map (q : Tr → Bool) {β : Type} (g : Nd → β) (d : Nd) : ∀ (l pre : List Nd), (ixs q l pre.length).map (fun i => g ((pre ++ l).getD i d)) = (l.filter fun p => q p.1).map g
  | [], pre => rfl
  | p :: r, pre => by
    have ih := ixs_map q g d r (pre ++ [p])
    rw [List.length_append, List.length_singleton, List.append_assoc, List.singleton_append] at ih
    rw [ixs, List.filter_cons]
    have e : (pre ++ p :: r).getD pre.length d = p := by simp
    split
    · rw [List.map_cons, List.map_cons, e, ih]
    · exact ih
theorem ixs_lt (q : Tr → Bool) : ∀ (l : List Nd) (i : Nat), ∀ j ∈ ixs q l i, i ≤ j ∧ j < i + l.length
  | [], i, j, h => by cases h
  | p :: r, i, j, h => by
    rw [ixs] at h
    rw [List.length_cons]
    split at h
    · rcases List.mem_cons.mp h with h | h
      · omega
      · have := ixs_lt q r (i + 1) j h
        omega
    · have := ixs_lt q r (i + 1) j h
      omega
theorem ixs_len (q : Tr → Bool) : ∀ (l : List Nd) (i : Nat), (ixs q l i).length = (l.filter fun p => q p.1).length
  | [], i => rfl
  | p :: r, i => by
    rw [ixs, List.filter_cons]
    split
    · rw [List.length_cons, List.length_cons, ixs_len q r]
    · exact ixs_len q r _
def bnd (l : List Nd) : List (Str × List Nat) := (l.filter fun p => p.1.isB).map fun p => (p.1.name, p.2)
def uss (l : List Nd) : List (Str × List Nat) := (l.filter fun p => p.1.isU).map fun p => (p.1.name, p.2)
theorem bnd_app (a b : List Nd) : bnd (a ++ b) = bnd a ++ bnd b := by unfold bnd; rw [List.filter_append, List.map_append]
theorem uss_app (a b : List Nd) : uss (a ++ b) = uss a ++ uss b := by unfold uss; rw [List.filter_append, List.map_append]
mutual
theorem bnd_len : ∀ (t : Tr) (ar : List Nat) (k : Nat), (bnd (fl t ar k)).length = t.nb
  | .use n, ar, k => by rw [fl, Tr.nb] <;> rfl
  | .join l ps, ar, k => by
    rw [fl, Tr.nb, ← bndL_len ps ar k] <;> rfl
  | .bind n ah b, ar, k => by
    rw [fl, Tr.nb]
    show (bnd (flL ah ar (k + 1) ++ fl b (ar ++ [k]) (k + 1 + Tr.nbL ah))).length + 1 = _
    rw [bnd_app, List.length_append, bndL_len ah, bnd_len b]
    omega
theorem bndL_len : ∀ (ts : List Tr) (ar : List Nat) (k : Nat), (bnd (flL ts ar k)).length = Tr.nbL ts
  | [], ar, k => by rw [flL, Tr.nbL] <;> rfl
  | t :: ts, ar, k => by rw [flL, Tr.nbL, bnd_app, List.length_append, bnd_len t, bndL_len ts]
end
/-- what holds of the binders around something: A m is what is around binder m -/
structure Chn (A : Nat → List Nat) (k : Nat) (ar : List Nat) : Prop where
  up : ar.Pairwise (· < ·)
  lt : ∀ m ∈ ar, m < k
  inn : ∀ m ∈ ar, ∀ x, x ∈ A m ↔ x ∈ ar ∧ x < m
theorem Chn.mono {A : Nat → List Nat} {k k' : Nat} {ar : List Nat} (c : Chn A k ar) (h : k ≤ k') : Chn A k' ar := ⟨c.up, fun m hm => Nat.lt_of_lt_of_le (c.lt m hm) h, c.inn⟩
theorem Chn.snoc {A : Nat → List Nat} {k : Nat} {ar : List Nat} (c : Chn A k ar) (h : A k = ar) : Chn A (k + 1) (ar ++ [k]) := by
  refine ⟨?_, fun m hm => ?_, fun m hm x => ?_⟩
  · rw [List.pairwise_append]
    refine ⟨c.up, List.pairwise_singleton _ _, fun a ha b hb => ?_⟩
    rw [List.mem_singleton.mp hb]
    exact c.lt a ha
  · rcases List.mem_append.mp hm with h1 | h1
    · have := c.lt m h1; omega
    · rw [List.mem_singleton.mp h1]; omega
  · rcases List.mem_append.mp hm with h1 | h1
    · rw [c.inn m h1, List.mem_append, List.mem_singleton]
      have := c.lt m h1
      constructor
      · exact fun ⟨a, b⟩ => ⟨.inl a, b⟩
      · rintro ⟨a | a, b⟩
        · exact ⟨a, b⟩
        · omega
    · have e := List.mem_singleton.mp h1
      subst e
      rw [h, List.mem_append, List.mem_singleton]
      constructor
      · exact fun a => ⟨.inl a, c.lt x a⟩
      · rintro ⟨a | a, b⟩
        · exact a
        · omega
mutual
theorem fl_chn {A : Nat → List Nat} : ∀ (t : Tr) (ar : List Nat) (k : Nat), Chn A k ar → (∀ (i : Nat) (p : Str × List Nat), (bnd (fl t ar k))[i]? = some p → A (k + i) = p.2) →
    (∀ p ∈ uss (fl t ar k), Chn A (k + t.nb) p.2) ∧ ∀ (i : Nat) (p : Str × List Nat), (bnd (fl t ar k))[i]? = some p → Chn A (k + i) p.2
  | .use n, ar, k, c, h => by
    rw [fl, Tr.nb]
    refine ⟨fun p hp => ?_, fun i p hp => (by cases hp)⟩
    have e : p = (n, ar) := List.mem_singleton.mp hp
    rw [e]
    exact c
  | .join l ps, ar, k, c, h => by
    rw [fl] at h ⊢
    rw [Tr.nb]
    exact flL_chn ps ar k c h
  | .bind n ah b, ar, k, c, h => by
    rw [fl] at h ⊢
    have hb : bnd ((.bind n ah b, ar) :: (flL ah ar (k + 1) ++ fl b (ar ++ [k]) (k + 1 + Tr.nbL ah))) = (n, ar) :: (bnd (flL ah ar (k + 1)) ++ bnd (fl b (ar ++ [k]) (k + 1 + Tr.nbL ah))) := by
      show (n, ar) :: bnd _ = _
      rw [bnd_app]
    have hu : uss ((.bind n ah b, ar) :: (flL ah ar (k + 1) ++ fl b (ar ++ [k]) (k + 1 + Tr.nbL ah))) = uss (flL ah ar (k + 1)) ++ uss (fl b (ar ++ [k]) (k + 1 + Tr.nbL ah)) := by
      show uss (flL ah ar (k + 1) ++ fl b (ar ++ [k]) (k + 1 + Tr.nbL ah)) = _
      rw [uss_app]
    rw [hb] at h ⊢
    rw [hu, Tr.nb]
    have hk : A k = ar := h 0 (n, ar) rfl
    have hl := bndL_len ah ar (k + 1)
    obtain ⟨a1, a2⟩ := flL_chn ah ar (k + 1) (c.mono (by omega)) fun i p hp => by
      have hi := (List.getElem?_eq_some_iff.mp hp).1
      have := h (i + 1) p (by rw [List.getElem?_cons_succ, List.getElem?_append_left hi]; exact hp)
      rw [show k + 1 + i = k + (i + 1) by omega]
      exact this
    obtain ⟨b1, b2⟩ := fl_chn b (ar ++ [k]) (k + 1 + Tr.nbL ah) ((c.snoc hk).mono (by omega)) fun i p hp => by
      have := h (Tr.nbL ah + i + 1) p (by rw [List.getElem?_cons_succ, List.getElem?_append_right (by omega), hl, show Tr.nbL ah + i - Tr.nbL ah = i by omega]; exact hp)
      rw [show k + 1 + Tr.nbL ah + i = k + (Tr.nbL ah + i + 1) by omega]
      exact this
    refine ⟨fun p hp => ?_, fun i p hp => ?_⟩
    · rcases List.mem_append.mp hp with hp | hp
      · exact (a1 p hp).mono (by omega)
      · exact (b1 p hp).mono (by omega)
    · cases i with
      | zero => cases hp; exact c
      | succ i =>
        rw [List.getElem?_cons_succ] at hp
        by_cases hi : i < (bnd (flL ah ar (k + 1))).length
        · rw [List.getElem?_append_left hi] at hp
          exact (a2 i p hp).mono (by omega)
        · rw [List.getElem?_append_right (by omega), hl] at hp
          exact (b2 (i - Tr.nbL ah) p hp).mono (by omega)
theorem flL_chn {A : Nat → List Nat} : ∀ (ts : List Tr) (ar : List Nat) (k : Nat), Chn A k ar → (∀ (i : Nat) (p : Str × List Nat), (bnd (flL ts ar k))[i]? = some p → A (k + i) = p.2) →
    (∀ p ∈ uss (flL ts ar k), Chn A (k + Tr.nbL ts) p.2) ∧ ∀ (i : Nat) (p : Str × List Nat), (bnd (flL ts ar k))[i]? = some p → Chn A (k + i) p.2
  | [], ar, k, c, h => by
    rw [flL]
    exact ⟨fun p hp => (by cases hp), fun i p hp => (by cases hp)⟩
  | t :: ts, ar, k, c, h => by
    rw [flL] at h ⊢
    rw [bnd_app] at h ⊢
    rw [uss_app, Tr.nbL]
    have hl := bnd_len t ar k
    obtain ⟨a1, a2⟩ := fl_chn t ar k c fun i p hp => by
      have hi := (List.getElem?_eq_some_iff.mp hp).1
      exact h i p (by rw [List.getElem?_append_left hi]; exact hp)
    obtain ⟨b1, b2⟩ := flL_chn ts ar (k + t.nb) (c.mono (by omega)) fun i p hp => by
      have := h (t.nb + i) p (by rw [List.getElem?_append_right (by omega), hl, show t.nb + i - t.nb = i by omega]; exact hp)
      rw [show k + t.nb + i = k + (t.nb + i) by omega]
      exact this
    refine ⟨fun p hp => ?_, fun i p hp => ?_⟩
    · rcases List.mem_append.mp hp with hp | hp
      · exact (a1 p hp).mono (by omega)
      · exact (b1 p hp).mono (by omega)
    · by_cases hi : i < (bnd (fl t ar k)).length
      · rw [List.getElem?_append_left hi] at hp
        exact a2 i p hp
      · rw [List.getElem?_append_right (by omega), hl] at hp
        exact (b2 (i - t.nb) p hp).mono (by omega)
end
/-! ### the page of a term -/
/-- binders' names, what is around each; for each use its name and what is around it -/
structure Pg where
  names : List Str
  ars : List (List Nat)
  uses : List (Str × List Nat)
def Tr.fl0 (t : Tr) : List Nd := fl t [] 0
def Tr.pg (t : Tr) : Pg := ⟨(bnd t.fl0).map (·.1), (bnd t.fl0).map (·.2), uss t.fl0⟩
def Pg.nb (p : Pg) : Nat := p.names.length
structure Pg.Ok (p : Pg) : Prop where
  len : p.ars.length = p.names.length
  use : ∀ u ∈ p.uses, Chn (fun m => p.ars.getD m []) p.names.length u.2
  bin : ∀ b, b < p.names.length → Chn (fun m => p.ars.getD m []) b (p.ars.getD b [])
theorem Tr.pg_ok (t : Tr) : t.pg.Ok := by
  have hA : ∀ (i : Nat) (q : Str × List Nat), (bnd (fl t [] 0))[i]? = some q → (fun m => t.pg.ars.getD m []) (0 + i) = q.2 := fun i q h => by
    show ((bnd t.fl0).map (·.2)).getD (0 + i) [] = q.2
    rw [Nat.zero_add, List.getD_eq_getElem?_getD, List.getElem?_map]
    show (Option.map (·.2) ((bnd (fl t [] 0))[i]?)).getD [] = q.2
    rw [h] <;> rfl
  obtain ⟨h1, h2⟩ := fl_chn (A := fun m => t.pg.ars.getD m []) t [] 0 ⟨List.Pairwise.nil, fun _ h => (by cases h), fun _ h => (by cases h)⟩ hA
  have hl : t.pg.names.length = t.nb := by
    show ((bnd (fl t [] 0)).map (·.1)).length = _
    rw [List.length_map, bnd_len]
  refine ⟨by show ((bnd t.fl0).map (·.2)).length = ((bnd t.fl0).map (·.1)).length; rw [List.length_map, List.length_map], fun u hu => ?_, fun b hb => ?_⟩
  · have := h1 u hu
    rw [Nat.zero_add] at this
    rw [hl]
    exact this
  · have hb' : b < (bnd (fl t [] 0)).length := by rw [bnd_len, ← hl]; exact hb
    have := h2 b _ (List.getElem?_eq_getElem hb')
    have e := hA b _ (List.getElem?_eq_getElem hb')
    rw [Nat.zero_add] at this e
    show Chn _ b (t.pg.ars.getD b [])
    rw [show t.pg.ars.getD b [] = ((bnd (fl t [] 0))[b]).2 from e]
    exact this
theorem Tr.pg_nb (t : Tr) : t.pg.names.length = t.nb := by
  show ((bnd (fl t [] 0)).map (·.1)).length = _
  rw [List.length_map, bnd_len]
theorem Tr.pg_uses (t : Tr) : t.pg.uses.length ≤ t.size := by
  show (uss (fl t [] 0)).length ≤ _
  unfold uss
  rw [List.length_map, ← fl_len t [] 0]
  exact List.length_filter_le _ _
/-! ### what is meant -/
inductive Lv1 where
  | b (i : Nat)
  | f (s : Str)
  deriving DecidableEq
def Lv1.en : Lv1 → PyData
  | .b i => .int (i : Int)
  | .f s => .str s
def nameFor (ns : List Str) : Lv1 → Str
  | .b i => ns.getD i ""
  | .f s => s
def Lv1.ok (n : Nat) : Lv1 → Prop
  | .b i => i < n
  | .f _ => True
def Pg.meant (p : Pg) (u : Str × List Nat) : Lv1 := match (u.2.filter fun b => decide (p.names.getD b "" = u.1)).getLast? with
  | some b => .b b
  | none => .f u.1
def Pg.meaning (p : Pg) : List Lv1 := p.uses.map p.meant
/-- those of the binders around that are within what is meant -/
def innerOf (ar : List Nat) : Lv1 → List Nat
  | .b m => ar.filter fun x => decide (m < x)
  | .f _ => ar
end Lv
/-! #### Ty -/
namespace Lv
open PySem L2 StX PyProof.Rows
theorem iteP {b : Bool} {A B : Prop} (h : b = true) (a : A) : if b = true then A else B := by rw [if_pos h]; exact a
theorem iteN {b : Bool} {A B : Prop} (h : b = false) (a : B) : if b = true then A else B := by rw [if_neg (by rw [h]; exact Bool.false_ne_true)]; exact a
theorem map_en_get {α : Type} {en : α → PyData} {xs : List α} {k : Nat} {φ : Mo} (h : ((xs.map en).map Mo.d)[k]? = some φ) : ∃ x, xs[k]? = some x ∧ φ = Mo.d (en x) := by
  rw [List.getElem?_map, List.getElem?_map] at h
  cases e : xs[k]? with
  | none => rw [e] at h; cases h
  | some x => rw [e] at h; cases h; exact ⟨x, rfl, rfl⟩
/-- a comprehension over typed items -/
theorem ev_lcA {α : Type} {T : Tb} {ρ : Rho} {M : Mus} {K : Ks} {wi : TI} {g : TG} {tt : TT} {te : TE} {vs : List Nat} (en : α → PyData) (bq : α → Bool) (f : α → PyData)
    (h : EvI T wi ρ M fun φs M1 => ∃ xs : List α, φs = (xs.map en).map Mo.d ∧ xs.length ≤ sizeLine ∧ (∀ x, x ∈ xs → ∃ ρ2, Tgt vs g (Mo.d (en x)) (wipeR ρ vs) ρ2 ∧
      EvT T tt ρ2 M1 fun b M3 => b = bq x ∧ M3 = M1 ∧ (bq x = true → Ev T te ρ2 M1 fun ψ M4 => ψ = Mo.d (f x) ∧ M4 = M1)) ∧ K (Mo.d (.list ((xs.filter bq).map f))) M1) : Ev T (tLc wi g tt te vs) ρ M K := by
  refine Ev.conv (ev_lc fun σ G H e s R q => h σ G H e s R fun J φs M1 G1 H1 k n wk => ?_)
  obtain ⟨xs, rfl, hz, step, fin⟩ := k
  refine q J _ M1 G1 H1 ⟨fun i acc M2 => i ≤ xs.length ∧ acc = (((xs.take i).filter bq).map f).map Mo.d ∧ M2 = M1, ⟨Nat.zero_le _, by simp, rfl⟩, ?_, ?_⟩ n wk
  · rintro k φ acc M2 hk ⟨hi, rfl, rfl⟩
    obtain ⟨d, hd, rfl⟩ := map_en_get hk
    have hlt := (List.getElem?_eq_some_iff.mp hd).1
    obtain ⟨ρ2, tg, body⟩ := step d (List.mem_of_getElem? hd)
    refine ⟨ρ2, tg, fun σ G H e s Q q => body σ G H e s Q fun b M3 G3 H3 ⟨hb, hM, hE⟩ n3 => q b M3 G3 H3 ?_ n3⟩
    subst hM hb
    have et : xs.take (k + 1) = xs.take k ++ [d] := by rw [List.take_add_one, hd] <;> rfl
    cases hb : bq d with
    | true =>
      refine iteT ?_
      refine (hE hb).imp fun ψ M4 ⟨e1, e2⟩ => ⟨?_, hlt, ?_, e2⟩
      · have h1 := List.length_filter_le bq (xs.take k)
        rw [List.length_map, List.length_map]
        rw [List.length_take] at h1
        omega
      · rw [e1, et, List.filter_append, List.filter_cons, if_pos hb, List.filter_nil, List.map_append, List.map_append] <;> rfl
    | false =>
      refine iteF ⟨hlt, ?_, rfl⟩
      rw [et, List.filter_append, List.filter_cons, if_neg (by rw [hb]; exact Bool.false_ne_true), List.filter_nil, List.append_nil]
  · rintro acc M2 ⟨_, e1, rfl⟩
    rw [List.length_map, List.length_map, List.take_length] at e1
    subst e1
    exact ⟨_, fun v G h => ls_d h, fin⟩
/-- .. without a test -/
theorem ev_lcB {α : Type} {T : Tb} {ρ : Rho} {M : Mus} {K : Ks} {wi : TI} {g : TG} {te : TE} {vs : List Nat} (en : α → PyData) (f : α → PyData)
    (h : EvI T wi ρ M fun φs M1 => ∃ xs : List α, φs = (xs.map en).map Mo.d ∧ xs.length ≤ sizeLine ∧ (∀ x, x ∈ xs → ∃ ρ2, Tgt vs g (Mo.d (en x)) (wipeR ρ vs) ρ2 ∧
      Ev T te ρ2 M1 fun ψ M4 => ψ = Mo.d (f x) ∧ M4 = M1) ∧ K (Mo.d (.list (xs.map f))) M1) : Ev T (tLc wi g tYes te vs) ρ M K := by
  refine ev_lcA en (fun _ => true) f fun σ G H e s R q => h σ G H e s R fun J φs M1 G1 H1 k n wk => ?_
  obtain ⟨xs, rfl, hz, step, fin⟩ := k
  refine q J _ M1 G1 H1 ⟨xs, rfl, hz, fun d hd => ?_, ?_⟩ n wk
  · obtain ⟨ρ2, tg, body⟩ := step d hd
    exact ⟨ρ2, tg, et_yes ⟨rfl, rfl, fun _ => body⟩⟩
  · rw [List.filter_eq_self.mpr fun _ _ => rfl]
    exact fin
/-- a loop over typed items; Iv: what holds ahead of the k-th turn -/
theorem loopA {α : Type} {Z : Zo} {vs : List Nat} {g : TG} {tb : TS} {D : Ends} {ρ : Rho} {M : Mus} (en : α → PyData) (xs : List α) (Iv : Nat → Rho → Mus → Prop) (h0 : Iv 0 ρ M)
    (step : ∀ (k : Nat) (x : α) (ρ1 : Rho) (M1 : Mus), xs[k]? = some x → Iv k ρ1 M1 → ∃ ρ2, Tgt vs g (Mo.d (en x)) ρ1 ρ2 ∧ ∀ (A : Hp) (N : Sl → Hp → Prop), Same Z.A A → (∀ ρ3 M3, Iv (k + 1) ρ3 M3 → Go (Z.at A) N ρ3 M3) →
      Go (Z.at A) (tb { D with nx := N, ct := N, bk := D.nx }) ρ2 M1) (fin : ∀ ρ1 M1, Iv xs.length ρ1 M1 → Go Z D.nx ρ1 M1) : LoopD Z vs g tb D ((xs.map en).map Mo.d) ρ M :=
  ⟨Iv, h0, fun k φ ρ1 M1 hk hI => by
    obtain ⟨x, hx, rfl⟩ := map_en_get hk
    exact step k x ρ1 M1 hx hI, fun ρ1 M1 hI => fin ρ1 M1 (by rw [List.length_map, List.length_map] at hI; exact hI)⟩
theorem take_succ' {α : Type} {xs : List α} {k : Nat} {x : α} (h : xs[k]? = some x) : xs.take (k + 1) = xs.take k ++ [x] := by rw [List.take_add_one, h] <;> rfl
theorem sz_small {n : Nat} (h : n ≤ 1000000) : n ≤ sizeLine := Nat.le_trans h (by decide)
theorem sz_lt {n : Nat} (h : n < 1000000) : n < sizeLine := Nat.lt_of_lt_of_le h (by decide)
theorem fn_vac {P : Program} {w : World} {K0 : PySem.W.Frag} {mg : Str → Option Value} {base : Heap} {k : Nat} {f : Addr} {fd : FuncData} {ps : List Str} {T : Tb} {A : Type} {args : A → List Mo} {mu : A → Mus} {pre : A → Prop} {res : A → Mo → Mus → Prop} (no : ∀ a, ¬ pre a) :
    FnOk P w K0 mg base CX0 k f fd ps (SpG T A args mu pre res) :=
  ⟨fun vs H Q E h => (let ⟨a, _, hp, _⟩ := h; absurd hp (no a)), fun A outer s H args us vs Q E _ _ _ _ h => (let ⟨a, _, hp, _⟩ := h; absurd hp (no a))⟩
/-! the same rules, the frame named (within a comprehension) -/
theorem ix_seqB {X : Cx} {K0 : PySem.W.Frag} (hK : X.K = K0 := by rfl) : IxR X (rIx K0) := by
  subst hK
  exact ix_seq
theorem c_lenB {X : Cx} {K0 : PySem.W.Frag} (hK : X.K = K0 := by rfl) : CallR X (.builtin "len") (rLen K0) := by
  subst hK
  exact c_len
theorem call_isiB {X : Cx} {K0 : PySem.W.Frag} (hK : X.K = K0 := by rfl) : CallR X (.builtin "isinstance") (rIsi K0) := by
  subst hK
  exact call_isi
theorem call_isiTB {X : Cx} {K0 : PySem.W.Frag} (hK : X.K = K0 := by rfl) : CallR X (.builtin "isinstance") (rIsiT K0) := by
  subst hK
  exact call_isiT
theorem op_in_seqB {X : Cx} {K0 : PySem.W.Frag} (hK : X.K = K0 := by rfl) : OpR X (compareOp .In) (rIn K0 false) := by
  subst hK
  exact op_in_seq
theorem op_notIn_seqB {X : Cx} {K0 : PySem.W.Frag} (hK : X.K = K0 := by rfl) : OpR X (compareOp .NotIn) (rIn K0 true) := by
  subst hK
  exact op_notIn_seq
theorem op_eqDB {X : Cx} {K0 : PySem.W.Frag} (hu : X.A.units + 64 < PySem.cLine) (hK : X.K = K0 := by rfl) : OpR X (compareOp .Eq) (rEqD K0) := by
  subst hK
  exact op_eqD hu
theorem op_neDB {X : Cx} {K0 : PySem.W.Frag} (hu : X.A.units + 64 < PySem.cLine) (hK : X.K = K0 := by rfl) : OpR X (compareOp .NotEq) (rNeD K0) := by
  subst hK
  exact op_neD hu
theorem pi_listB {X : Cx} {K0 : PySem.W.Frag} {tg l : Expr} {tl : TE} (h : PE X l tl) (hK : X.K = K0 := by rfl) : PI X tg l (iList K0 tl) := by
  subst hK
  exact pi_list h
theorem pi_tupB {X : Cx} {K0 : PySem.W.Frag} {tg l : Expr} {tl : TE} (h : PE X l tl) (hK : X.K = K0 := by rfl) : PI X tg l (iTup K0 tl) := by
  subst hK
  exact pi_tup h
theorem sl_listB {X : Cx} {K0 : PySem.W.Frag} (hK : X.K = K0 := by rfl) : SlR X (rSlL K0) := by
  subst hK
  exact sl_list
theorem sl_tupB {X : Cx} {K0 : PySem.W.Frag} (hK : X.K = K0 := by rfl) : SlR X (rSlT K0) := by
  subst hK
  exact sl_tup
theorem c_listB {X : Cx} {K0 : PySem.W.Frag} (hK : X.K = K0 := by rfl) : CallR X (.type "list") (rListC K0) := by
  subst hK
  exact c_list
theorem c_tupleB {X : Cx} {K0 : PySem.W.Frag} (hK : X.K = K0 := by rfl) : CallR X (.type "tuple") (rTupC K0) := by
  subst hK
  exact c_tuple
theorem pa_starB {X : Cx} {K0 : PySem.W.Frag} {e : Expr} {es : List Expr} {te : TE} {t : TA} {p : Pos} (h : PE X e te) (h2 : PA X es t) (h3 : starEach (e.Starred p :: es) X.env = (true, eval e X.env) :: starEach es X.env := by rfl) (hK : X.K = K0 := by rfl) : PA X (e.Starred p :: es) (tStar K0 te t) := by
  subst hK
  exact pa_star h h2 h3
theorem pg_tupB {X : Cx} {K0 : PySem.W.Frag} {pos : Pos} {es : List Expr} {k : Nat} {t : TGs} {n : Nat} (hc : X.calm = true) (h : PGs X es t) (h1 : (assignEach es X.env).length = n := by rfl) (h2 : List.findIdx? (fun x => x.fst) (assignEach es X.env) = none := by rfl) (hK : X.K = K0 := by rfl) : PG X (Expr.Tuple es k pos) (gTup K0 n t) := by
  subst hK
  exact pg_tup hc h h1 h2
theorem pg_unlB {X : Cx} {K0 : PySem.W.Frag} {pos : Pos} {es : List Expr} {k : Nat} {t : TGs} {n : Nat} (hc : X.calm = true) (h : PGs X es t) (h1 : (assignEach es X.env).length = n := by rfl) (h2 : List.findIdx? (fun x => x.fst) (assignEach es X.env) = none := by rfl) (hK : X.K = K0 := by rfl) : PG X (Expr.Tuple es k pos) (gUnl K0 n t) := by
  subst hK
  exact pg_unl hc h h1 h2
theorem pe_fldB {X : Cx} {e : Expr} {ta : TE} {f : Str} {pos : Pos} {K0 : PySem.W.Frag} (he : PE X e ta) (hb : attributeBase e f X.env (eval e X.env) = eval e X.env) (hK : X.K = K0 := by rfl) : PE X (.Attribute e f pos) (tFld K0 ta f) := by
  subst hK
  exact pe_fld he hb
end Lv
/-! #### R1 -/
namespace Lv
open PySem L2 StX PyProof.Rows
def kS (x : Str) : PyData := .tuple [.int (x.length : Int), .str x]
/-! ## sorted with key=lambda x: (len(x), x) -/
section
variable {prog : Program} {w : World} {A : Around} {s : Shared}
abbrev keyScope (n : Str) : Scope := { kind := .function, names := [(n, .local), ("len", .globalImplicit)], isGenerator := false, isCoroutine := false }
theorem key_body {env : Env} {n : Str} {x : Str} {t : Tok} {p1 p2 p3 p4 p5 : Pos} {k : Nat} {m mg mb : Str → Option Value} {Q : Value → Shared → Prop} {E : Value → Shared → Prop}
    (hk : env.scope.kind = .function) (hkn : env.kindOf n = some .local) (hkl : env.kindOf "len" = some .globalImplicit) (hns : s.heap.Ns env.locals m) (hmn : m n = some (.str x t))
    (hg : s.heap.Ns env.globals mg) (hm : mg "len" = none) (hb : s.heap.Ns env.builtins mb) (hl : mb "len" = some (.builtin "len")) (hx : x.length ≤ 1000) (hd : (n == ("__debug__" : Str)) = false)
    (h : ∀ (t1 tk : Nat), Q (.ref s.heap.objs.size) { s with heap := s.heap.push { cls := .type "tuple", data := .seq [Value.int (x.length : Int) t1, Value.str x t].toArray }, toks := tk }) :
    wpAny (model prog w) A (eval (.Tuple [.Call (.Name "len" p1) [.Name n p2] [] p3, .Name n p4] k p5) env) Q E s := by
  have nm : ∀ (s2 : Shared) (Q : Value → Shared → Prop) (p : Pos), s2.heap = s.heap → Q (.str x t) s2 → wpAny (model prog w) A (eval (.Name n p) env) Q E s2 := by
    intro s2 Q p e h
    exact wpAny_Name (wpAny_loadName_local hk hkn (by rw [e]; exact hns) hmn h) hd
  refine wpAny_Tuple_spliced (args_cons ?_ rfl)
  refine wpAny_Call_Name_kw (Calls.Name_function_global hk hkl (Calls.loadGlobal_builtin hg hm hb hl ?_) (by decide +kernel))
  refine PyProof.Rows.callWith_builtin1 (args_cons (nm s _ p2 rfl (args_nil ?_)) rfl) rfl rfl
  refine len_str (by omega) ?_
  refine args_cons (nm _ _ p4 rfl (args_nil ⟨sz_small (by show 2 ≤ 1000000; omega), ?_⟩)) rfl
  exact h _ _
theorem lam_key {f c' : Addr} {q n : Str} {params : Arguments} {pm ctv : Value} {x : Str} {t : Tok} {p1 p2 p3 p4 p5 : Pos} {k : Nat} {mg mb : Str → Option Value}
    (ho : s.heap.get? f = some (PySem.W.kla_obj "<lambda>" q params (.Tuple [.Call (.Name "len" p1) [.Name n p2] [] p3, .Name n p4] k p5) (keyScope n) [] pm c' ctv)) (hcd : s.heap.CodeRec (.ref c') q) (hroom : A.depth < recursionLimit)
    (hbind : ∀ v : Value, bindArgs (PySem.W.kla_fn "<lambda>" q params (.Tuple [.Call (.Name "len" p1) [.Name n p2] [] p3, .Name n p4] k p5) (keyScope n) [] pm (.ref c') ctv) ⟨[v], []⟩ = pure [(n, v)])
    (nl : s.heap.NoLimit) (hg : s.heap.Ns mainGlobals mg) (hm : mg "len" = none) (hb : s.heap.Ns builtinsNs mb) (hl : mb "len" = some (.builtin "len")) (hx : x.length ≤ 1000) (hn : n ≠ "len") (hd : (n == ("__debug__" : Str)) = false) :
    wpAny (model prog w) A (call (.ref f) [.str x t]) (PySem.W.KeyPure (kS x) s) (fun _ _ => False) s := by
  refine wpAny_call ?_
  refine PySem.W.kla_callFunE hroom ho rfl rfl rfl rfl hcd ?_
  rw [hbind]
  refine wpAny_pure (wpAny_newFunctionEnv (fun y hy => ?_) (fun y hy => ?_) (fun h₁ hns hsb => ⟨nl.fresh _ hsb, ?_⟩) rfl)
  · rcases List.mem_cons.mp hy with h | h
    · rw [h]; exact fun z => by cases z
    · rw [List.mem_singleton.mp h]; exact fun z => by cases z
  · rw [List.mem_singleton.mp hy]
    show List.lookup n [(n, NameKind.local), _] = _
    rw [List.lookup_cons, beq_self_eq_true]
  have kp : ∀ b o, s.heap.get? b = some o → h₁.get? b = some o := fun b o e => hsb.extBut b o (Nat.ne_of_lt (Heap.lt_size e)) (Heap.get?_push_of_some _ e)
  refine PySem.W.kla_codeExpr ?_
  have hkn : ∀ env : Env, env.scope = keyScope n → env.kindOf n = some .local ∧ env.kindOf "len" = some .globalImplicit := fun env e => by
    unfold Env.kindOf
    rw [e]
    refine ⟨?_, ?_⟩
    · show List.lookup n [(n, NameKind.local), _] = _
      rw [List.lookup_cons, beq_self_eq_true]
    · show List.lookup ("len" : Str) [(n, NameKind.local), (("len" : Str), NameKind.globalImplicit)] = _
      have hb : (("len" : Str) == n) = false := by rw [beq_eq_false_iff_ne]; exact fun z => hn z.symm
      rw [List.lookup_cons, hb, List.lookup_cons, beq_self_eq_true]
  refine key_body (t := t) (m := fun y => List.lookup y [(n, Value.str x t)].reverse) (mg := mg) (mb := mb) rfl (hkn _ rfl).1 (hkn _ rfl).2 hns ?_ (hg.keeps kp) hm (hb.keeps kp) hl hx hd fun t1 tk => ?_
  · show List.lookup n [(n, Value.str x t)] = _
    rw [List.lookup_cons, beq_self_eq_true]
  · refine ⟨_, tk, rfl, fun b o e => Heap.get?_push_of_some _ (kp b o e), ?_⟩
    exact .tuple (Heap.get?_push_size _ rfl) rfl rfl (as := [] ++ ([] ++ [])) (.cons (.int _ _) (.cons (.str _ _) .nil))
end
def tSortKey (T : Tb) (K0 : PySem.W.Frag) (te : TE) : TE := fun σ H Q => te σ H fun x H1 => ∃ (a : Addr) (ss : List Str), x = .ref a ∧ SqL K0 H1 a (ss.map V.str) ∧ LamX.Tabs T H1 ∧ ss.length ≤ 1000 ∧ (∀ y ∈ ss, y.length ≤ 1000) ∧
  ∀ H2 l, LamX.ExtN H1 H2 → LamX.Tabs T H2 → H2 l = none → Q (.ref l) (upd H2 l (.lst ((ss.mergeSort (PySem.W.dataLe false kS)).map V.str)))
theorem vals_each : ∀ {ss : List Str} {us : List Value}, Vals (ss.map V.str) us → PySem.W.EachIs (fun (v : Value) (x : Str) => ∃ t, v = .str x t) us ss
  | [], us, h => by cases h; exact .nil
  | x :: r, us, h => by
    cases h with
    | cons a t => exact .cons a (vals_each t)
theorem each_vals : ∀ {ss : List Str} {us : List Value}, PySem.W.EachIs (fun (v : Value) (x : Str) => ∃ t, v = .str x t) us ss → Vals (ss.map V.str) us
  | _, _, .nil => .nil
  | _, _, .cons a t => .cons a (each_vals t)
theorem pe_sortKey {X : Cx} {T : Tb} {K0 : PySem.W.Frag} {c P : Addr} {e : Expr} {te : TE} {n : Str} {params : Arguments} {p1 p2 p3 p4 p5 pl ps kp pos : Pos} {k j : Nat}
    (TB : LamX.TabB X.base X.mg c P) (hcode : X.env.code = .ref c) (hmT : (P, X.env.qual ++ "<lambda>") ∈ T) (hu : ∀ q ∈ T, q.1 = P → q.2 = X.env.qual ++ "<lambda>") (hr : Room j X.A) (hs : X.mg "sorted" = none) (hl0 : X.mg "len" = none) (he : PE X e te)
    (hdef : defaultsOf params X.env = ([], []) := by rfl)
    (hbind : ∀ (q : Str) (pm : Value) (c' : Value) (ctv v : Value), bindArgs (PySem.W.kla_fn "<lambda>" q params (.Tuple [.Call (.Name "len" p1) [.Name n p2] [] p3, .Name n p4] k p5) (keyScope n) [] pm c' ctv) ⟨[v], []⟩ = pure [(n, v)] := by intros; rfl)
    (hg : Gl X "sorted" := by rfl) (hn : n ≠ "len" := by decide) (hd : (n == ("__debug__" : Str)) = false := by decide) (hst : starEach [e] X.env = (false, eval e X.env) :: starEach [] X.env := by rfl) (hK : X.K = K0 := by rfl) :
    PE X (.Call (.Name "sorted" ps) [e] [⟨some "key", .Lambda params (.Tuple [.Call (.Name "len" p1) [.Name n p2] [] p3, .Name n p4] k p5) (keyScope n) pl, kp⟩] pos) (tSortKey T K0 te) := by
  subst hK
  refine ⟨fun pins s σ H Q I h => ?_⟩
  refine wpAny_Call_Name_kw (ld_blt I hg hs boot_sorted' ?_ (by decide) (by decide))
  refine PyProof.Rows.callWith_kw (args_cons (thn (he.run pins s σ H _ I h) fun u s1 ⟨x, H1, I1, r1, q1⟩ => args_nil ?_) hst) (by rw [hst] <;> rfl) (by rw [hst] <;> rfl) rfl rfl
  obtain ⟨a, ss, ex, hsl, hT1, hlen, hxs, q⟩ := q1
  subst ex
  obtain rfl : u = Value.ref a := r1
  have hfree : ∀ y ∈ (keyScope n).names, y.2 = .free → ∃ c, X.env.cells.lookup y.1 = some c := fun y hy e => by
    rcases List.mem_cons.mp hy with h | h
    · rw [h] at e; cases e
    · rw [List.mem_singleton.mp h] at e; cases e
  refine PyProof.Rows.kws_cons (LamX.lam_make2 I1 TB hcode hmT hu hT1 hdef hfree fun f c' pm ctv H2 s2 I2 eN T2 hf hfn hfr hco => PyProof.Rows.kws_nil ?_)
  show wpAny _ _ (call (.builtin "sorted") [.ref a] [(Str.ofString "key", .ref f)]) _ _ _
  have hsl2 : SqL X.K H2 a (ss.map V.str) := by
    rcases hsl with (z | ⟨o, z⟩) | z
    · exact .inl (.inl (eN _ _ z fun ps w => by cases w))
    · exact .inl (.inr ⟨o, eN _ _ z fun ps w => by cases w⟩)
    · exact .inr z
  obtain ⟨its, rv, hl, hz⟩ := I2.list hsl2
  obtain ⟨⟨oc, vs, t, hoc, hdc, hvc⟩, _, _⟩ := I2.hok c' _ hco
  obtain ⟨mb, hb1, hb2⟩ := I2.mod.blt
  have hlb : mb "len" = some (.builtin "len") := (hb2 "len" (by decide)).trans boot_len
  refine PySem.W.sorted_key_data (b := false) (k := kS) (bs := ss) hl.isList (vals_each rv) (PySem.W.AllAlike.of fun x y => ?_) (PySem.W.Sortable.tuples fun x => ⟨_, _, rfl⟩) (sz_small (by omega)) (fun x _ => ?_) (PyProof.Rows.ksk_s1 _ _) (fun _ => PyProof.Rows.ksk_l1 _ _) (fun _ => PyProof.Rows.ksk_t1 _ _)
    (fun v x ⟨tx, ev⟩ hx h tk kp => ?_) fun out c h' tk kp fr hD hlo eo => ?_
  · simp [kS, PySem.W.alike, PySem.W.alikeAll]
  · have hd1 : (kS x).depth = 1 := by simp [kS, PyData.depth, PyData.depthAll]
    have := hr.un
    omega
  · subst ev
    have kb : ∀ b o, X.base.get? b = some o → h.get? b = some o := fun b o e => kp b o (I2.bk b o e)
    exact lam_key (s := { s2 with heap := h, toks := tk }) (kp _ _ hf) ⟨c', oc, vs, t, rfl, kp _ _ hoc, hdc, hvc⟩ hr.depth (fun v => hbind _ _ _ _ v) (I2.ok.mod.nolimit.keeps kb) (I2.mod.glob.keeps kb) hl0 (hb1.keeps kb) hlb (hxs x hx) hn hd
  · have ev := each_vals eo
    refine ⟨.ref (s2.heap.objs.size + 1), upd H2 (s2.heap.objs.size + 1) (.lst ((ss.mergeSort (PySem.W.dataLe false kS)).map V.str)), I2.laid (t' := tk) kp (Nat.le_succ _) ⟨?_, out, c, ev, hD⟩, rfl, q H2 _ eN T2 (I2.hok.fresh (Nat.le_succ _))⟩
    rw [ev.length, hlo]
    exact sz_small (by omega)
/-- the list of texts, in order -/
theorem ev_sortKey {T : Tb} {ρ : Rho} {M : Mus} {Kk : Ks} {K0 : PySem.W.Frag} {te : TE} (h : Ev T te ρ M fun φ M1 => ∃ ss : List Str, φ = Mo.d (.list (ss.map PyData.str)) ∧ ss.length ≤ 1000 ∧ (∀ y ∈ ss, y.length ≤ 1000) ∧ Kk (Mo.d (.list ((ss.mergeSort (PySem.W.dataLe false kS)).map PyData.str))) M1) :
    Ev T (tSortKey T K0 te) ρ M Kk := fun σ G H e s Q q =>
  h σ G H e s _ fun x φ M1 G1 H1 k1 p1 n1 => by
    obtain ⟨ss, rfl, hl, hx, k⟩ := k1
    obtain ⟨a, xs, rfl, h2, h3⟩ := rep_list p1
    have hxs : xs = ss.map V.str := h3.strs
    subst hxs
    refine ⟨a, ss, rfl, SqL.of (n1.st.sub _ _ h2), n1.st.tab, hl, hx, fun H2 l eN T2 hl2 => ?_⟩
    have nt : ∀ b o, G1 b = some o → ∀ ps, o ≠ .tbl ps := fun b o e ps z => n1.st.tg b ps (by rw [e, z])
    have hG2 : Same G1 H2 := fun b o e => eN b o (n1.st.sub b o e) (nt b o e)
    have gl : G1 l = none := hG2.free hl2
    have hne : ∀ b o, H1 b = some o → (∀ ps, o ≠ .tbl ps) → b ≠ l := fun b o e t z => by rw [← z, eN b o e t] at hl2; cases hl2
    refine q _ _ M1 (upd G1 l (.lst ((ss.mergeSort (PySem.W.dataLe false kS)).map V.str))) _ k (Rep.lst upd_same (RepL.of_strs _)) (n1.trans ⟨⟨same_upd gl, fun b o e g _ t => ?_, fun b hb o e => ?_⟩, ⟨same_upd2 hG2 l _, tabs_upd T2 hl2, notbl_upd n1.st.tg (fun ps z => by cases z), n1.st.nd, fun f hf => ?_⟩, New.refl _ _⟩)
    · have hb := hne b o e t
      rw [upd_ne hb, upd_ne hb]
      exact ⟨g, eN b o e t⟩
    · by_cases ht : ∃ ps, o = .tbl ps
      · exact ht
      · have t : ∀ ps, o ≠ .tbl ps := fun ps z => ht ⟨ps, z⟩
        exact hb o (by rw [upd_ne (hne b o e t)]; exact eN b o e t)
    · obtain ⟨g, o, ho, p⟩ := n1.st.mu f hf
      have t := plainO.nt (f.2.pl p)
      have hb := hne f.1 o ho t
      exact ⟨by rw [upd_ne hb]; exact g, o, by rw [upd_ne hb]; exact eN _ _ ho t, f.2.mono (same_upd gl) p⟩
end Lv
/-! #### D1 -/
namespace Lv
open PySem L2 StX PyProof.Rows
local macro_rules | `(tactic| walk_at "lv1") => `(tactic| first
  | with_reducible refine go_seq ?_
  | with_reducible refine go_set ?_
  | with_reducible refine go_ret ?_
  | with_reducible refine go_drop ?_
  | with_reducible refine go_if ?_
  | with_reducible refine ev_op ?_
  | with_reducible refine ev_cb ?_
  | with_reducible refine ea_cons ?_
  | with_reducible refine ea_nil ?_
  | refine ev_var rfl ?_
  | with_reducible refine ev_int ?_
  | with_reducible refine ev_str ?_
  | with_reducible refine ev_bl ?_
  | with_reducible refine ev_ty ?_
  | with_reducible refine ev_non ?_
  | with_reducible refine ev_cls ?_
  | with_reducible refine ev_un ?_
  | with_reducible refine ev_fld ?_
  | with_reducible refine ev_andV ?_
  | with_reducible refine ev_notV ?_
  | with_reducible refine ev_ifE ?_
  | with_reducible refine ev_chain ?_
  | with_reducible refine et_test ?_
  | with_reducible refine et_B ?_
  | with_reducible refine et_and ?_
  | with_reducible refine et_or ?_
  | with_reducible refine et_not ?_
  | with_reducible refine et_yes ?_
  | with_reducible refine ov_add ?_
  | with_reducible refine ov_sub ?_
  | with_reducible refine ov_lt ?_
  | with_reducible refine ov_le ?_
  | with_reducible refine ov_gt ?_
  | with_reducible refine ov_ge ?_
  | with_reducible refine ov_neg ?_
  | with_reducible refine ov_eqI ?_
  | with_reducible refine ov_neI ?_
  | with_reducible refine ov_eqS ?_
  | with_reducible refine ov_inSg ?_
  | with_reducible refine ov_inS ?_
  | with_reducible refine ov_inI ?_
  | with_reducible refine cv_lenL ?_
  | with_reducible refine cv_lenT ?_
  | with_reducible refine cv_max2 ?_
  | with_reducible refine cv_min2 ?_
  | with_reducible refine cv_intI ?_
  | with_reducible refine cv_intB ?_
  | with_reducible refine cv_tuple ?_
  | with_reducible refine cv_list (.inl rfl) ?_
  | with_reducible refine cv_list (.inr rfl) ?_
  | refine ov_ixT (n := 0) rfl ?_
  | refine ov_ixT (n := 1) rfl ?_
  | refine ov_ixT (n := 2) rfl ?_
  | refine ov_ixT (n := 3) rfl ?_
  | refine ov_ixL (n := 0) rfl ?_
  | refine ov_ixL (n := 1) rfl ?_
  | refine ov_ixL (n := 2) rfl ?_
  | refine iteT ?_
  | refine iteF ?_
  | with_reducible refine iteN (b := !true) rfl ?_
  | with_reducible refine iteP (b := !false) rfl ?_
  | with_reducible refine go_next ?_
  | refine ⟨_, rfl, ?_⟩)
local macro_rules | `(tactic| walk_at "lv") => `(tactic| repeat walk_at "lv1")
variable {P : Program} {w : World} {K : PySem.W.Frag} {mg : Str → Option Value} {base : Heap} {T : Tb}
/-! ### words -/
def letS : Str := "abcdefghijklmnopqrstuvwxyz"
/-- one to eight small letters -/
def nmB (x : Str) : Bool := decide (1 ≤ x.length ∧ x.length ≤ 8) && x.cps.toList.all fun c => decide (c ∈ letS.cps.toList)
abbrev spIsWhole (T : Tb) : Sp := SpP T Int (fun i => [Mo.d (.int i)]) (fun _ => True) (fun _ => Mo.d (.bool true))
-- slots of is_whole: 0 value
theorem sc_is_whole : FnScope ["value"] ["value"] (defScope s_is_whole) := ⟨rfl, rfl, rfl, by decide +kernel, rfl, by decide +kernel, by decide +kernel⟩
theorem ok_is_whole (c : Fc K mg) : Cal P w K mg base 1 "is_whole" ["value"] (spIsWhole T) := by
  obtain ⟨fd, F⟩ := c.f_is_whole
  refine fn_mk F c.g_is_whole (fn_okP F sc_is_whole (fun _ => rfl) (by decide) fun i _ cdv Ar outer s Hs Ex hr => ⟨_, (pss_one (ps_ret (pe_and (pe_callB (call_isiB (K0 := K)) rfl c.b_isinstance boot_isinstance (pa_cons (pv 0) (pa_cons (bl_ty boot_int c.b_int) pa_nil))) (pe_one (pe_not (pe_callB (call_isiB (K0 := K)) rfl c.b_isinstance boot_isinstance (pa_cons (pv 0) (pa_cons (bl_ty boot_bool c.b_bool) pa_nil)))))))), fun G H A0 Q kQ => ?_⟩) (fun _ _ _ _ _ _ us hl => match us, hl with | [_], _ => rfl)
  walk_at "lv"
  refine cv_isi (b := true) "int" rfl (by decide +kernel) ?_
  walk_at "lv"
  refine cv_isi (b := false) "int" rfl (by decide +kernel) ?_
  walk_at "lv"
  exact kQ _
abbrev spIsName (T : Tb) : Sp := SpP T Str (fun x => [Mo.d (.str x)]) (fun x => nmB x = true) (fun _ => Mo.d (.bool true))
-- slots of is_name: 0 value, 1 sign
theorem sc_is_name : FnScope ["value", "sign"] ["value"] (defScope s_is_name) := ⟨rfl, rfl, rfl, by decide +kernel, rfl, by decide +kernel, by decide +kernel⟩
theorem ok_is_name (c : Fc K mg) : Cal P w K mg base 1 "is_name" ["value"] (spIsName T) := by
  obtain ⟨fd, F⟩ := c.f_is_name
  refine fn_mk F c.g_is_name (fn_okP F sc_is_name (fun _ => rfl) (by decide) fun x hx cdv Ar outer s Hs Ex hr => ⟨_, (pss_cons (ps_if (PW.pt (pw_or (pt_not (pt_val (pe_callB (call_isiB (K0 := K)) rfl c.b_isinstance boot_isinstance (pa_cons (pv 0) (pa_cons (bl_ty boot_str c.b_str) pa_nil))))) (pw_or1 (pt_not (pt_chain op_le op_le pe_int (pe_callB (c_lenB (K0 := K)) rfl c.b_len boot_len (pa_cons (pv 0) pa_nil)) (gl_int c.i_MOST_LETTERS)))))) (pss_one (ps_ret pe_bl)) pss_nil)
      (pss_one (ps_ret (pe_callB (cr_all rfl) rfl c.b_all boot_all (pa_cons (pe_lc (own := [("sign", 1)]) rfl sc_is_name.nd (pi_str (pv 0)) (blkOk_by (N := ["value", "sign"]) (sc := defScope s_is_name) (by decide +kernel)) (fun _ _ _ _ _ => (tn 1 sc_is_name.nd)) (fun _ _ _ _ _ => pts_nil) (fun _ _ _ _ _ => (pe_cmpR o_inSg (pv 1) (gl_str c.s_LETTERS) rfl))) pa_nil))))), fun G H A0 Q kQ => ?_⟩) (fun _ _ _ _ _ _ us hl => match us, hl with | [_], _ => rfl)
  obtain ⟨h1, h2⟩ := Bool.and_eq_true_iff.mp hx
  obtain ⟨h3, h4⟩ := of_decide_eq_true h1
  walk_at "lv"
  refine cv_isi (b := true) "str" rfl (by decide +kernel) ?_
  walk_at "lv"
  refine cv_lenS (x := x) (sz_small (by omega)) ?_
  walk_at "lv"
  refine iteP (decide_eq_true (by omega)) ?_
  walk_at "lv"
  refine iteN (by rw [decide_eq_true (by omega)]; rfl) ?_
  walk_at "lv"
  refine ev_lcB (fun c => PyData.str ⟨#[c]⟩) (fun c => PyData.bool (decide (c ∈ letS.cps.toList))) (ei_str (ev_var rfl ⟨x, rfl, x.cps.toList, rfl, sz_small ?_, fun c hc => ⟨_, tgt_name (by simp), ?_⟩, ?_⟩))
  · rw [Array.length_toList]
    exact Nat.le_trans h4 (by omega)
  · walk_at "lv"
    exact ⟨rfl, rfl⟩
  · walk_at "lv"
    have e : x.cps.toList.map (fun c => PyData.bool (decide (c ∈ letS.cps.toList))) = (x.cps.toList.map fun c => decide (c ∈ letS.cps.toList)).map PyData.bool := by
      rw [List.map_map] <;> rfl
    rw [e]
    refine cv_all ?_
    have e2 : (x.cps.toList.map fun c => decide (c ∈ letS.cps.toList)).all id = true := by
      rw [List.all_map]
      exact h2
    rw [e2]
    exact kQ _
/-- lists, tuples -/
abbrev spIsLine (T : Tb) : Sp := SpP T PyData (fun d => [Mo.d d]) (fun d => (∃ ds, d = .list ds) ∨ ∃ ds, d = .tuple ds) (fun _ => Mo.d (.bool true))
-- slots of is_line: 0 value
theorem sc_is_line : FnScope ["value"] ["value"] (defScope s_is_line) := ⟨rfl, rfl, rfl, by decide +kernel, rfl, by decide +kernel, by decide +kernel⟩
theorem ok_is_line (c : Fc K mg) : Cal P w K mg base 1 "is_line" ["value"] (spIsLine T) := by
  obtain ⟨fd, F⟩ := c.f_is_line
  refine fn_mk F c.g_is_line (fn_okP F sc_is_line (fun _ => rfl) (by decide) fun d hd cdv Ar outer s Hs Ex hr => ⟨_, (pss_one (ps_ret (pe_callB (call_isiTB (K0 := K)) rfl c.b_isinstance boot_isinstance (pa_cons (pv 0) (pa_cons (pe_tup (pa_cons (bl_ty boot_list c.b_list) (pa_cons (bl_ty boot_tuple c.b_tuple) pa_nil))) pa_nil))))), fun G H A0 Q kQ => ?_⟩) (fun _ _ _ _ _ _ us hl => match us, hl with | [_], _ => rfl)
  refine go_ret (ev_isLine (ev_var rfl ⟨d, true, rfl, ?_, kQ _⟩))
  rcases hd with ⟨ds, rfl⟩ | ⟨ds, rfl⟩
  · exact kitAny_cons (b := true) (kit_ty (a := "list") (by decide +kernel)) (fun z => by cases z) (fun _ => rfl)
  · exact kitAny_cons (b := false) (kit_ty (a := "tuple") (by decide +kernel)) (fun _ => kitAny_cons (b := true) (kit_ty (a := "tuple") (by decide +kernel)) (fun z => by cases z) (fun _ => rfl)) (fun z => by cases z)
abbrev spIsNumber (T : Tb) : Sp := SpP T (Int × Int × Int) (fun a => [Mo.d (.int a.1), Mo.d (.int a.2.1), Mo.d (.int a.2.2)]) (fun a => a.2.1 ≤ a.1 ∧ a.1 ≤ a.2.2) (fun _ => Mo.d (.bool true))
-- slots of is_number: 0 value, 1 low, 2 high
theorem sc_is_number : FnScope ["value", "low", "high"] ["value", "low", "high"] (defScope s_is_number) := ⟨rfl, rfl, rfl, by decide +kernel, rfl, by decide +kernel, by decide +kernel⟩
theorem ok_is_number (c : Fc K mg) : Cal P w K mg base 2 "is_number" ["value", "low", "high"] (spIsNumber T) := by
  have C_is_whole : Cal P w K mg base 1 "is_whole" ["value"] (spIsWhole T) := ok_is_whole c
  obtain ⟨fd, F⟩ := c.f_is_number
  refine fn_mk F c.g_is_number (fn_okP F sc_is_number (fun _ => rfl) (by decide) fun a ha cdv Ar outer s Hs Ex hr => ⟨_, (pss_one (ps_ret (pe_and (pe_fn C_is_whole (hr.mono (by omega)) (pa_cons (pv 0) pa_nil)) (pe_one (pe_chain op_le op_le (pv 1) (pv 0) (pv 2)))))), fun G H A0 Q kQ => ?_⟩) (fun _ _ _ _ _ _ us hl => match us, hl with | [_, _, _], _ => rfl)
  walk_at "lv"
  refine ev_callP ?_
  walk_at "lv"
  refine ⟨trivial, ?_⟩
  walk_at "lv"
  refine iteP (decide_eq_true ha.1) ?_
  walk_at "lv"
  rw [decide_eq_true ha.2]
  exact kQ _
/-- a naming as a list or as a tuple -/
def sqD (tup : Bool) (ds : List PyData) : PyData := if tup = true then .tuple ds else .list ds
abbrev spNameFor (T : Tb) : Sp := SpP T (Bool × List Str × Lv1) (fun a => [Mo.d (sqD a.1 (a.2.1.map PyData.str)), Mo.d a.2.2.en]) (fun a => a.2.2.ok a.2.1.length) (fun a => Mo.d (.str (nameFor a.2.1 a.2.2)))
-- slots of name_for: 0 names, 1 meant
theorem sc_name_for : FnScope ["names", "meant"] ["names", "meant"] (defScope s_name_for) := ⟨rfl, rfl, rfl, by decide +kernel, rfl, by decide +kernel, by decide +kernel⟩
theorem getD_some {α : Type} {xs : List α} {i : Nat} {d : α} (h : i < xs.length) : xs[i]? = some (xs.getD i d) := by
  rw [List.getD_eq_getElem?_getD, List.getElem?_eq_getElem h] <;> rfl
theorem map_getD {α β : Type} {f : α → β} {xs : List α} {i : Nat} {d : α} (h : i < xs.length) : (xs.map f)[i]? = some (f (xs.getD i d)) := by
  rw [List.getElem?_map, getD_some h] <;> rfl
theorem ov_ixSq {T : Tb} {M : Mus} {Kk : Ks} {K0 : PySem.W.Frag} {tup : Bool} {ds : List PyData} {d : PyData} {n : Nat} (hi : ds[n]? = some d) (k : Kk (Mo.d d) M) : OpV T (rIx K0) (Mo.d (sqD tup ds)) (Mo.d (.int (n : Int))) M Kk := by
  cases tup with
  | true => exact ov_ixT hi k
  | false => exact ov_ixL hi k
theorem ok_name_for (c : Fc K mg) : Cal P w K mg base 1 "name_for" ["names", "meant"] (spNameFor T) := by
  obtain ⟨fd, F⟩ := c.f_name_for
  refine fn_mk F c.g_name_for (fn_okP F sc_name_for (fun _ => rfl) (by decide) fun a ha cdv Ar outer s Hs Ex hr => ⟨_, (pss_one (ps_ret (pe_ifExp (pt_val (pe_callB (call_isiB (K0 := K)) rfl c.b_isinstance boot_isinstance (pa_cons (pv 1) (pa_cons (bl_ty boot_str c.b_str) pa_nil)))) (pv 1) (pe_ix (ix_seqB (K0 := K)) (pv 0) (pv 1) (fun _ _ => rfl))))), fun G H A0 Q kQ => ?_⟩) (fun _ _ _ _ _ _ us hl => match us, hl with | [_, _], _ => rfl)
  obtain ⟨tup, ns, m⟩ := a
  cases m with
  | b i =>
    walk_at "lv"
    refine cv_isi (b := false) "int" rfl (by decide +kernel) ?_
    walk_at "lv"
    exact ov_ixSq (map_getD ha) (kQ _)
  | f x =>
    walk_at "lv"
    refine cv_isi (b := true) "str" rfl (by decide +kernel) ?_
    walk_at "lv"
    exact kQ _
end Lv
/-! #### D2 -/
namespace Lv
open PySem L2 StX PyProof.Rows
local macro_rules | `(tactic| walk_at "lv1") => `(tactic| first
  | with_reducible refine go_seq ?_
  | with_reducible refine go_set ?_
  | with_reducible refine go_ret ?_
  | with_reducible refine go_drop ?_
  | with_reducible refine go_if ?_
  | with_reducible refine ev_op ?_
  | with_reducible refine ev_cb ?_
  | with_reducible refine ea_cons ?_
  | with_reducible refine ea_nil ?_
  | refine ev_var rfl ?_
  | with_reducible refine ev_int ?_
  | with_reducible refine ev_str ?_
  | with_reducible refine ev_bl ?_
  | with_reducible refine ev_ty ?_
  | with_reducible refine ev_non ?_
  | with_reducible refine ev_cls ?_
  | with_reducible refine ev_un ?_
  | with_reducible refine ev_fld ?_
  | with_reducible refine ev_andV ?_
  | with_reducible refine ev_notV ?_
  | with_reducible refine ev_ifE ?_
  | with_reducible refine ev_chain ?_
  | with_reducible refine et_test ?_
  | with_reducible refine et_B ?_
  | with_reducible refine et_and ?_
  | with_reducible refine et_or ?_
  | with_reducible refine et_not ?_
  | with_reducible refine et_yes ?_
  | with_reducible refine ov_add ?_
  | with_reducible refine ov_sub ?_
  | with_reducible refine ov_lt ?_
  | with_reducible refine ov_le ?_
  | with_reducible refine ov_gt ?_
  | with_reducible refine ov_ge ?_
  | with_reducible refine ov_neg ?_
  | with_reducible refine ov_eqI ?_
  | with_reducible refine ov_neI ?_
  | with_reducible refine ov_eqS ?_
  | with_reducible refine ov_inSg ?_
  | with_reducible refine ov_inS ?_
  | with_reducible refine ov_inI ?_
  | with_reducible refine cv_lenL ?_
  | with_reducible refine cv_lenT ?_
  | with_reducible refine cv_max2 ?_
  | with_reducible refine cv_min2 ?_
  | with_reducible refine cv_intI ?_
  | with_reducible refine cv_intB ?_
  | with_reducible refine cv_tuple ?_
  | with_reducible refine cv_list (.inl rfl) ?_
  | with_reducible refine cv_list (.inr rfl) ?_
  | refine ov_ixT (n := 0) rfl ?_
  | refine ov_ixT (n := 1) rfl ?_
  | refine ov_ixT (n := 2) rfl ?_
  | refine ov_ixT (n := 3) rfl ?_
  | refine ov_ixL (n := 0) rfl ?_
  | refine ov_ixL (n := 1) rfl ?_
  | refine ov_ixL (n := 2) rfl ?_
  | refine iteT ?_
  | refine iteF ?_
  | with_reducible refine iteN (b := !true) rfl ?_
  | with_reducible refine iteP (b := !false) rfl ?_
  | with_reducible refine go_next ?_
  | refine ⟨_, rfl, ?_⟩)
local macro_rules | `(tactic| walk_at "lv") => `(tactic| repeat walk_at "lv1")
variable {P : Program} {w : World} {K : PySem.W.Frag} {mg : Str → Option Value} {base : Heap} {T : Tb}
/-! ### each once -/
def uniq (ss : List Str) : List Str := ss.foldl (fun acc x => if x ∈ acc then acc else acc ++ [x]) []
theorem uniq_snoc (ss : List Str) (x : Str) : uniq (ss ++ [x]) = if x ∈ uniq ss then uniq ss else uniq ss ++ [x] := by
  unfold uniq
  rw [List.foldl_append] <;> rfl
def snocInd {α : Type} {q : List α → Prop} (h0 : q []) (h1 : ∀ xs x, q xs → q (xs ++ [x])) (xs : List α) : q xs := by
  rw [← List.reverse_reverse xs]
  induction xs.reverse with
  | nil => exact h0
  | cons x r ih => rw [List.reverse_cons]; exact h1 _ _ ih
theorem uniq_nodup (ss : List Str) : (uniq ss).Nodup := by
  induction ss using snocInd with
  | h0 => exact List.nodup_nil
  | h1 xs x ih =>
    rw [uniq_snoc]
    split
    · exact ih
    · rename_i h
      rw [List.nodup_append]
      refine ⟨ih, by simp, fun a ha b hb e => ?_⟩
      rw [List.mem_singleton.mp hb] at e
      exact h (e ▸ ha)
theorem mem_uniq (ss : List Str) (y : Str) : y ∈ uniq ss ↔ y ∈ ss := by
  induction ss using snocInd with
  | h0 => exact Iff.rfl
  | h1 xs x ih =>
    rw [uniq_snoc, List.mem_append, List.mem_singleton]
    split
    · rename_i h
      rw [ih]
      constructor
      · exact .inl
      · rintro (h1 | h1)
        · exact h1
        · subst h1; exact ih.mp h
    · rw [List.mem_append, List.mem_singleton, ih]
theorem uniq_self {ss : List Str} (h : ss.Nodup) : uniq ss = ss := by
  induction ss using snocInd with
  | h0 => rfl
  | h1 xs x ih =>
    rw [List.nodup_append] at h
    have e := ih h.1
    rw [uniq_snoc, e, if_neg fun z => h.2.2 x z x (by simp) rfl]
def dkS (us : List Str) : List (Key × Mo) := us.map fun x => (Sum.inr x, Mo.d (.bool true))
theorem dkS_put (us : List Str) (x : Str) : putKM (dkS us) (Sum.inr x) (Mo.d (.bool true)) = dkS (if x ∈ us then us else us ++ [x]) := by
  have ha : ((dkS us).any fun kv => decide (kv.1 = Sum.inr x)) = decide (x ∈ us) := by
    unfold dkS
    induction us with
    | nil => rfl
    | cons y r ih =>
      rw [List.map_cons, List.any_cons, ih]
      by_cases h : y = x
      · subst h; simp
      · have h' : ¬ x = y := fun z => h z.symm
        simp [h, h']
  unfold putKM
  rw [ha]
  by_cases h : x ∈ us
  · rw [decide_eq_true h, if_pos rfl, if_pos h]
    unfold dkS
    rw [List.map_map]
    apply List.map_congr_left
    intro y _
    show (if (Sum.inr y : Key) = Sum.inr x then ((Sum.inr y : Key), Mo.d (.bool true)) else _) = _
    split <;> rfl
  · rw [decide_eq_false h, if_neg Bool.false_ne_true, if_neg h]
    unfold dkS
    rw [List.map_append] <;> rfl
/-- {x: True for x in ..} over texts -/
theorem ev_dcS {T : Tb} {ρ : Rho} {M : Mus} {Kk : Ks} {wi : TI} {g : TG} {tk tv : TE} {vs : List Nat}
    (h : EvI T wi ρ M fun φs M1 => ∃ ss : List Str, φs = (ss.map PyData.str).map Mo.d ∧ ss.length < sizeLine ∧ (∀ x, x ∈ ss → ∃ ρ2, Tgt vs g (Mo.d (.str x)) (wipeR ρ vs) ρ2 ∧ (∀ M2, Ev T tk ρ2 M2 fun ψ M3 => ψ = Mo.d (.str x) ∧ M3 = M2) ∧ ∀ M2, Ev T tv ρ2 M2 fun ψ M3 => ψ = Mo.d (.bool true) ∧ M3 = M2) ∧
      ∀ p, Kk (Mo.adr p) (M1 ++ [(p, Mu.dk (dkS (uniq ss)))])) : Ev T (tDc wi g tYes tk tv vs) ρ M Kk := fun σ G H e s Q q =>
  h σ G H e s _ fun J φs M1 G1 H1 ⟨ss, e1, hz, step, fin⟩ n1 wk => fun D hD => by
    subst e1
    have nD : Po T M1 G1 H1 (M1 ++ [(D, Mu.dk (dkS (uniq [])))]) G1 (upd H1 D (.dK [])) := Po.laidM n1.st hD ⟨[], rfl, .nil⟩
    have hL : ((ss.map PyData.str).map Mo.d).length = ss.length := by rw [List.length_map, List.length_map]
    refine ⟨fun i m H => m = ss.length - i ∧ i ≤ ss.length ∧ ∃ G2, Po T M1 G1 H1 (M1 ++ [(D, Mu.dk (dkS (uniq (ss.take i))))]) G2 H, ⟨ss.length, rfl, Nat.zero_le _, G1, nD⟩, ?_⟩
    rintro i m H ⟨rfl, hi, G2, n2⟩
    obtain ⟨st, it⟩ := wk _ G2 H n2.g n2.st
    by_cases hlt : i < ss.length
    · have hx : ss[i]? = some ss[i] := List.getElem?_eq_getElem hlt
      obtain ⟨go, yld⟩ := it i (Mo.d (.str ss[i])) (by rw [List.getElem?_map, List.getElem?_map, hx] <;> rfl)
      refine .inr ⟨go, fun H' => ∃ G2, Po T M1 G1 H1 (M1 ++ [(D, Mu.dk (dkS (uniq (ss.take (i + 1)))))]) G2 H', fun H' hN => ⟨ss.length - (i + 1), by omega, rfl, hlt, hN⟩, fun x H' hy => ?_⟩
      obtain ⟨G3, n3, hv⟩ := yld x H' hy
      obtain ⟨ρ2, tg, hk, ht⟩ := step ss[i] (List.getElem_mem hlt)
      have e3 : EnvOk G3 σ ρ := e.mono ((n1.g.trans n2.g).trans n3.g)
      refine tg x _ G3 H' hv (e3.wipe vs) n3.st.sub _ fun σ4 e4 w4 => ⟨w4.trans (wipe_idem vs), ?_⟩
      dsimp only [tYes]
      rw [if_pos rfl]
      refine hk _ σ4 G3 H' e4 n3.st _ fun y ψ M4 G4 H4 ⟨e5, e6⟩ p4 n4 => ?_
      subst e5 e6
      refine ht _ σ4 G4 H4 (e4.mono n4.g) n4.st _ fun z ψ M5 G5 H5 ⟨e7, e8⟩ p5 n5 => ?_
      subst e7 e8
      obtain ⟨_, oD, hoD, xs, rfl, hxs⟩ := n5.st.at (at_last (M := M1) (e := (D, Mu.dk (dkS (uniq (ss.take i))))))
      have hlen : (uniq (ss.take i)).length ≤ i := by
        have : ∀ l : List Str, (uniq l).length ≤ l.length := fun l => by
          induction l using snocInd with
          | h0 => exact Nat.le_refl _
          | h1 xs x ih =>
            rw [uniq_snoc, List.length_append, List.length_singleton]
            split
            · omega
            · rw [List.length_append, List.length_singleton]; omega
        have h1 := this (ss.take i)
        rw [List.length_take] at h1
        omega
      refine ⟨xs, Sum.inr ss[i], rep_str (Mo.mono _ n5.g p4), hoD, ?_, G5, ?_⟩
      · rw [KvOk.length hxs]
        unfold dkS
        rw [List.length_map]
        omega
      · have et : ss.take (i + 1) = ss.take i ++ [ss[i]] := take_succ' hx
        have n6 := Po.wrote n5.st (at_last (M := M1) (e := (D, Mu.dk (dkS (uniq (ss.take i)))))) (m' := Mu.dk (dkS (uniq (ss.take (i + 1))))) (o' := .dK (putK xs (Sum.inr ss[i]) z)) ⟨_, rfl, by
          have := hxs.put (k := (Sum.inr ss[i] : Key)) (v := z) (φ := Mo.d (.bool true)) p5
          rw [dkS_put, ← uniq_snoc, ← et] at this
          exact this⟩
        rw [set_last] at n6
        exact n2.trans (n3.trans (n4.trans (n5.trans n6)))
    · have ei : i = ss.length := by omega
      subst ei
      rw [List.take_length] at n2
      exact .inl ⟨by rw [hL] at st; exact st, q _ (Mo.adr D) _ _ _ (fin D) rfl (n1.trans n2)⟩
abbrev spUnlike (T : Tb) : Sp := SpP T (List Str) (fun ss => [Mo.d (strL ss)]) (fun ss => ss.length ≤ 1000 ∧ ss.Nodup) (fun _ => Mo.d (.bool true))
-- slots of are_unlike: 0 some, 1 one
theorem sc_are_unlike : FnScope ["some", "one"] ["some"] (defScope s_are_unlike) := ⟨rfl, rfl, rfl, by decide +kernel, rfl, by decide +kernel, by decide +kernel⟩
theorem ok_are_unlike (c : Fc K mg) : Cal P w K mg base 1 "are_unlike" ["some"] (spUnlike T) := by
  obtain ⟨fd, F⟩ := c.f_are_unlike
  refine fn_mk F c.g_are_unlike (fn_okP F sc_are_unlike (fun _ => rfl) (by decide) fun ss hs cdv Ar outer s Hs Ex hr => ⟨_, (pss_one (ps_ret (pe_cmpR op_eq (pe_callB c_lenD rfl c.b_len boot_len (pa_cons (pe_dc (own := [("one", 1)]) rfl sc_are_unlike.nd (pi_listB (K0 := K) (pv 0)) (blkOk_by (N := ["some", "one"]) (sc := defScope s_are_unlike) (by decide +kernel)) (fun _ _ _ _ _ => (tn 1 sc_are_unlike.nd)) (fun _ _ _ _ _ => pts_nil) (fun _ _ _ _ _ => (pv 1)) (fun _ _ _ _ _ => pe_bl)) pa_nil)) (pe_callB (c_lenB (K0 := K)) rfl c.b_len boot_len (pa_cons (pv 0) pa_nil)) (nomark _)))), fun G H A0 Q kQ => ?_⟩) (fun _ _ _ _ _ _ us hl => match us, hl with | [_], _ => rfl)
  walk_at "lv"
  refine ev_dcS (ei_list (ev_var rfl ⟨_, rfl, ss, rfl, sz_lt (by omega), fun x hx => ⟨_, tgt_name (by simp), fun M2 => ev_var rfl ⟨rfl, rfl⟩, fun M2 => ev_bl ⟨rfl, rfl⟩⟩, fun p => ?_⟩))
  walk_at "lv"
  refine cv_lenD (at_last (M := [])) ?_
  walk_at "lv"
  rw [uniq_self hs.2, show decide (((dkS ss).length : Int) = ((ss.map PyData.str).length : Int)) = true from decide_eq_true (by unfold dkS; rw [List.length_map, List.length_map])]
  exact kQ _
abbrev spEachOnce (T : Tb) : Sp := SpP T (List Str) (fun ss => [Mo.d (strL ss)]) (fun ss => ss.length ≤ 1000) (fun ss => Mo.d (strL (uniq ss)))
-- slots of each_once: 0 some, 1 one
theorem sc_each_once : FnScope ["some", "one"] ["some"] (defScope s_each_once) := ⟨rfl, rfl, rfl, by decide +kernel, rfl, by decide +kernel, by decide +kernel⟩
theorem ok_each_once (c : Fc K mg) : Cal P w K mg base 1 "each_once" ["some"] (spEachOnce T) := by
  obtain ⟨fd, F⟩ := c.f_each_once
  refine fn_mk F c.g_each_once (fn_okP F sc_each_once (fun _ => rfl) (by decide) fun ss hs cdv Ar outer s Hs Ex hr => ⟨_, (pss_one (ps_ret (pe_callTy (call_list_dK rfl) rfl c.b_list boot_list (pa_cons (pe_dc (own := [("one", 1)]) rfl sc_each_once.nd (pi_listB (K0 := K) (pv 0)) (blkOk_by (N := ["some", "one"]) (sc := defScope s_each_once) (by decide +kernel)) (fun _ _ _ _ _ => (tn 1 sc_each_once.nd)) (fun _ _ _ _ _ => pts_nil) (fun _ _ _ _ _ => (pv 1)) (fun _ _ _ _ _ => pe_bl)) pa_nil)))), fun G H A0 Q kQ => ?_⟩) (fun _ _ _ _ _ _ us hl => match us, hl with | [_], _ => rfl)
  walk_at "lv"
  refine ev_dcS (ei_list (ev_var rfl ⟨_, rfl, ss, rfl, sz_lt (by omega), fun x hx => ⟨_, tgt_name (by simp), fun M2 => ev_var rfl ⟨rfl, rfl⟩, fun M2 => ev_bl ⟨rfl, rfl⟩⟩, fun p => ?_⟩))
  walk_at "lv"
  refine cv_listD (at_last (M := [])) ?_
  have e : (dkS (uniq ss)).map (fun kv => keyD kv.1) = (uniq ss).map PyData.str := by
    unfold dkS
    rw [List.map_map] <;> rfl
  rw [e]
  exact kQ _
end Lv
/-! #### Ur -/
namespace Lv
open PySem L2 StX PyProof.Rows
/-! ### the order of what may change plays no part -/
theorem Sta.perm {T : Tb} {M N : Mus} {G H : Hp} (s : Sta T M G H) (p : M.Perm N) : Sta T N G H :=
  ⟨s.sub, s.tab, s.tg, (p.map _).nodup_iff.mp s.nd, fun e he => s.mu e (p.mem_iff.mpr he)⟩
theorem Po.perm {T : Tb} {M N M' N' : Mus} {G H G' H' : Hp} (n : Po T M G H M' G' H') (p : M.Perm N) (p' : M'.Perm N') : Po T N G H N' G' H' :=
  ⟨n.nx.mono fun a h => (p.map _).mem_iff.mp h, n.st.perm p', fun e he => (n.nw e (p'.mem_iff.mpr he)).imp (fun h => (p.map _).mem_iff.mp h) id⟩
theorem perm_at {α : Type} : ∀ {xs : List α} {n : Nat} {a : α}, xs[n]? = some a → (a :: xs.eraseIdx n).Perm xs
  | [], n, a, h => by simp at h
  | x :: xs, 0, a, h => by
    have e : x = a := by simpa using h
    rw [e]
    exact List.Perm.refl _
  | x :: xs, n + 1, a, h => by
    have h' : xs[n]? = some a := by simpa using h
    exact (List.Perm.swap x a _).trans ((perm_at h').cons x)
theorem erase_set {α : Type} : ∀ (xs : List α) (n : Nat) (b : α), (xs.set n b).eraseIdx n = xs.eraseIdx n
  | [], n, b => by rw [List.set_nil]
  | x :: xs, 0, b => rfl
  | x :: xs, n + 1, b => by rw [List.set_cons_succ, List.eraseIdx_cons_succ, List.eraseIdx_cons_succ, erase_set xs n b]
/-- a callee that may change one thing -/
theorem ev_call1 {T : Tb} {ρ : Rho} {M : Mus} {K : Ks} {A : Type} {args : A → List Mo} {mu : A → Mus} {pre : A → Prop} {res : A → Mo → Mus → Prop} {E : XK} {tr : TA}
    (h : EvA T tr ρ M fun φs M1 => ∃ (a : A) (n : Nat) (p : Addr) (m : Mu), φs = args a ∧ mu a = [(p, m)] ∧ M1[n]? = some (p, m) ∧ pre a ∧ ∀ φ M', res a φ M' → ∃ m', M' = [(p, m')] ∧ K φ (M1.set n (p, m'))) : Ev T (tCall (SpG T A args mu pre res) [] E tr) ρ M K := fun σ G H e s Q q =>
  h σ G H e s _ fun xs φs M1 G1 H1 k1 p1 n1 => by
    obtain ⟨a, n, p, m, rfl, hmu, hn, hp, k⟩ := k1
    have pm := perm_at hn
    have s1 : Sta T ([(p, m)] ++ M1.eraseIdx n) G1 H1 := n1.st.perm pm.symm
    refine ⟨a, G1, hp, by rw [List.append_nil]; exact p1, by rw [hmu]; exact s1.left, fun v φ M' G' H' hr hv n2 => ?_⟩
    obtain ⟨m', rfl, hk⟩ := k φ M' hr
    rw [hmu] at n2
    have n3 := Po.frame s1 n2
    have hn' : (M1.set n (p, m'))[n]? = some (p, m') := List.getElem?_set_self (List.getElem?_eq_some_iff.mp hn).1
    have pm' := perm_at hn'
    rw [erase_set] at pm'
    exact q v φ _ G' H' hk hv (n1.trans (n3.perm pm pm'))
/-- y = [.. for k in d] under the dict's lock -/
theorem go_lockset {Z : Zo} {D : Ends} {ρ : Rho} {M : Mus} {te : TE} {i : Nat} (h : Go Z (tAsg (tLockE te) (gName i) D) ρ M) : Go Z (tLock (tAsg te (gName i)) D) ρ M := h
/-! ### each once, of anything -/
section
variable {α : Type} [DecidableEq α]
def uq (ss : List α) : List α := ss.foldl (fun acc x => if x ∈ acc then acc else acc ++ [x]) []
theorem uq_snoc (ss : List α) (x : α) : uq (ss ++ [x]) = if x ∈ uq ss then uq ss else uq ss ++ [x] := by
  unfold uq
  rw [List.foldl_append] <;> rfl
theorem mem_uq (ss : List α) (y : α) : y ∈ uq ss ↔ y ∈ ss := by
  induction ss using snocInd with
  | h0 => exact Iff.rfl
  | h1 xs x ih =>
    rw [uq_snoc, List.mem_append, List.mem_singleton]
    split
    · rename_i h
      rw [ih]
      constructor
      · exact .inl
      · rintro (h1 | h1)
        · exact h1
        · subst h1; exact ih.mp h
    · rw [List.mem_append, List.mem_singleton, ih]
theorem uq_nodup (ss : List α) : (uq ss).Nodup := by
  induction ss using snocInd with
  | h0 => exact List.nodup_nil
  | h1 xs x ih =>
    rw [uq_snoc]
    split
    · exact ih
    · rename_i h
      rw [List.nodup_append]
      refine ⟨ih, by simp, fun a ha b hb e => ?_⟩
      rw [List.mem_singleton.mp hb] at e
      exact h (e ▸ ha)
theorem uq_self {ss : List α} (h : ss.Nodup) : uq ss = ss := by
  induction ss using snocInd with
  | h0 => rfl
  | h1 xs x ih =>
    rw [List.nodup_append] at h
    have e := ih h.1
    rw [uq_snoc, e, if_neg fun z => h.2.2 x z x (by simp) rfl]
theorem uq_len (ss : List α) : (uq ss).length ≤ ss.length := by
  induction ss using snocInd with
  | h0 => exact Nat.le_refl _
  | h1 xs x ih =>
    rw [uq_snoc, List.length_append, List.length_singleton]
    split
    · omega
    · rw [List.length_append, List.length_singleton]; omega
theorem uq_map {β : Type} [DecidableEq β] {f : α → Option β} (hf : ∀ x y b, f x = some b → f y = some b → x = y) (ss : List α) : (uq ss).filterMap f = uq (ss.filterMap f) := by
  induction ss using snocInd with
  | h0 => rfl
  | h1 xs x ih =>
    rw [uq_snoc, List.filterMap_append]
    cases e : f x with
    | none =>
      rw [show [x].filterMap f = [] by rw [List.filterMap_cons, e] <;> rfl, List.append_nil, ← ih]
      split
      · rfl
      · rw [List.filterMap_append, show [x].filterMap f = [] by rw [List.filterMap_cons, e] <;> rfl, List.append_nil]
    | some b =>
      rw [show [x].filterMap f = [b] by rw [List.filterMap_cons, e] <;> rfl, uq_snoc, ← ih]
      have hm : x ∈ uq xs ↔ b ∈ (uq xs).filterMap f := by
        rw [List.mem_filterMap]
        exact ⟨fun h => ⟨x, h, e⟩, fun ⟨y, h1, h2⟩ => (hf x y b e h2) ▸ h1⟩
      by_cases h : x ∈ uq xs
      · rw [if_pos h, if_pos (hm.mp h)]
      · rw [if_neg h, if_neg (fun z => h (hm.mpr z)), List.filterMap_append, show [x].filterMap f = [b] by rw [List.filterMap_cons, e] <;> rfl]
end
theorem uniq_uq (ss : List Str) : uniq ss = uq ss := rfl
/-! ### numbers in order -/
def sortN (ns : List Nat) : List Nat := ns.mergeSort fun a b => decide (a ≤ b)
theorem sortN_perm (ns : List Nat) : (sortN ns).Perm ns := List.mergeSort_perm _ _
theorem sortN_up (ns : List Nat) : (sortN ns).Pairwise (· ≤ ·) := by
  have h := List.pairwise_mergeSort (le := fun a b : Nat => decide (a ≤ b)) (fun a b c h1 h2 => decide_eq_true (Nat.le_trans (of_decide_eq_true h1) (of_decide_eq_true h2))) (fun a b => by
    rw [Bool.or_eq_true, decide_eq_true_eq, decide_eq_true_eq]
    omega) ns
  exact h.imp fun z => of_decide_eq_true z
theorem perm_up {a b : List Int} (p : a.Perm b) (ha : a.Pairwise (· ≤ ·)) (hb : b.Pairwise (· ≤ ·)) : a = b := by
  induction a generalizing b with
  | nil => exact p.nil_eq
  | cons x xs ih =>
    cases b with
    | nil => exact absurd p.symm.nil_eq (by simp)
    | cons y ys =>
      rw [List.pairwise_cons] at ha hb
      have e : x = y := by
        have h1 : y ∈ x :: xs := p.mem_iff.mpr (by simp)
        have h2 : x ∈ y :: ys := p.mem_iff.mp (by simp)
        rcases List.mem_cons.mp h1 with h1 | h1
        · exact h1.symm
        · rcases List.mem_cons.mp h2 with h2 | h2
          · exact h2
          · have := ha.1 y h1
            have := hb.1 x h2
            omega
      subst e
      rw [ih p.cons_inv ha.2 hb.2]
theorem sorted_nat {ns : List Nat} {zs : List Int} (p : zs.Perm (ns.map fun (n : Nat) => (n : Int))) (u : zs.Pairwise (· ≤ ·)) : zs = (sortN ns).map fun (n : Nat) => (n : Int) := by
  refine perm_up (p.trans ((sortN_perm ns).symm.map _)) u ?_
  rw [List.pairwise_map]
  exact (sortN_up ns).imp fun h => by omega
end Lv
/-! #### Sh -/
namespace Lv
open PySem L2 StX PyProof PyProof.Rows
/-! ### shapes, equality of data -/
theorem layAll {ds : List PyData} (h : ∀ d ∈ ds, d.canLay0 = true) : PyData.canLayAll0 ds = true := by
  induction ds with
  | nil => rw [PyData.canLayAll0]
  | cons d r ih => rw [PyData.canLayAll0, h d (by simp), ih fun e he => h e (List.mem_cons_of_mem _ he)]; rfl
theorem depAll {ds : List PyData} {m : Nat} (h : ∀ d ∈ ds, d.depth ≤ m) : PyData.depthAll ds ≤ m := by
  induction ds with
  | nil => rw [PyData.depthAll]; omega
  | cons d r ih =>
    rw [PyData.depthAll]
    have h1 := h d (by simp)
    have h2 := ih fun e he => h e (List.mem_cons_of_mem _ he)
    omega
/-- of known depth -/
def Shp (m : Nat) (d : PyData) : Prop := d.canLay0 = true ∧ d.depth ≤ m
theorem shp_int {m : Nat} (i : Int) : Shp m (.int i) := ⟨by rw [PyData.canLay0], by rw [PyData.depth]; omega⟩
theorem shp_str {m : Nat} {x : Str} (h : PyData.strOk x = true) : Shp m (.str x) := ⟨by rw [PyData.canLay0]; exact h, by rw [PyData.depth]; omega⟩
theorem shp_list {m : Nat} {ds : List PyData} (h : ∀ d ∈ ds, Shp m d) : Shp (m + 1) (.list ds) :=
  ⟨by rw [PyData.canLay0]; exact layAll fun d hd => (h d hd).1, by rw [PyData.depth]; have := depAll fun d hd => (h d hd).2; omega⟩
theorem shp_tup {m : Nat} {ds : List PyData} (h : ∀ d ∈ ds, Shp m d) : Shp (m + 1) (.tuple ds) :=
  ⟨by rw [PyData.canLay0]; exact layAll fun d hd => (h d hd).1, by rw [PyData.depth]; have := depAll fun d hd => (h d hd).2; omega⟩
theorem Shp.ok {m : Nat} {d : PyData} (h : Shp m d) (hm : m ≤ 64) : SeqAt.shaped d = true := by
  unfold SeqAt.shaped
  rw [h.1, decide_eq_true (Nat.le_trans h.2 hm)]
  rfl
theorem shp_nil : SeqAt.shaped (.list []) = true := (shp_list (m := 0) fun d hd => by cases hd).ok (by decide)
theorem strOk_nm {x : Str} (h : nmB x = true) : PyData.strOk x = true := by
  obtain ⟨_, h2⟩ := Bool.and_eq_true_iff.mp h
  unfold PyData.strOk
  rw [Array.all_eq_true_iff_forall_mem]
  intro c hc
  have h3 := List.all_eq_true.mp h2 c (Array.mem_toList_iff.mpr hc)
  have h4 : c ∈ letS.cps.toList := of_decide_eq_true h3
  have h5 : ∀ c ∈ letS.cps.toList, decide (c < 0x110000) = true := by decide +kernel
  exact h5 c h4
theorem eqv_nil_cons (d : PyData) (ds : List PyData) : PyData.eqv (.list (d :: ds)) (.list []) = false := by rw [PyData.eqv, PyData.eqvAll]
theorem eqv_nil : PyData.eqv (.list []) (.list []) = true := by rw [PyData.eqv, PyData.eqvAll]
theorem eqv_empty (ds : List PyData) : PyData.eqv (.list ds) (.list []) = ds.isEmpty := by
  cases ds with
  | nil => exact eqv_nil
  | cons d r => exact eqv_nil_cons d r
end Lv
/-! #### D3 -/
namespace Lv
open PySem L2 StX PyProof.Rows
local macro_rules | `(tactic| walk_at "lv1") => `(tactic| first
  | with_reducible refine go_seq ?_
  | with_reducible refine go_set ?_
  | with_reducible refine go_ret ?_
  | with_reducible refine go_drop ?_
  | with_reducible refine go_if ?_
  | with_reducible refine ev_op ?_
  | with_reducible refine ev_cb ?_
  | with_reducible refine ea_cons ?_
  | with_reducible refine ea_nil ?_
  | refine ev_var rfl ?_
  | with_reducible refine ev_int ?_
  | with_reducible refine ev_str ?_
  | with_reducible refine ev_bl ?_
  | with_reducible refine ev_ty ?_
  | with_reducible refine ev_non ?_
  | with_reducible refine ev_cls ?_
  | with_reducible refine ev_un ?_
  | with_reducible refine ev_fld ?_
  | with_reducible refine ev_andV ?_
  | with_reducible refine ev_notV ?_
  | with_reducible refine ev_ifE ?_
  | with_reducible refine ev_chain ?_
  | with_reducible refine et_test ?_
  | with_reducible refine et_B ?_
  | with_reducible refine et_and ?_
  | with_reducible refine et_or ?_
  | with_reducible refine et_not ?_
  | with_reducible refine et_yes ?_
  | with_reducible refine ov_add ?_
  | with_reducible refine ov_sub ?_
  | with_reducible refine ov_lt ?_
  | with_reducible refine ov_le ?_
  | with_reducible refine ov_gt ?_
  | with_reducible refine ov_ge ?_
  | with_reducible refine ov_neg ?_
  | with_reducible refine ov_eqI ?_
  | with_reducible refine ov_neI ?_
  | with_reducible refine ov_eqS ?_
  | with_reducible refine ov_inSg ?_
  | with_reducible refine ov_inS ?_
  | with_reducible refine ov_inI ?_
  | with_reducible refine cv_lenL ?_
  | with_reducible refine cv_lenT ?_
  | with_reducible refine cv_max2 ?_
  | with_reducible refine cv_min2 ?_
  | with_reducible refine cv_intI ?_
  | with_reducible refine cv_intB ?_
  | with_reducible refine cv_tuple ?_
  | with_reducible refine cv_list (.inl rfl) ?_
  | with_reducible refine cv_list (.inr rfl) ?_
  | refine ov_ixT (n := 0) rfl ?_
  | refine ov_ixT (n := 1) rfl ?_
  | refine ov_ixT (n := 2) rfl ?_
  | refine ov_ixT (n := 3) rfl ?_
  | refine ov_ixL (n := 0) rfl ?_
  | refine ov_ixL (n := 1) rfl ?_
  | refine ov_ixL (n := 2) rfl ?_
  | refine iteT ?_
  | refine iteF ?_
  | with_reducible refine iteN (b := !true) rfl ?_
  | with_reducible refine iteP (b := !false) rfl ?_
  | with_reducible refine go_next ?_
  | refine ⟨_, rfl, ?_⟩)
local macro_rules | `(tactic| walk_at "lv") => `(tactic| repeat walk_at "lv1")
variable {P : Program} {w : World} {K : PySem.W.Frag} {mg : Str → Option Value} {base : Heap} {T : Tb}
/-! ### trees -/
theorem en_use (n : Str) : (Tr.use n).en = .tuple [.str "use", .str n] := by rw [Tr.en]
theorem en_join (l : Str) (ps : List Tr) : (Tr.join l ps).en = .tuple [.str "join", .str l, .tuple (ps.map Tr.en)] := by rw [Tr.en, Tr.enL_map]
theorem en_bind (l : Str) (ps : List Tr) (b : Tr) : (Tr.bind l ps b).en = .tuple [.str "bind", .str l, .tuple (ps.map Tr.en), b.en] := by rw [Tr.en, Tr.enL_map]
abbrev spIsTree (T : Tb) (n : Nat) : Sp := SpP T Tr (fun t => [Mo.d t.en]) (fun t => t.size ≤ n ∧ t.allN (fun x => nmB x = true)) (fun _ => Mo.d (.bool true))
abbrev spAreTrees (T : Tb) (n : Nat) : Sp := SpP T (List Tr) (fun ts => [Mo.d (.tuple (ts.map Tr.en))]) (fun ts => Tr.sizeL ts ≤ n ∧ n ≤ 1000 ∧ Tr.allNL (fun x => nmB x = true) ts) (fun _ => Mo.d (.bool true))
-- slots of is_tree: 0 value
theorem sc_is_tree : FnScope ["value"] ["value"] (defScope s_is_tree) := ⟨rfl, rfl, rfl, by decide +kernel, rfl, by decide +kernel, by decide +kernel⟩
-- slots of are_trees: 0 value, 1 one
theorem sc_are_trees : FnScope ["value", "one"] ["value"] (defScope s_are_trees) := ⟨rfl, rfl, rfl, by decide +kernel, rfl, by decide +kernel, by decide +kernel⟩
theorem ok_are_trees (c : Fc K mg) {n : Nat} (C_is_tree : Cal P w K mg base (2 * n + 2) "is_tree" ["value"] (spIsTree T n)) : Cal P w K mg base (2 * n + 3) "are_trees" ["value"] (spAreTrees T n) := by
  obtain ⟨fd, F⟩ := c.f_are_trees
  refine fn_mk F c.g_are_trees (fn_okP F sc_are_trees (fun _ => rfl) (by decide) fun ts hs cdv Ar outer s Hs Ex hr => ⟨_, (pss_one (ps_ret (pe_and (pe_callB (call_isiB (K0 := K)) rfl c.b_isinstance boot_isinstance (pa_cons (pv 0) (pa_cons (bl_ty boot_tuple c.b_tuple) pa_nil))) (pe_one (pe_callB (cr_all rfl) rfl c.b_all boot_all (pa_cons (pe_lc (own := [("one", 1)]) rfl sc_are_trees.nd (pi_tupB (K0 := K) (pv 0)) (blkOk_by (N := ["value", "one"]) (sc := defScope s_are_trees) (by decide +kernel)) (fun _ _ _ _ _ => (tn 1 sc_are_trees.nd)) (fun _ _ _ _ _ => pts_nil) (fun _ _ _ _ _ => (pe_fn C_is_tree (hr.mono (by omega)) (pa_cons (pv 1) pa_nil)))) pa_nil)))))), fun G H A0 Q kQ => ?_⟩) (fun _ _ _ _ _ _ us hl => match us, hl with | [_], _ => rfl)
  walk_at "lv"
  refine cv_isi (b := true) "tuple" rfl (by decide +kernel) ?_
  walk_at "lv"
  refine ev_lcB Tr.en (fun _ => .bool true) (ei_tup (ev_var rfl ⟨_, rfl, ts, rfl, sz_small (by have := Tr.len_sizeL ts; omega), fun x hx => ⟨_, tgt_name (by simp), ?_⟩, ?_⟩))
  · refine ev_callP ?_
    walk_at "lv"
    exact ⟨⟨Nat.le_trans (Tr.mem_sizeL hx) hs.1, Tr.mem_allNL hx hs.2.2⟩, rfl, rfl⟩
  · walk_at "lv"
    rw [show ts.map (fun _ => PyData.bool true) = (ts.map fun _ => true).map PyData.bool by rw [List.map_map] <;> rfl]
    refine cv_all ?_
    rw [show (ts.map fun _ => true).all id = true by simp]
    exact kQ _
theorem ok_is_tree (c : Fc K mg) {n : Nat} (hn : n ≤ 999) (C_is_tree : Cal P w K mg base (2 * n + 2) "is_tree" ["value"] (spIsTree T n)) (C_are_trees : Cal P w K mg base (2 * n + 3) "are_trees" ["value"] (spAreTrees T n)) : Cal P w K mg base (2 * (n + 1) + 2) "is_tree" ["value"] (spIsTree T (n + 1)) := by
  have C_is_name : Cal P w K mg base 1 "is_name" ["value"] (spIsName T) := ok_is_name c
  obtain ⟨fd, F⟩ := c.f_is_tree
  refine fn_mk F c.g_is_tree (fn_okP F sc_is_tree (fun _ => rfl) (by decide) fun t ht cdv Ar outer s Hs Ex hr => ⟨_, (pss_cons (ps_if (PW.pt (pw_or (pt_not (pt_val (pe_callB (call_isiB (K0 := K)) rfl c.b_isinstance boot_isinstance (pa_cons (pv 0) (pa_cons (bl_ty boot_tuple c.b_tuple) pa_nil))))) (pw_or (pt_not (pt_chain op_le op_le pe_int (pe_callB (c_lenB (K0 := K)) rfl c.b_len boot_len (pa_cons (pv 0) pa_nil)) pe_int)) (pw_or1 (pt_not (pt_val (pe_fn C_is_name (hr.mono (by omega)) (pa_cons (pe_ix (ix_seqB (K0 := K)) (pv 0) pe_int (fun _ _ => rfl)) pa_nil)))))))) (pss_one (ps_ret pe_bl)) pss_nil)
      (pss_cons (ps_if (pt_not (pt_val (pe_callB (call_isiB (K0 := K)) rfl c.b_isinstance boot_isinstance (pa_cons (pe_ix (ix_seqB (K0 := K)) (pv 0) pe_int (fun _ _ => rfl)) (pa_cons (bl_ty boot_str c.b_str) pa_nil))))) (pss_one (ps_ret pe_bl)) pss_nil)
      (pss_cons (ps_if (pt_cmpR op_eq (pe_ix (ix_seqB (K0 := K)) (pv 0) pe_int (fun _ _ => rfl)) pe_str (nomark _)) (pss_one (ps_ret (pe_cmpR op_eq (pe_callB (c_lenB (K0 := K)) rfl c.b_len boot_len (pa_cons (pv 0) pa_nil)) pe_int (nomark _)))) pss_nil)
      (pss_cons (ps_if (pt_cmpR op_eq (pe_ix (ix_seqB (K0 := K)) (pv 0) pe_int (fun _ _ => rfl)) pe_str (nomark _)) (pss_one (ps_ret (pe_and (pe_cmpR op_eq (pe_callB (c_lenB (K0 := K)) rfl c.b_len boot_len (pa_cons (pv 0) pa_nil)) pe_int (nomark _)) (pe_one (pe_fn C_are_trees (hr.mono (by omega)) (pa_cons (pe_ix (ix_seqB (K0 := K)) (pv 0) pe_int (fun _ _ => rfl)) pa_nil)))))) pss_nil)
      (pss_one (ps_ret (pe_and (pe_cmpR op_eq (pe_ix (ix_seqB (K0 := K)) (pv 0) pe_int (fun _ _ => rfl)) pe_str (nomark _)) (pe_and (pe_cmpR op_eq (pe_callB (c_lenB (K0 := K)) rfl c.b_len boot_len (pa_cons (pv 0) pa_nil)) pe_int (nomark _)) (pe_and (pe_fn C_are_trees (hr.mono (by omega)) (pa_cons (pe_ix (ix_seqB (K0 := K)) (pv 0) pe_int (fun _ _ => rfl)) pa_nil)) (pe_one (pe_fn C_is_tree (hr.mono (by omega)) (pa_cons (pe_ix (ix_seqB (K0 := K)) (pv 0) pe_int (fun _ _ => rfl)) pa_nil)))))))))))), fun G H A0 Q kQ => ?_⟩) (fun _ _ _ _ _ _ us hl => match us, hl with | [_], _ => rfl)
  obtain ⟨h1, h2⟩ := ht
  cases t with
  | use x =>
    rw [Tr.allN] at h2
    rw [en_use]
    walk_at "lv"
    refine cv_isi (b := true) "tuple" rfl (by decide +kernel) ?_
    walk_at "lv"
    refine ev_callP ?_
    walk_at "lv"
    refine ⟨h2, ?_⟩
    walk_at "lv"
    refine cv_isi (b := true) "str" rfl (by decide +kernel) ?_
    walk_at "lv"
    exact kQ _
  | join l ps =>
    rw [Tr.allN] at h2
    rw [Tr.size] at h1
    rw [en_join]
    walk_at "lv"
    refine cv_isi (b := true) "tuple" rfl (by decide +kernel) ?_
    walk_at "lv"
    refine ev_callP ?_
    walk_at "lv"
    refine ⟨h2.1, ?_⟩
    walk_at "lv"
    refine cv_isi (b := true) "str" rfl (by decide +kernel) ?_
    walk_at "lv"
    refine ev_callP ?_
    walk_at "lv"
    exact ⟨⟨by omega, by omega, h2.2⟩, kQ _⟩
  | bind l ps b =>
    rw [Tr.allN] at h2
    rw [Tr.size] at h1
    rw [en_bind]
    walk_at "lv"
    refine cv_isi (b := true) "tuple" rfl (by decide +kernel) ?_
    walk_at "lv"
    refine ev_callP ?_
    walk_at "lv"
    refine ⟨h2.1, ?_⟩
    walk_at "lv"
    refine cv_isi (b := true) "str" rfl (by decide +kernel) ?_
    walk_at "lv"
    refine ev_callP ?_
    walk_at "lv"
    refine ⟨⟨by omega, by omega, h2.2.1⟩, ?_⟩
    walk_at "lv"
    refine ev_callP ?_
    walk_at "lv"
    exact ⟨⟨by omega, h2.2.2⟩, kQ _⟩
theorem trees_ok (c : Fc K mg) : ∀ n : Nat, n ≤ 999 → Cal P w K mg base (2 * n + 2) "is_tree" ["value"] (spIsTree T n) ∧ Cal P w K mg base (2 * n + 3) "are_trees" ["value"] (spAreTrees T n)
  | 0, _ => by
    have h : Cal P w K mg base (2 * 0 + 2) "is_tree" ["value"] (spIsTree T 0) := by
      obtain ⟨fd, F⟩ := c.f_is_tree
      exact fn_mk F c.g_is_tree (fn_vac fun t h => by have := t.size_pos; have := h.1; omega) (fun _ _ _ _ _ _ us hl => match us, hl with | [_], _ => rfl)
    exact ⟨h, ok_are_trees c h⟩
  | n + 1, hn => by
    obtain ⟨a, b⟩ := trees_ok c n (by omega)
    have h := ok_is_tree c (by omega) a b
    exact ⟨h, ok_are_trees c h⟩
/-! ### deep -/
def Tr.kids : Tr → List Tr
  | .use _ => []
  | .join _ ps => ps
  | .bind _ ah b => ah ++ [b]
theorem Tr.kids_size {t u : Tr} (h : u ∈ t.kids) : u.size < t.size := by
  cases t with
  | use x => cases h
  | join l ps =>
    have := Tr.mem_sizeL (show u ∈ ps from h)
    rw [Tr.size]
    omega
  | bind l ps b =>
    rw [Tr.size]
    rcases List.mem_append.mp (show u ∈ ps ++ [b] from h) with h | h
    · have := Tr.mem_sizeL h
      omega
    · rw [List.mem_singleton.mp h]
      omega
theorem Tr.kids_len (t : Tr) : t.kids.length ≤ t.size := by
  cases t with
  | use x => exact Nat.zero_le _
  | join l ps =>
    have := Tr.len_sizeL ps
    show ps.length ≤ _
    rw [Tr.size]
    omega
  | bind l ps b =>
    have := Tr.len_sizeL ps
    have := b.size_pos
    show (ps ++ [b]).length ≤ _
    rw [Tr.size, List.length_append, List.length_singleton]
    omega
abbrev spPartsOf (T : Tb) : Sp := SpP T Tr (fun t => [Mo.d t.en]) (fun t => t.size ≤ 999) (fun t => Mo.d (.list (t.kids.map Tr.en)))
-- slots of parts_of: 0 tree
theorem sc_parts_of : FnScope ["tree"] ["tree"] (defScope s_parts_of) := ⟨rfl, rfl, rfl, by decide +kernel, rfl, by decide +kernel, by decide +kernel⟩
theorem ok_parts_of (c : Fc K mg) : Cal P w K mg base 1 "parts_of" ["tree"] (spPartsOf T) := by
  obtain ⟨fd, F⟩ := c.f_parts_of
  refine fn_mk F c.g_parts_of (fn_okP F sc_parts_of (fun _ => rfl) (by decide) fun t ht cdv Ar outer s Hs Ex hr => ⟨_, (pss_cons (ps_if (pt_cmpR op_eq (pe_ix (ix_seqB (K0 := K)) (pv 0) pe_int (fun _ _ => rfl)) pe_str (nomark _)) (pss_one (ps_ret (pe_lst pa_nil))) pss_nil)
      (pss_one (ps_ret (pe_ifExp (pt_cmpR op_eq (pe_ix (ix_seqB (K0 := K)) (pv 0) pe_int (fun _ _ => rfl)) pe_str (nomark _)) (pe_callTy (c_listB (K0 := K)) rfl c.b_list boot_list (pa_cons (pe_ix (ix_seqB (K0 := K)) (pv 0) pe_int (fun _ _ => rfl)) pa_nil)) (pe_lst (pa_starB (K0 := K) (pe_ix (ix_seqB (K0 := K)) (pv 0) pe_int (fun _ _ => rfl)) (pa_cons (pe_ix (ix_seqB (K0 := K)) (pv 0) pe_int (fun _ _ => rfl)) pa_nil))))))), fun G H A0 Q kQ => ?_⟩) (fun _ _ _ _ _ _ us hl => match us, hl with | [_], _ => rfl)
  cases t with
  | use x =>
    rw [en_use]
    walk_at "lv"
    refine ev_lst (ea_nil ⟨[], rfl, by simp, ?_⟩)
    exact kQ _
  | join l ps =>
    rw [en_join]
    walk_at "lv"
    exact kQ _
  | bind l ps b =>
    rw [en_bind]
    walk_at "lv"
    refine ev_lst (ea_star ?_)
    walk_at "lv"
    refine ⟨_, .inr rfl, ?_⟩
    walk_at "lv"
    have h1 := Tr.len_sizeL ps
    have h2 := b.size_pos
    rw [Tr.size] at ht
    refine ⟨(ps ++ [b]).map Tr.en, by rw [List.map_append, List.map_append] <;> rfl, sz_small (by rw [List.length_map, List.length_append, List.length_singleton]; omega), kQ _⟩
/-! how deep -/
mutual
def Tr.dep : Tr → Nat
  | .use _ => 1
  | .join _ ps => 1 + Tr.depL ps
  | .bind _ ah b => 1 + max (Tr.depL ah) b.dep
def Tr.depL : List Tr → Nat
  | [] => 0
  | t :: ts => max t.dep (Tr.depL ts)
end
mutual
theorem Tr.dep_size : ∀ t : Tr, t.dep ≤ t.size
  | .use _ => by rw [Tr.dep, Tr.size]; omega
  | .join _ ps => by have := Tr.depL_size ps; rw [Tr.dep, Tr.size]; omega
  | .bind _ ah b => by have := Tr.depL_size ah; have := b.dep_size; rw [Tr.dep, Tr.size]; omega
theorem Tr.depL_size : ∀ ts : List Tr, Tr.depL ts ≤ Tr.sizeL ts
  | [] => by rw [Tr.depL]; omega
  | t :: ts => by have := Tr.depL_size ts; have := t.dep_size; rw [Tr.depL, Tr.sizeL]; omega
end
theorem Tr.mem_depL {t : Tr} : ∀ {ts : List Tr}, t ∈ ts → t.dep ≤ Tr.depL ts
  | a :: ts, h => by
    rw [Tr.depL]
    rcases List.mem_cons.mp h with h | h
    · rw [h]; omega
    · have := Tr.mem_depL h
      omega
theorem Tr.depL_le {m : Nat} : ∀ {ts : List Tr}, (∀ t ∈ ts, t.dep ≤ m) → Tr.depL ts ≤ m
  | [], _ => by rw [Tr.depL]; omega
  | a :: ts, h => by
    rw [Tr.depL]
    have h1 := h a (by simp)
    have h2 := Tr.depL_le fun t ht => h t (List.mem_cons_of_mem _ ht)
    omega
theorem Tr.depL_app : ∀ a b : List Tr, Tr.depL (a ++ b) = max (Tr.depL a) (Tr.depL b)
  | [], b => by rw [List.nil_append, Tr.depL]; omega
  | t :: a, b => by rw [List.cons_append, Tr.depL, Tr.depL, Tr.depL_app a b]; omega
theorem Tr.dep_kids (t : Tr) : t.dep = 1 + Tr.depL t.kids := by
  cases t with
  | use x => show _ = 1 + Tr.depL []; rw [Tr.dep, Tr.depL]
  | join l ps => rw [Tr.dep]; rfl
  | bind l ps b =>
    rw [Tr.dep]
    show _ = 1 + Tr.depL (ps ++ [b])
    rw [Tr.depL_app, Tr.depL, Tr.depL, Nat.max_zero]
abbrev spDeepOf (T : Tb) (n : Nat) : Sp := SpP T Tr (fun t => [Mo.d t.en]) (fun t => t.size ≤ n) (fun t => Mo.d (.int (t.dep : Int)))
-- slots of deep_of: 0 tree, 1 part
theorem sc_deep_of : FnScope ["tree", "part"] ["tree"] (defScope s_deep_of) := ⟨rfl, rfl, rfl, by decide +kernel, rfl, by decide +kernel, by decide +kernel⟩
theorem ok_deep_of (c : Fc K mg) {n : Nat} (hn : n < 999) (C_deep_of : Cal P w K mg base (n + 2) "deep_of" ["tree"] (spDeepOf T n)) : Cal P w K mg base (n + 3) "deep_of" ["tree"] (spDeepOf T (n + 1)) := by
  have C_parts_of : Cal P w K mg base 1 "parts_of" ["tree"] (spPartsOf T) := ok_parts_of c
  obtain ⟨fd, F⟩ := c.f_deep_of
  refine fn_mk F c.g_deep_of (fn_okP F sc_deep_of (fun _ => rfl) (by decide) fun t ht cdv Ar outer s Hs Ex hr => ⟨_, (pss_one (ps_ret (pe_op op_add pe_int (pe_callB (cr_max rfl) rfl c.b_max boot_max (pa_cons (pe_lst (pa_cons pe_int (pa_starB (K0 := K) (pe_lc (own := [("part", 1)]) rfl sc_deep_of.nd (pi_listB (K0 := K) (pe_fn C_parts_of (hr.mono (by omega)) (pa_cons (pv 0) pa_nil))) (blkOk_by (N := ["tree", "part"]) (sc := defScope s_deep_of) (by decide +kernel)) (fun _ _ _ _ _ => (tn 1 sc_deep_of.nd)) (fun _ _ _ _ _ => pts_nil) (fun _ _ _ _ _ => (pe_callTy c_int rfl c.b_int boot_int (pa_cons (pe_fn C_deep_of (hr.mono (by omega)) (pa_cons (pv 1) pa_nil)) pa_nil)))) pa_nil))) pa_nil))))), fun G H A0 Q kQ => ?_⟩) (fun _ _ _ _ _ _ us hl => match us, hl with | [_], _ => rfl)
  walk_at "lv"
  refine ev_lst (ea_cons (ev_int (ea_star ?_)))
  have hl := t.kids_len
  refine ev_lcB Tr.en (fun u => .int (u.dep : Int)) (ei_list (ev_callP ?_))
  walk_at "lv"
  refine ⟨by omega, _, rfl, t.kids, rfl, sz_small (by omega), fun u hu => ⟨_, tgt_name (by simp), ?_⟩, ?_⟩
  · walk_at "lv"
    refine ev_callP ?_
    walk_at "lv"
    have := Tr.kids_size hu
    refine ⟨by omega, ?_⟩
    walk_at "lv"
    exact ⟨rfl, rfl⟩
  · refine ⟨_, .inl rfl, ?_⟩
    walk_at "lv"
    refine ⟨(0 :: t.kids.map fun u => (u.dep : Int)).map PyData.int, by rw [List.map_cons, List.map_cons, List.append_nil, List.map_map, List.map_map, List.map_map] <;> rfl, sz_small (by simp; omega), ?_⟩
    walk_at "lv"
    refine cv_maxL (by simp) fun m hm h => ?_
    walk_at "lv"
    have e : m = (Tr.depL t.kids : Int) := by
      refine Int.le_antisymm ?_ ?_
      · rcases List.mem_cons.mp hm with hm | hm
        · omega
        · obtain ⟨u, hu, rfl⟩ := List.mem_map.mp hm
          have := Tr.mem_depL hu
          omega
      · have h0 := h 0 (by simp)
        have := Tr.depL_le (m := m.toNat) fun u hu => by
          have := h (u.dep : Int) (List.mem_cons_of_mem _ (List.mem_map_of_mem hu))
          omega
        omega
    rw [e, show (1 : Int) + (Tr.depL t.kids : Int) = (t.dep : Int) by rw [t.dep_kids]; omega]
    exact kQ _
theorem deep_ok (c : Fc K mg) : ∀ n : Nat, n ≤ 999 → Cal P w K mg base (n + 2) "deep_of" ["tree"] (spDeepOf T n)
  | 0, _ => by
    obtain ⟨fd, F⟩ := c.f_deep_of
    exact fn_mk F c.g_deep_of (fn_vac fun t h => by have h : t.size ≤ 0 := h; have := t.size_pos; omega) (fun _ _ _ _ _ _ us hl => match us, hl with | [_], _ => rfl)
  | n + 1, hn => ok_deep_of c (by omega) (deep_ok c n (by omega))
end Lv
/-! #### D4 -/
namespace Lv
open PySem L2 StX PyProof.Rows
local macro_rules | `(tactic| walk_at "lv1") => `(tactic| first
  | with_reducible refine go_seq ?_
  | with_reducible refine go_set ?_
  | with_reducible refine go_ret ?_
  | with_reducible refine go_drop ?_
  | with_reducible refine go_if ?_
  | with_reducible refine ev_op ?_
  | with_reducible refine ev_cb ?_
  | with_reducible refine ea_cons ?_
  | with_reducible refine ea_nil ?_
  | refine ev_var rfl ?_
  | with_reducible refine ev_int ?_
  | with_reducible refine ev_str ?_
  | with_reducible refine ev_bl ?_
  | with_reducible refine ev_ty ?_
  | with_reducible refine ev_non ?_
  | with_reducible refine ev_cls ?_
  | with_reducible refine ev_un ?_
  | with_reducible refine ev_fld ?_
  | with_reducible refine ev_andV ?_
  | with_reducible refine ev_notV ?_
  | with_reducible refine ev_ifE ?_
  | with_reducible refine ev_chain ?_
  | with_reducible refine et_test ?_
  | with_reducible refine et_B ?_
  | with_reducible refine et_and ?_
  | with_reducible refine et_or ?_
  | with_reducible refine et_not ?_
  | with_reducible refine et_yes ?_
  | with_reducible refine ov_add ?_
  | with_reducible refine ov_sub ?_
  | with_reducible refine ov_lt ?_
  | with_reducible refine ov_le ?_
  | with_reducible refine ov_gt ?_
  | with_reducible refine ov_ge ?_
  | with_reducible refine ov_neg ?_
  | with_reducible refine ov_eqI ?_
  | with_reducible refine ov_neI ?_
  | with_reducible refine ov_eqS ?_
  | with_reducible refine ov_inSg ?_
  | with_reducible refine ov_inS ?_
  | with_reducible refine ov_inI ?_
  | with_reducible refine cv_lenL ?_
  | with_reducible refine cv_lenT ?_
  | with_reducible refine cv_max2 ?_
  | with_reducible refine cv_min2 ?_
  | with_reducible refine cv_intI ?_
  | with_reducible refine cv_intB ?_
  | with_reducible refine cv_tuple ?_
  | with_reducible refine cv_list (.inl rfl) ?_
  | with_reducible refine cv_list (.inr rfl) ?_
  | refine ov_ixT (n := 0) rfl ?_
  | refine ov_ixT (n := 1) rfl ?_
  | refine ov_ixT (n := 2) rfl ?_
  | refine ov_ixT (n := 3) rfl ?_
  | refine ov_ixL (n := 0) rfl ?_
  | refine ov_ixL (n := 1) rfl ?_
  | refine ov_ixL (n := 2) rfl ?_
  | refine iteT ?_
  | refine iteF ?_
  | with_reducible refine iteN (b := !true) rfl ?_
  | with_reducible refine iteP (b := !false) rfl ?_
  | with_reducible refine go_next ?_
  | refine ⟨_, rfl, ?_⟩)
local macro_rules | `(tactic| walk_at "lv") => `(tactic| repeat walk_at "lv1")
variable {P : Program} {w : World} {K : PySem.W.Frag} {mg : Str → Option Value} {base : Heap} {T : Tb}
/-! ### Flat -/
def natL (ns : List Nat) : List PyData := ns.map fun (n : Nat) => PyData.int (n : Int)
structure FA where
  p : Addr
  a1 : Addr
  a2 : Addr
  a3 : Addr
  a4 : Addr
  L : List Nd
  t : Tr
  ar : List Nat
abbrev flM (K : PySem.W.Frag) (p a1 a2 a3 a4 : Addr) (N A B U : List PyData) : Mus :=
  [(p, Mu.ins (He.ga K "Flat") [("nodes", Mo.adr a1), ("around", Mo.adr a2), ("binder_nodes", Mo.adr a3), ("use_nodes", Mo.adr a4)]), (a1, Mu.dl N), (a2, Mu.dl A), (a3, Mu.dl B), (a4, Mu.dl U)]
abbrev flMu (K : PySem.W.Frag) (p a1 a2 a3 a4 : Addr) (L : List Nd) : Mus := flM K p a1 a2 a3 a4 (L.map fun q => q.1.en) (L.map fun q => .tuple (natL q.2)) (natL (ixs Tr.isB L 0)) (natL (ixs Tr.isU L 0))
abbrev FA.mu (K : PySem.W.Frag) (a : FA) : Mus := flMu K a.p a.a1 a.a2 a.a3 a.a4 a.L
abbrev FA.end_ (a : FA) : List Nd := a.L ++ fl a.t a.ar (bnd a.L).length
abbrev spAdd (T : Tb) (K : PySem.W.Frag) (n : Nat) : Sp := SpG T FA (fun a => [Mo.adr a.p, Mo.d a.t.en, Mo.d (.tuple (natL a.ar))]) (FA.mu K) (fun a => a.t.size ≤ n ∧ a.L.length + a.t.size ≤ 1000 ∧ a.ar.length + a.t.size ≤ 1000) (fun a φ M => φ = Mo.d .none ∧ M = flMu K a.p a.a1 a.a2 a.a3 a.a4 a.end_)
theorem flL_app : ∀ (a b : List Tr) (ar : List Nat) (k : Nat), flL (a ++ b) ar k = flL a ar k ++ flL b ar (k + Tr.nbL a)
  | [], b, ar, k => by rw [List.nil_append, flL, List.nil_append, Tr.nbL, Nat.add_zero]
  | t :: a, b, ar, k => by rw [List.cons_append, flL, flL, flL_app a b, Tr.nbL, List.append_assoc, Nat.add_assoc]
theorem flL_one (t : Tr) (ar : List Nat) (k : Nat) : flL [t] ar k = fl t ar k := by rw [flL, flL, List.append_nil]
theorem bnd_ixs (L : List Nd) : (bnd L).length = (ixs Tr.isB L 0).length := by
  rw [ixs_len]
  unfold bnd
  rw [List.length_map]
theorem ixs_snoc (q : Tr → Bool) (L : List Nd) (t : Tr) (ar : List Nat) : ixs q (L ++ [(t, ar)]) 0 = if q t = true then ixs q L 0 ++ [L.length] else ixs q L 0 := by
  rw [ixs_app, Nat.zero_add]
  show _ ++ (if q t = true then L.length :: [] else []) = _
  split
  · rfl
  · rw [List.append_nil]
theorem bnd_snoc (L : List Nd) (t : Tr) (ar : List Nat) : (bnd (L ++ [(t, ar)])).length = if t.isB = true then (bnd L).length + 1 else (bnd L).length := by
  rw [bnd_ixs, bnd_ixs, ixs_snoc]
  split
  · rw [List.length_append, List.length_singleton]
  · rfl
theorem natL_len (ns : List Nat) : (natL ns).length = ns.length := by unfold natL; rw [List.length_map]
theorem natL_snoc (ns : List Nat) (n : Nat) : natL ns ++ [PyData.int (n : Int)] = natL (ns ++ [n]) := by unfold natL; rw [List.map_append] <;> rfl
theorem nbL_take {ps : List Tr} {k : Nat} {x : Tr} (h : ps[k]? = some x) : Tr.sizeL (ps.take (k + 1)) = Tr.sizeL (ps.take k) + x.size := by
  rw [take_succ' h, Tr.sizeL_app, Tr.sizeL, Tr.sizeL, Nat.add_zero]
theorem sizeL_take (ps : List Tr) (k : Nat) : Tr.sizeL (ps.take k) ≤ Tr.sizeL ps := by
  have h := Tr.sizeL_app (ps.take k) (ps.drop k)
  rw [List.take_append_drop] at h
  omega
theorem bnd_flL_len (L : List Nd) (ps : List Tr) (ar : List Nat) : (bnd (L ++ flL ps ar (bnd L).length)).length = (bnd L).length + Tr.nbL ps := by
  rw [bnd_app, List.length_append, bndL_len]
theorem add_loop {Z : Zo} {D : Ends} {n : Nat} {p a1 a2 a3 a4 : Addr} {L : List Nd} {ps : List Tr} {ar : List Nat} {x1 x3 x4 : Option Mo} {E : XK} (hZ : Z.T = T) (h1 : Tr.sizeL ps ≤ n) (h2 : L.length + Tr.sizeL ps ≤ 1000) (h3 : ar.length + Tr.sizeL ps ≤ 1000)
    (fin : ∀ y3, Go Z D.nx [some (Mo.adr p), x1, some (Mo.d (.tuple (natL ar))), y3, x4] (flMu K p a1 a2 a3 a4 (L ++ flL ps ar (bnd L).length))) :
    LoopD Z [3] (gName 3) (tDrop (tMeth (He.ga K "Flat") "add" (spAdd T K n) [] E (tVar 0) (tCons (tVar 3) (tCons (tVar 2) tNil)))) D ((ps.map Tr.en).map Mo.d) [some (Mo.adr p), x1, some (Mo.d (.tuple (natL ar))), x3, x4] (flMu K p a1 a2 a3 a4 L) := by
  subst hZ
  refine loopA Tr.en ps (fun k ρ M => ∃ y3, ρ = [some (Mo.adr p), x1, some (Mo.d (.tuple (natL ar))), y3, x4] ∧ M = flMu K p a1 a2 a3 a4 (L ++ flL (ps.take k) ar (bnd L).length)) ⟨x3, rfl, by rw [List.take_zero, flL, List.append_nil]⟩ ?_ ?_
  · rintro k x ρ1 M1 hk ⟨y3, rfl, rfl⟩
    refine ⟨_, tgt_name (by simp), fun A N hA hN => ?_⟩
    have hs := nbL_take hk
    have ht := sizeL_take ps (k + 1)
    refine go_drop (ev_meth (ev_var rfl ⟨.inl ⟨p, 0, _, rfl, rfl, rfl⟩, ea_cons (ev_var rfl (ea_cons (ev_var rfl (ea_nil ⟨⟨p, a1, a2, a3, a4, L ++ flL (ps.take k) ar (bnd L).length, x, ar⟩, [], rfl, rfl, ⟨?_, ?_, ?_⟩, ?_⟩))))⟩))
    · show x.size ≤ n
      omega
    · show (L ++ flL (ps.take k) ar (bnd L).length).length + x.size ≤ 1000
      rw [List.length_append, flL_len]
      omega
    · show ar.length + x.size ≤ 1000
      omega
    · rintro χ M' ⟨rfl, rfl⟩
      refine hN _ _ ⟨some (Mo.d x.en), rfl, ?_⟩
      show flMu K p a1 a2 a3 a4 ((L ++ flL (ps.take k) ar (bnd L).length) ++ fl x ar (bnd (L ++ flL (ps.take k) ar (bnd L).length)).length) = _
      rw [bnd_flL_len, take_succ' hk, flL_app, flL_one, List.append_assoc]
  · rintro ρ1 M1 ⟨y3, rfl, rfl⟩
    rw [List.take_length]
    exact fin y3
-- slots of Flat.add: 0 self, 1 tree, 2 around, 3 part, 4 number
theorem sc_Flat_add : FnScope ["self", "tree", "around", "part", "number"] ["self", "tree", "around"] (defScope s_Flat_add) := ⟨rfl, rfl, rfl, by decide +kernel, rfl, by decide +kernel, by decide +kernel⟩
theorem ok_add (c : Fc K mg) {n : Nat} (C_add : CalM P w K mg base (n + 1) (He.ga K "Flat") "add" ["self", "tree", "around"] (spAdd T K n)) : CalM P w K mg base (n + 2) (He.ga K "Flat") "add" ["self", "tree", "around"] (spAdd T K (n + 1)) := by
  obtain ⟨fd, F⟩ := c.f_Flat_add
  obtain ⟨f0, fd0, GG_add, MM_add, BB_add⟩ := C_add.ex
  refine ⟨_, fd, ?_, c.m_Flat_add, F.bindsN fun _ _ _ _ _ _ us hl => match us, hl with | [_, _, _], _ => rfl⟩
  refine fn_ok F sc_Flat_add (fun _ => rfl) (by decide) fun a ha cdv Ar outer s Hs Ex hr => ⟨_, (pss_cons (ps_expr (pe_bm PySem.F.plainAttrs_list PySem.F.slot_list_append PySem.F.type_list_append mt_append (pe_fldB (K0 := K) (pv 0) rfl) (pa_cons (pv 1) pa_nil)))
      (pss_cons (ps_expr (pe_bm PySem.F.plainAttrs_list PySem.F.slot_list_append PySem.F.type_list_append mt_append (pe_fldB (K0 := K) (pv 0) rfl) (pa_cons (pv 2) pa_nil)))
      (pss_one (ps_if (pt_cmpR op_eq (pe_ix (ix_seqB (K0 := K)) (pv 1) pe_int (fun _ _ => rfl)) pe_str (nomark _)) (pss_one (ps_expr (pe_bm PySem.F.plainAttrs_list PySem.F.slot_list_append PySem.F.type_list_append mt_append (pe_fldB (K0 := K) (pv 0) rfl) (pa_cons (pe_op op_sub (pe_callB (c_lenB (K0 := K)) rfl c.b_len boot_len (pa_cons (pe_fldB (K0 := K) (pv 0) rfl) pa_nil)) pe_int) pa_nil)))) (pss_one (ps_if (pt_cmpR op_eq (pe_ix (ix_seqB (K0 := K)) (pv 1) pe_int (fun _ _ => rfl)) pe_str (nomark _)) (pss_one (ps_for PassesOwn.never rfl (pi_tupB (K0 := K) (pe_ix (ix_seqB (K0 := K)) (pv 1) pe_int (fun _ _ => rfl))) (tn 3 sc_Flat_add.nd) (pss_one (ps_expr (pe_meth (pv 0) c.cls_Flat MM_add GG_add (hr.mono (by omega)) BB_add .nil pass0 (pa_cons (pv 3) (pa_cons (pv 2) pa_nil))))))) (pss_cons (ps_set (i := 4) sc_Flat_add.nd rfl (Or.inl rfl) (pe_callB (c_lenB (K0 := K)) rfl c.b_len boot_len (pa_cons (pe_fldB (K0 := K) (pv 0) rfl) pa_nil)))
      (pss_cons (ps_expr (pe_bm PySem.F.plainAttrs_list PySem.F.slot_list_append PySem.F.type_list_append mt_append (pe_fldB (K0 := K) (pv 0) rfl) (pa_cons (pe_op op_sub (pe_callB (c_lenB (K0 := K)) rfl c.b_len boot_len (pa_cons (pe_fldB (K0 := K) (pv 0) rfl) pa_nil)) pe_int) pa_nil)))
      (pss_cons (ps_for PassesOwn.never rfl (pi_tupB (K0 := K) (pe_ix (ix_seqB (K0 := K)) (pv 1) pe_int (fun _ _ => rfl))) (tn 3 sc_Flat_add.nd) (pss_one (ps_expr (pe_meth (pv 0) c.cls_Flat MM_add GG_add (hr.mono (by omega)) BB_add .nil pass0 (pa_cons (pv 3) (pa_cons (pv 2) pa_nil))))))
      (pss_one (ps_expr (pe_meth (pv 0) c.cls_Flat MM_add GG_add (hr.mono (by omega)) BB_add .nil pass0 (pa_cons (pe_ix (ix_seqB (K0 := K)) (pv 1) pe_int (fun _ _ => rfl)) (pa_cons (pe_tup (pa_starB (K0 := K) (pv 2) (pa_cons (pv 4) pa_nil))) pa_nil)))))))))))))), fun G H A0 Q kQ => ?_⟩
  obtain ⟨p, a1, a2, a3, a4, L, t, ar⟩ := a
  obtain ⟨h1, h2, h3⟩ : t.size ≤ n + 1 ∧ L.length + t.size ≤ 1000 ∧ ar.length + t.size ≤ 1000 := ha
  refine go_seq (go_drop (ev_append (ev_fld (ev_var rfl (fv_mu (j := 0) rfl c.cls_Flat c.n_Flat_nodes rfl ⟨_, rfl, ⟨1, _, rfl⟩, ea_cons (ev_var rfl (ea_nil ⟨_, 1, _, rfl, rfl, sz_lt (by show (L.map _).length < _; rw [List.length_map]; omega), ?_⟩))⟩)))))
  refine go_seq (go_drop (ev_append (ev_fld (ev_var rfl (fv_mu (j := 0) rfl c.cls_Flat c.n_Flat_around rfl ⟨_, rfl, ⟨2, _, rfl⟩, ea_cons (ev_var rfl (ea_nil ⟨_, 2, _, rfl, rfl, sz_lt (by show (L.map _).length < _; rw [List.length_map]; omega), ?_⟩))⟩)))))
  have lb : (ixs Tr.isB L 0).length ≤ L.length := by rw [ixs_len]; exact List.length_filter_le _ _
  have lu : (ixs Tr.isU L 0).length ≤ L.length := by rw [ixs_len]; exact List.length_filter_le _ _
  have kE : ∀ (ρ : Rho) (N : List Nd), N = L ++ fl t ar (bnd L).length → Go ⟨T, [p, a1, a2, a3, a4], G, H, A0⟩ (fun _ H' => Q .non H') ρ (flMu K p a1 a2 a3 a4 N) := fun ρ N e => go_end (kQ (Mo.d .none) (flMu K p a1 a2 a3 a4 N) [] ⟨rfl, by rw [e]⟩)
  show Go ⟨T, [p, a1, a2, a3, a4], G, H, A0⟩ _ [some (Mo.adr p), some (Mo.d t.en), some (Mo.d (.tuple (natL ar))), none, none] (flM K p a1 a2 a3 a4 (L.map (fun q => q.1.en) ++ [t.en]) (L.map (fun q => .tuple (natL q.2)) ++ [.tuple (natL ar)]) (natL (ixs Tr.isB L 0)) (natL (ixs Tr.isU L 0)))
  rw [show L.map (fun q => q.1.en) ++ [t.en] = (L ++ [(t, ar)]).map (fun q => q.1.en) by rw [List.map_append] <;> rfl, show L.map (fun q => PyData.tuple (natL q.2)) ++ [.tuple (natL ar)] = (L ++ [(t, ar)]).map (fun q => .tuple (natL q.2)) by rw [List.map_append] <;> rfl]
  have hL : ((((L ++ [(t, ar)]).map fun q => q.1.en).length : Nat) : Int) - 1 = ((L.length : Nat) : Int) := by rw [List.length_map, List.length_append, List.length_singleton]; omega
  cases t with
  | use x =>
    rw [en_use]
    refine go_if (et_test (ev_op (ev_op (ev_var rfl (ev_int (ov_ixT (n := 0) rfl (ev_str (ov_eqS ⟨_, rfl, iteP (decide_eq_true rfl) ?_⟩))))))))
    refine go_drop (ev_append (ev_fld (ev_var rfl (fv_mu (j := 0) rfl c.cls_Flat c.n_Flat_use_nodes rfl ⟨_, rfl, ⟨4, _, rfl⟩, ea_cons (ev_op (ev_cb (ea_cons (ev_fld (ev_var rfl (fv_mu (j := 0) rfl c.cls_Flat c.n_Flat_nodes rfl (ea_nil (cv_lenM (n := 1) rfl (ev_int (ov_sub (ea_nil ⟨_, 4, _, rfl, rfl, sz_lt (by rw [natL_len]; omega), ?_⟩)))))))))))⟩))))
    rw [hL]
    have e1 := ixs_snoc Tr.isB L (.use x) ar
    have e2 := ixs_snoc Tr.isU L (.use x) ar
    have := kE [some (Mo.adr p), some (Mo.d (Tr.use x).en), some (Mo.d (.tuple (natL ar))), none, none] (L ++ [(.use x, ar)]) (by rw [fl])
    rw [flMu, e1, e2, en_use] at this
    show Go _ _ _ (flM K p a1 a2 a3 a4 _ _ _ (natL (ixs Tr.isU L 0) ++ [_]))
    rw [natL_snoc]
    exact this
  | join l ps =>
    rw [en_join]
    refine go_if (et_test (ev_op (ev_op (ev_var rfl (ev_int (ov_ixT (n := 0) rfl (ev_str (ov_eqS ⟨_, rfl, iteN (decide_eq_false (by decide)) ?_⟩))))))))
    refine go_if (et_test (ev_op (ev_op (ev_var rfl (ev_int (ov_ixT (n := 0) rfl (ev_str (ov_eqS ⟨_, rfl, iteP (decide_eq_true rfl) ?_⟩))))))))
    have e1 : ixs Tr.isB (L ++ [(.join l ps, ar)]) 0 = ixs Tr.isB L 0 := ixs_snoc Tr.isB L (.join l ps) ar
    have e2 : ixs Tr.isU (L ++ [(.join l ps, ar)]) 0 = ixs Tr.isU L 0 := ixs_snoc Tr.isU L (.join l ps) ar
    have e3 : (bnd (L ++ [(Tr.join l ps, ar)])).length = (bnd L).length := bnd_snoc L (.join l ps) ar
    rw [Tr.size] at h1 h2 h3
    rw [fl] at kE
    rw [← e1, ← e2]
    refine go_for (ei_tup (ev_op (ev_var rfl (ev_int (ov_ixT (n := 2) rfl ⟨_, rfl, add_loop rfl (by omega) (by rw [List.length_append, List.length_singleton]; omega) (by omega) fun y3 => kE _ _ ?_⟩)))))
    rw [e3, List.append_assoc] <;> rfl
  | bind l ps b =>
    have e1 : ixs Tr.isB (L ++ [(.bind l ps b, ar)]) 0 = ixs Tr.isB L 0 ++ [L.length] := ixs_snoc Tr.isB L (.bind l ps b) ar
    have e2 : ixs Tr.isU (L ++ [(.bind l ps b, ar)]) 0 = ixs Tr.isU L 0 := ixs_snoc Tr.isU L (.bind l ps b) ar
    have e3 : (bnd (L ++ [(Tr.bind l ps b, ar)])).length = (bnd L).length + 1 := bnd_snoc L (.bind l ps b) ar
    rw [Tr.size] at h1 h2 h3
    rw [fl] at kE
    rw [en_bind]
    refine go_if (et_test (ev_op (ev_op (ev_var rfl (ev_int (ov_ixT (n := 0) rfl (ev_str (ov_eqS ⟨_, rfl, iteN (decide_eq_false (by decide)) ?_⟩))))))))
    refine go_if (et_test (ev_op (ev_op (ev_var rfl (ev_int (ov_ixT (n := 0) rfl (ev_str (ov_eqS ⟨_, rfl, iteN (decide_eq_false (by decide)) ?_⟩))))))))
    refine go_seq (go_set (ev_cb (ea_cons (ev_fld (ev_var rfl (fv_mu (j := 0) rfl c.cls_Flat c.n_Flat_binder_nodes rfl (ea_nil (cv_lenM (n := 3) rfl ?_))))))))
    refine go_seq (go_drop (ev_append (ev_fld (ev_var rfl (fv_mu (j := 0) rfl c.cls_Flat c.n_Flat_binder_nodes rfl ⟨_, rfl, ⟨3, _, rfl⟩, ea_cons (ev_op (ev_cb (ea_cons (ev_fld (ev_var rfl (fv_mu (j := 0) rfl c.cls_Flat c.n_Flat_nodes rfl (ea_nil (cv_lenM (n := 1) rfl (ev_int (ov_sub (ea_nil ⟨_, 3, _, rfl, rfl, sz_lt (by rw [natL_len]; omega), ?_⟩)))))))))))⟩)))))
    rw [hL, natL_len, ← bnd_ixs]
    show Go _ _ [some (Mo.adr p), _, some (Mo.d (.tuple (natL ar))), _, some (Mo.d (.int ((bnd L).length : Int)))] (flM K p a1 a2 a3 a4 _ _ (natL (ixs Tr.isB L 0) ++ [_]) _)
    rw [natL_snoc, ← e1, ← e2]
    have hb := b.size_pos
    refine go_seq (go_for (ei_tup (ev_op (ev_var rfl (ev_int (ov_ixT (n := 2) rfl ⟨_, rfl, add_loop rfl (by omega) (by rw [List.length_append, List.length_singleton]; omega) (by omega) fun y3 => ?_⟩))))))
    refine go_drop (ev_meth (ev_var rfl ⟨.inl ⟨p, 0, _, rfl, rfl, rfl⟩, ?_⟩))
    refine ea_cons (ev_op (ev_var rfl (ev_int (ov_ixT (n := 3) rfl ?_))))
    refine ea_cons (ev_tup (ea_star (ev_var rfl ⟨_, .inr rfl, ea_cons (ev_var rfl (ea_nil ⟨natL (ar ++ [(bnd L).length]), ?_, ?_, ?_⟩))⟩)))
    rotate_left 2
    refine ea_nil ⟨⟨p, a1, a2, a3, a4, _, b, ar ++ [(bnd L).length]⟩, [], rfl, rfl, ⟨?_, ?_, ?_⟩, ?_⟩
    rotate_left 4
    · rw [← natL_snoc, List.map_append] <;> rfl
    · rw [natL_len, List.length_append, List.length_singleton]
      exact sz_small (by omega)
    · show b.size ≤ n
      omega
    · show (_ : List Nd).length + b.size ≤ 1000
      rw [List.length_append, List.length_append, List.length_singleton, flL_len]
      omega
    · show (ar ++ [_]).length + b.size ≤ 1000
      rw [List.length_append, List.length_singleton]
      omega
    · rintro χ M' ⟨rfl, rfl⟩
      refine kE _ _ ?_
      show _ ++ fl b (ar ++ [(bnd L).length]) (bnd (_ : List Nd)).length = _
      rw [bnd_flL_len, e3, List.append_assoc, List.append_assoc] <;> rfl
theorem add_ok (c : Fc K mg) : ∀ n : Nat, CalM P w K mg base (n + 1) (He.ga K "Flat") "add" ["self", "tree", "around"] (spAdd T K n)
  | 0 => by
    obtain ⟨fd, F⟩ := c.f_Flat_add
    exact ⟨_, fd, fn_vac fun a h => by have h : a.t.size ≤ 0 := h.1; have := a.t.size_pos; omega, c.m_Flat_add, F.bindsN fun _ _ _ _ _ _ us hl => match us, hl with | [_, _, _], _ => rfl⟩
  | n + 1 => ok_add c (add_ok c n)
end Lv
/-! #### D5 -/
namespace Lv
open PySem L2 StX PyProof.Rows
local macro_rules | `(tactic| walk_at "lv1") => `(tactic| first
  | with_reducible refine go_seq ?_
  | with_reducible refine go_set ?_
  | with_reducible refine go_ret ?_
  | with_reducible refine go_drop ?_
  | with_reducible refine go_if ?_
  | with_reducible refine ev_op ?_
  | with_reducible refine ev_cb ?_
  | with_reducible refine ea_cons ?_
  | with_reducible refine ea_nil ?_
  | refine ev_var rfl ?_
  | with_reducible refine ev_int ?_
  | with_reducible refine ev_str ?_
  | with_reducible refine ev_bl ?_
  | with_reducible refine ev_ty ?_
  | with_reducible refine ev_non ?_
  | with_reducible refine ev_cls ?_
  | with_reducible refine ev_un ?_
  | with_reducible refine ev_fld ?_
  | with_reducible refine ev_andV ?_
  | with_reducible refine ev_notV ?_
  | with_reducible refine ev_ifE ?_
  | with_reducible refine ev_chain ?_
  | with_reducible refine et_test ?_
  | with_reducible refine et_B ?_
  | with_reducible refine et_and ?_
  | with_reducible refine et_or ?_
  | with_reducible refine et_not ?_
  | with_reducible refine et_yes ?_
  | with_reducible refine ov_add ?_
  | with_reducible refine ov_sub ?_
  | with_reducible refine ov_lt ?_
  | with_reducible refine ov_le ?_
  | with_reducible refine ov_gt ?_
  | with_reducible refine ov_ge ?_
  | with_reducible refine ov_neg ?_
  | with_reducible refine ov_eqI ?_
  | with_reducible refine ov_neI ?_
  | with_reducible refine ov_eqS ?_
  | with_reducible refine ov_inSg ?_
  | with_reducible refine ov_inS ?_
  | with_reducible refine ov_inI ?_
  | with_reducible refine cv_lenL ?_
  | with_reducible refine cv_lenT ?_
  | with_reducible refine cv_max2 ?_
  | with_reducible refine cv_min2 ?_
  | with_reducible refine cv_intI ?_
  | with_reducible refine cv_intB ?_
  | with_reducible refine cv_tuple ?_
  | with_reducible refine cv_list (.inl rfl) ?_
  | with_reducible refine cv_list (.inr rfl) ?_
  | refine ov_ixT (n := 0) rfl ?_
  | refine ov_ixT (n := 1) rfl ?_
  | refine ov_ixT (n := 2) rfl ?_
  | refine ov_ixT (n := 3) rfl ?_
  | refine ov_ixL (n := 0) rfl ?_
  | refine ov_ixL (n := 1) rfl ?_
  | refine ov_ixL (n := 2) rfl ?_
  | refine iteT ?_
  | refine iteF ?_
  | with_reducible refine iteN (b := !true) rfl ?_
  | with_reducible refine iteP (b := !false) rfl ?_
  | with_reducible refine go_next ?_
  | refine ⟨_, rfl, ?_⟩)
local macro_rules | `(tactic| walk_at "lv") => `(tactic| repeat walk_at "lv1")
variable {P : Program} {w : World} {K : PySem.W.Frag} {mg : Str → Option Value} {base : Heap} {T : Tb}
/-- all that may change is frozen -/
theorem Zo.Ok.all {Z : Zo} {M : Mus} {G H : Hp} (z : Z.Ok M G H) : ∃ G', Z.Ok [] G' H ∧ Same G G' ∧ ∀ e ∈ M, ∃ o, G' e.1 = some o ∧ e.2.p o G' := by
  let G' : Hp := fun a => if a ∈ M.map (·.1) then H a else G a
  have sg : Same G G' := fun b x q => by
    show (if b ∈ M.map (·.1) then H b else G b) = some x
    split
    · exact z.st.sub b x q
    · exact q
  have hin : ∀ e ∈ M, G' e.1 = H e.1 := fun e he => if_pos (List.mem_map_of_mem he)
  have hmu : ∀ e ∈ M, ∃ o, G' e.1 = some o ∧ e.2.p o G' := fun e he => by
    obtain ⟨g, o, ho, p⟩ := z.st.mu e he
    exact ⟨o, by rw [hin e he]; exact ho, e.2.mono sg p⟩
  refine ⟨G', ⟨⟨fun b x q => ?_, z.st.tab, fun q hq => ?_, List.nodup_nil, fun e he => (by cases he)⟩, ⟨z.nx.g.trans sg, fun a x q ga hw ht => ?_, z.nx.dom⟩, fun x hx => (by cases hx), z.an.trans sg⟩, sg, hmu⟩
  · have q : (if b ∈ M.map (·.1) then H b else G b) = some x := q
    split at q
    · exact q
    · exact z.st.sub b x q
  · intro e
    have e : (if q ∈ M.map (·.1) then H q else G q) = some (.tbl hq) := e
    by_cases hm : q ∈ M.map (·.1)
    · rw [if_pos hm] at e
      obtain ⟨f, he, ee⟩ := List.mem_map.mp hm
      obtain ⟨g, o, ho, p⟩ := z.st.mu f he
      rw [ee] at ho
      rw [ho] at e
      exact plainO.nt (f.2.pl p) hq (Option.some.inj e)
    · rw [if_neg hm] at e
      exact z.st.tg q hq e
  · obtain ⟨q1, q2⟩ := z.nx.keep a x q ga hw ht
    have hn : a ∉ M.map (·.1) := fun hm => (z.nw a hm).elim hw fun e => e.no q ht
    refine ⟨?_, q2⟩
    show (if a ∈ M.map (·.1) then H a else G a) = none
    rw [if_neg hn]
    exact q1
/-- frozen, the object is as told -/
def FinI (x C : Addr) (fs : List (Str × Mo)) (M : Mus) : Prop := ∀ G' : Hp, (∀ e ∈ M, ∃ o, G' e.1 = some o ∧ e.2.p o G') → (Mo.ins C fs).p (.ref x) G'
theorem lt_put {f : Str} {φ : Mo} {n : Nat} : ∀ {fs : List (Str × Mo)}, fs.length < n → (putM f φ fs).length < n + 1
  | [], h => by show 1 < n + 1; have : 0 < n := h; omega
  | (g, x) :: r, h => by
    rw [putM]
    split
    · rw [List.length_cons] at h ⊢
      omega
    · have h : r.length + 1 < n := h
      have := lt_put (f := f) (φ := φ) (n := n - 1) (fs := r) (by omega)
      rw [List.length_cons]
      omega
theorem fn_okI {x qual : Str} {pa : Arguments} {bd : List Stmt} {sc : Scope} {kws : List (Str × V)} {f : Addr} {fd : FuncData} {N ps : List Str} {k : Nat} {A : Type} {args : A → List Mo} {pre : A → Prop} {C : Addr} {fs : A → List (Str × Mo)}
    (F : FunD K x qual pa bd sc [] kws f fd) (S : FnScope N ps sc) (hl : ∀ a, (args a).length + 1 = ps.length) (hN : ps.length ≤ N.length)
    (body : ∀ (a : A), pre a → ∀ (cdv : Value) (A' : Around) (outer : List Env) (s : Shared) (H : Hp) (E : XK), Room k (A'.deeper (PyProof.Rows.envOfC qual sc s.heap.objs.size f cdv)) →
      ∃ t, PSs (cxOf CX0 P w K mg base N qual sc f cdv A' outer s H E).nox bd t ∧ ∀ (G H A0 : Hp) (Q : VK) (o : Addr), (∀ M, FinI o C (fs a) M → GoR ⟨T, [o], G, H, A0⟩ Q (Mo.d .none) M) →
        Go ⟨T, [o], G, H, A0⟩ (t { nx := fun _ H' => Q .non H', rt := Q }) ((Mo.adr o :: args a).map some ++ List.replicate (N.length - (args a).length - 1) none) [(o, Mu.ins C [])]) :
    FnOk P w K mg base CX0 (k + 1) f fd ps (SpI T C A args pre fs) := by
  refine F.ok S (fun vs H Q E h => ?_) (fun cdv A' outer s H vs Q E hr h => ?_)
  · obtain ⟨a, G, o, us, _, rfl, h1, _⟩ := h
    rw [List.length_cons, h1.length, hl]
  · obtain ⟨a, G, o, us, hp, rfl, h1, h2, q⟩ := h
    obtain ⟨t, ht, hb⟩ := body a hp cdv A' outer s H E hr
    refine ⟨t, ht.nox, ?_⟩
    have hm : MoAll G (.ref o :: us) (Mo.adr o :: args a) := .cons rfl h1
    have hst := moall_start N hm (by rw [List.length_cons, hl]; exact hN)
    rw [List.length_cons, Nat.sub_add_eq] at hst
    refine hb G H G Q o (fun M hF v G' H' hv z => ?_) (L2.start N (.ref o :: us)) G H hst ⟨h2, Nx.refl _ _ _, fun x hx => .inl hx, Same.refl _⟩
    obtain ⟨G2, z2, sg, hmu⟩ := z.all
    rw [rep_non hv]
    exact q G2 H' (hF G2 hmu) ⟨z2.nx, z2.st, fun e he => by cases he⟩
/-! ### Flat -/
abbrev flFs (t : Tr) : List (Str × Mo) := [("nodes", Mo.d (.list (t.fl0.map fun q => q.1.en))), ("around", Mo.d (.list (t.fl0.map fun q => .tuple (natL q.2)))), ("binder_nodes", Mo.d (.list (natL (ixs Tr.isB t.fl0 0)))), ("use_nodes", Mo.d (.list (natL (ixs Tr.isU t.fl0 0))))]
-- slots of Flat.__init__: 0 self, 1 tree
theorem sc_Flat_init : FnScope ["self", "tree"] ["self", "tree"] (defScope s_Flat_init) := ⟨rfl, rfl, rfl, by decide +kernel, rfl, by decide +kernel, by decide +kernel⟩
theorem fin_flat {p a1 a2 a3 a4 : Addr} {t : Tr} : FinI p (He.ga K "Flat") (flFs t) (flMu K p a1 a2 a3 a4 t.fl0) := fun G' h => by
  obtain ⟨_, e0, dx, vs, rfl, hv⟩ := h _ (List.mem_cons_self ..)
  obtain ⟨_, e1, x1, rfl, r1⟩ := h _ (List.mem_cons_of_mem _ (List.mem_cons_self ..))
  obtain ⟨_, e2, x2, rfl, r2⟩ := h _ (List.mem_cons_of_mem _ (List.mem_cons_of_mem _ (List.mem_cons_self ..)))
  obtain ⟨_, e3, x3, rfl, r3⟩ := h _ (List.mem_cons_of_mem _ (List.mem_cons_of_mem _ (List.mem_cons_of_mem _ (List.mem_cons_self ..))))
  obtain ⟨_, e4, x4, rfl, r4⟩ := h _ (List.mem_cons_of_mem _ (List.mem_cons_of_mem _ (List.mem_cons_of_mem _ (List.mem_cons_of_mem _ (List.mem_cons_self ..)))))
  refine ⟨p, dx, vs, rfl, e0, ?_⟩
  cases hv with
  | cons q1 hv => cases hv with
    | cons q2 hv => cases hv with
      | cons q3 hv => cases hv with
        | cons q4 hv =>
          cases hv
          obtain ⟨n1, q1⟩ := q1
          obtain ⟨n2, q2⟩ := q2
          obtain ⟨n3, q3⟩ := q3
          obtain ⟨n4, q4⟩ := q4
          refine .cons ⟨n1, ?_⟩ (.cons ⟨n2, ?_⟩ (.cons ⟨n3, ?_⟩ (.cons ⟨n4, ?_⟩ .nil)))
          · rw [show _ = V.ref a1 from q1]; exact Rep.lst e1 r1
          · rw [show _ = V.ref a2 from q2]; exact Rep.lst e2 r2
          · rw [show _ = V.ref a3 from q3]; exact Rep.lst e3 r3
          · rw [show _ = V.ref a4 from q4]; exact Rep.lst e4 r4
abbrev spFlat (T : Tb) (K : PySem.W.Frag) (n : Nat) : Sp := SpI T (He.ga K "Flat") Tr (fun t => [Mo.d t.en]) (fun t => t.size ≤ n) flFs
theorem ok_flat (c : Fc K mg) {n : Nat} (hn : n ≤ 999) : CalC P w K mg base (n + 2) "Flat" (He.ga K "Flat") ["self", "tree"] (spFlat T K n) := by
  obtain ⟨fd, F⟩ := c.f_Flat_init
  obtain ⟨f0, fd0, GG_add, MM_add, BB_add⟩ := (add_ok (P := P) (w := w) (base := base) (T := T) c n).ex
  refine ⟨_, fd, ?_, c.mk_Flat, c.g_Flat, F.bindsN fun _ _ _ _ _ _ us hl => match us, hl with | [_, _], _ => rfl⟩
  refine fn_okI F sc_Flat_init (fun _ => rfl) (by decide) fun t ht cdv Ar outer s Hs Ex hr => ⟨_, (pss_cons (ps_fld (pv 0) (pe_lst pa_nil) rfl)
      (pss_cons (ps_fld (pv 0) (pe_lst pa_nil) rfl)
      (pss_cons (ps_fld (pv 0) (pe_lst pa_nil) rfl)
      (pss_cons (ps_fld (pv 0) (pe_lst pa_nil) rfl)
      (pss_one (ps_expr (pe_meth (pv 0) c.cls_Flat MM_add GG_add (hr.mono (by omega)) BB_add .nil pass0 (pa_cons (pv 1) (pa_cons (pe_tup pa_nil) pa_nil))))))))), fun G H A0 Q o kQ => ?_⟩
  refine go_seq (go_fld c.cls_Flat c.n_Flat_nodes (ev_lstM (ea_nil ⟨[], rfl, by simp, fun a1 => ev_var rfl ⟨o, 0, _, rfl, rfl, (by (repeat with_reducible refine lt_put ?_); simp), ?_⟩⟩)))
  refine go_seq (go_fld c.cls_Flat c.n_Flat_around (ev_lstM (ea_nil ⟨[], rfl, by simp, fun a2 => ev_var rfl ⟨o, 0, _, rfl, rfl, (by (repeat with_reducible refine lt_put ?_); simp), ?_⟩⟩)))
  refine go_seq (go_fld c.cls_Flat c.n_Flat_binder_nodes (ev_lstM (ea_nil ⟨[], rfl, by simp, fun a3 => ev_var rfl ⟨o, 0, _, rfl, rfl, (by (repeat with_reducible refine lt_put ?_); simp), ?_⟩⟩)))
  refine go_seq (go_fld c.cls_Flat c.n_Flat_use_nodes (ev_lstM (ea_nil ⟨[], rfl, by simp, fun a4 => ev_var rfl ⟨o, 0, _, rfl, rfl, (by (repeat with_reducible refine lt_put ?_); simp), ?_⟩⟩)))
  refine go_drop (ev_meth (ev_var rfl ⟨.inl ⟨o, 0, _, rfl, rfl, rfl⟩, ?_⟩))
  refine ea_cons (ev_var rfl (ea_cons (ev_tup (ea_nil ⟨[], rfl, by simp, ea_nil ⟨⟨o, a1, a2, a3, a4, [], t, []⟩, [], rfl, rfl, ⟨ht, ?_, ?_⟩, ?_⟩⟩))))
  · show 0 + t.size ≤ 1000
    have : t.size ≤ n := ht
    omega
  · show 0 + t.size ≤ 1000
    have : t.size ≤ n := ht
    omega
  · rintro χ M' ⟨rfl, rfl⟩
    exact go_end (kQ (flMu K o a1 a2 a3 a4 t.fl0) fin_flat)
end Lv
/-! #### D6 -/
namespace Lv
open PySem L2 StX PyProof.Rows
local macro_rules | `(tactic| walk_at "lv1") => `(tactic| first
  | with_reducible refine go_seq ?_
  | with_reducible refine go_set ?_
  | with_reducible refine go_ret ?_
  | with_reducible refine go_drop ?_
  | with_reducible refine go_if ?_
  | with_reducible refine ev_op ?_
  | with_reducible refine ev_cb ?_
  | with_reducible refine ea_cons ?_
  | with_reducible refine ea_nil ?_
  | refine ev_var rfl ?_
  | with_reducible refine ev_int ?_
  | with_reducible refine ev_str ?_
  | with_reducible refine ev_bl ?_
  | with_reducible refine ev_ty ?_
  | with_reducible refine ev_non ?_
  | with_reducible refine ev_cls ?_
  | with_reducible refine ev_un ?_
  | with_reducible refine ev_fld ?_
  | with_reducible refine ev_andV ?_
  | with_reducible refine ev_notV ?_
  | with_reducible refine ev_ifE ?_
  | with_reducible refine ev_chain ?_
  | with_reducible refine et_test ?_
  | with_reducible refine et_B ?_
  | with_reducible refine et_and ?_
  | with_reducible refine et_or ?_
  | with_reducible refine et_not ?_
  | with_reducible refine et_yes ?_
  | with_reducible refine ov_add ?_
  | with_reducible refine ov_sub ?_
  | with_reducible refine ov_lt ?_
  | with_reducible refine ov_le ?_
  | with_reducible refine ov_gt ?_
  | with_reducible refine ov_ge ?_
  | with_reducible refine ov_neg ?_
  | with_reducible refine ov_eqI ?_
  | with_reducible refine ov_neI ?_
  | with_reducible refine ov_eqS ?_
  | with_reducible refine ov_inSg ?_
  | with_reducible refine ov_inS ?_
  | with_reducible refine ov_inI ?_
  | with_reducible refine cv_lenL ?_
  | with_reducible refine cv_lenT ?_
  | with_reducible refine cv_max2 ?_
  | with_reducible refine cv_min2 ?_
  | with_reducible refine cv_intI ?_
  | with_reducible refine cv_intB ?_
  | with_reducible refine cv_tuple ?_
  | with_reducible refine cv_list (.inl rfl) ?_
  | with_reducible refine cv_list (.inr rfl) ?_
  | refine ov_ixT (n := 0) rfl ?_
  | refine ov_ixT (n := 1) rfl ?_
  | refine ov_ixT (n := 2) rfl ?_
  | refine ov_ixT (n := 3) rfl ?_
  | refine ov_ixL (n := 0) rfl ?_
  | refine ov_ixL (n := 1) rfl ?_
  | refine ov_ixL (n := 2) rfl ?_
  | refine iteT ?_
  | refine iteF ?_
  | with_reducible refine iteN (b := !true) rfl ?_
  | with_reducible refine iteP (b := !false) rfl ?_
  | with_reducible refine go_next ?_
  | refine ⟨_, rfl, ?_⟩)
local macro_rules | `(tactic| walk_at "lv") => `(tactic| repeat walk_at "lv1")
variable {P : Program} {w : World} {K : PySem.W.Frag} {mg : Str → Option Value} {base : Heap} {T : Tb}
/-! ### Term -/
def useD (u : Str × List Nat) : PyData := .tuple (natL u.2)
abbrev tmFs5 (t : Tr) : List (Str × Mo) := ("own_tree", Mo.d t.en) :: ("own_nodes", Mo.d (.list (t.fl0.map fun q => q.1.en))) :: ("own_around", Mo.d (.list (t.fl0.map fun q => .tuple (natL q.2)))) :: ("binder_nodes", Mo.d (.list (natL (ixs Tr.isB t.fl0 0)))) :: ("use_nodes", Mo.d (.list (natL (ixs Tr.isU t.fl0 0)))) :: []
abbrev tmFs7 (t : Tr) : List (Str × Mo) := ("own_tree", Mo.d t.en) :: ("own_nodes", Mo.d (.list (t.fl0.map fun q => q.1.en))) :: ("own_around", Mo.d (.list (t.fl0.map fun q => .tuple (natL q.2)))) :: ("binder_nodes", Mo.d (.list (natL (ixs Tr.isB t.fl0 0)))) :: ("use_nodes", Mo.d (.list (natL (ixs Tr.isU t.fl0 0)))) ::
  ("own_names", Mo.d (.tuple (t.pg.names.map PyData.str))) :: ("use_around", Mo.d (.list (t.pg.uses.map useD))) :: []
abbrev tmFs (t : Tr) : List (Str × Mo) := tmFs7 t ++ [(("own_meaning" : Str), Mo.d (.list (t.pg.meaning.map Lv1.en)))]
abbrev spMeant (T : Tb) (K : PySem.W.Frag) : Sp := SpG T (Addr × Tr × Nat × Str × List Nat) (fun a => [Mo.adr a.1, Mo.d (.int ((a.2.2.1 : Nat) : Int))]) (fun a => [(a.1, Mu.ins (He.ga K "Term") (tmFs7 a.2.1))])
  (fun a => a.2.1.size ≤ 999 ∧ a.2.1.fl0[a.2.2.1]? = some (.use a.2.2.2.1, a.2.2.2.2)) (fun a φ M => φ = Mo.d (a.2.1.pg.meant a.2.2.2).en ∧ M = [(a.1, Mu.ins (He.ga K "Term") (tmFs7 a.2.1))])
-- slots of Term.meant: 0 self, 1 at, 2 name, 3 some, 4 binder
theorem sc_Term_meant : FnScope ["self", "at", "name", "some", "binder"] ["self", "at"] (defScope s_Term_meant) := ⟨rfl, rfl, rfl, by decide +kernel, rfl, by decide +kernel, by decide +kernel⟩
theorem map_get {α β : Type} {f : α → β} {xs : List α} {i : Nat} {a : α} (h : xs[i]? = some a) : (xs.map f)[i]? = some (f a) := by rw [List.getElem?_map, h] <;> rfl
theorem use_mem {t : Tr} {i : Nat} {n : Str} {ar : List Nat} (h : t.fl0[i]? = some (.use n, ar)) : (n, ar) ∈ t.pg.uses :=
  List.mem_map.mpr ⟨(.use n, ar), List.mem_filter.mpr ⟨List.mem_of_getElem? h, rfl⟩, rfl⟩
theorem use_chn {t : Tr} {i : Nat} {n : Str} {ar : List Nat} (h : t.fl0[i]? = some (.use n, ar)) : Chn (fun m => t.pg.ars.getD m []) t.pg.names.length ar := t.pg_ok.use _ (use_mem h)
theorem chn_len : ∀ {ar : List Nat} {k : Nat}, ar.Pairwise (· < ·) → (∀ m ∈ ar, m < k) → ar.length ≤ k := fun {ar k} h1 h2 => by
  induction ar using snocInd generalizing k with
  | h0 => exact Nat.zero_le _
  | h1 xs x ih =>
    rw [List.pairwise_append] at h1
    have h3 := ih h1.1 fun m hm => h1.2.2 m hm x (by simp)
    have h4 := h2 x (by simp)
    rw [List.length_append, List.length_singleton]
    omega
theorem nb_le (t : Tr) : t.nb ≤ t.size := by
  rw [← bnd_len t [] 0, ← fl_len t [] 0]
  unfold bnd
  rw [List.length_map]
  exact List.length_filter_le _ _
theorem natL_filter (f : Nat → Bool) (g : PyData → Bool) (h : ∀ n : Nat, g (.int (n : Int)) = f n) (ns : List Nat) : (natL ns).filter g = natL (ns.filter f) := by
  induction ns with
  | nil => rfl
  | cons n r ih =>
    show (PyData.int (n : Int) :: natL r).filter g = _
    rw [List.filter_cons, List.filter_cons, h, ih]
    split <;> rfl
theorem ok_meant (c : Fc K mg) : CalM P w K mg base 1 (He.ga K "Term") "meant" ["self", "at"] (spMeant T K) := by
  obtain ⟨fd, F⟩ := c.f_Term_meant
  refine ⟨_, fd, ?_, c.m_Term_meant, F.bindsN fun _ _ _ _ _ _ us hl => match us, hl with | [_, _], _ => rfl⟩
  refine fn_ok F sc_Term_meant (fun _ => rfl) (by decide) fun a ha cdv Ar outer s Hs Ex hr => ⟨_, (pss_cons (ps_set (i := 2) sc_Term_meant.nd rfl (Or.inr rfl) (pe_ix (ix_seqB (K0 := K)) (pe_ix (ix_seqB (K0 := K)) (pe_fldB (K0 := K) (pv 0) rfl) (pv 1) (fun _ _ => rfl)) pe_int (fun _ _ => rfl)))
      (pss_cons (ps_setLc (i := 3) (own := [("binder", 4)]) rfl sc_Term_meant.nd rfl rfl (sw_true rfl rfl rfl (by decide +kernel)) (pi_tupB (K0 := K) (pe_ix (ix_seqB (K0 := K)) (pe_fldB (K0 := K) (pv 0) rfl) (pv 1) (fun _ _ => rfl))) (blkOk_by (N := ["self", "at", "name", "some", "binder"]) (sc := defScope s_Term_meant) (by decide +kernel)) (fun _ _ _ _ _ => (tn 4 sc_Term_meant.nd)) (fun _ _ _ _ _ => (pts_one (pt_cmpR op_eq (pe_ix (ix_seqB (K0 := K)) (pe_fldB (K0 := K) (pv 0) rfl) (pv 4) (fun _ _ => rfl)) (pv 2) (nomark _)))) (fun _ _ _ _ _ => (pv 4)))
      (pss_one (ps_ret (pe_ifExp (pt_cmpR (op_neDB (K0 := K) hr.units) (pv 3) (pe_lst pa_nil) (nomark _)) (pe_ix (ix_seqB (K0 := K)) (pv 3) (pe_un un_neg pe_int) (fun _ _ => rfl)) (pv 2)))))), fun G H A0 Q kQ => ?_⟩
  obtain ⟨p, t, i, n, ar⟩ := a
  obtain ⟨h1, h2⟩ : t.size ≤ 999 ∧ t.fl0[i]? = some (.use n, ar) := ha
  have ch := use_chn h2
  have hal := chn_len ch.up ch.lt
  have hnb := nb_le t
  rw [t.pg_nb] at hal
  have e1 : (t.fl0.map fun q => q.1.en)[i]? = some (.tuple [.str "use", .str n]) := by rw [map_get h2, en_use]
  have e2 : (t.fl0.map fun q => PyData.tuple (natL q.2))[i]? = some (.tuple (natL ar)) := map_get h2
  refine go_seq (go_set (ev_op (ev_op (ev_fld (ev_var rfl (fv_mu (j := 0) rfl c.cls_Term c.n_Term_own_nodes rfl (ev_var rfl (ov_ixL e1 (ev_int (ov_ixT (n := 1) rfl ?_))))))))))
  refine go_seq (go_set (ev_lcA (fun (m : Nat) => PyData.int (m : Int)) (fun m => decide (t.pg.names.getD m "" = n)) (fun (m : Nat) => PyData.int (m : Int)) (ei_tup (ev_op (ev_fld (ev_var rfl (fv_mu (j := 0) rfl c.cls_Term c.n_Term_own_around rfl (ev_var rfl (ov_ixL e2 ⟨_, rfl, ar, rfl, sz_small (by omega), fun m hm => ⟨_, tgt_name (by simp), ?_⟩, ?_⟩)))))))))
  · refine et_test (ev_op (ev_op (ev_fld (ev_var rfl (fv_mu (j := 0) rfl c.cls_Term c.n_Term_own_names rfl (ev_var rfl (ov_ixT (map_getD (ch.lt m hm)) (ev_var rfl (ov_eqS ⟨_, rfl, rfl, rfl, fun _ => ev_var rfl ⟨rfl, rfl⟩⟩)))))))))
  · refine go_ret (ev_ifE (et_test (ev_op (ev_var rfl (ev_lst (ea_nil ⟨[], rfl, by simp, ov_neD ?_ shp_nil ⟨_, rfl, ?_⟩⟩))))))
    · exact (shp_list (m := 0) fun d hd => by obtain ⟨m, _, rfl⟩ := List.mem_map.mp hd; exact shp_int _).ok (by decide)
    · rw [eqv_empty]
      have hm : t.pg.meant (n, ar) = match (ar.filter fun b => decide (t.pg.names.getD b "" = n)).getLast? with | some b => .b b | none => .f n := rfl
      generalize ar.filter (fun b => decide (t.pg.names.getD b "" = n)) = fs at hm ⊢
      cases fs with
      | nil => exact iteF (ev_var rfl (kQ (Mo.d (.str n)) _ [] ⟨by show _ = Mo.d (t.pg.meant (n, ar)).en; rw [hm]; rfl, rfl⟩))
      | cons b r =>
        refine iteT (ev_op (ev_var rfl (ev_un (ev_int (ov_neg (ov_ixLast (d := .int (((b :: r).getLast (by simp) : Nat) : Int)) ?_ (kQ _ _ [] ⟨?_, rfl⟩)))))))
        · rw [List.getLast?_map, List.getLast?_eq_getLast (by simp)] <;> rfl
        · show _ = Mo.d (t.pg.meant (n, ar)).en
          rw [hm, List.getLast?_eq_getLast (by simp)] <;> rfl
end Lv
/-! #### D7 -/
namespace Lv
open PySem L2 StX PyProof.Rows
local macro_rules | `(tactic| walk_at "lv1") => `(tactic| first
  | with_reducible refine go_seq ?_
  | with_reducible refine go_set ?_
  | with_reducible refine go_ret ?_
  | with_reducible refine go_drop ?_
  | with_reducible refine go_if ?_
  | with_reducible refine ev_op ?_
  | with_reducible refine ev_cb ?_
  | with_reducible refine ea_cons ?_
  | with_reducible refine ea_nil ?_
  | refine ev_var rfl ?_
  | with_reducible refine ev_int ?_
  | with_reducible refine ev_str ?_
  | with_reducible refine ev_bl ?_
  | with_reducible refine ev_ty ?_
  | with_reducible refine ev_non ?_
  | with_reducible refine ev_cls ?_
  | with_reducible refine ev_un ?_
  | with_reducible refine ev_fld ?_
  | with_reducible refine ev_andV ?_
  | with_reducible refine ev_notV ?_
  | with_reducible refine ev_ifE ?_
  | with_reducible refine ev_chain ?_
  | with_reducible refine et_test ?_
  | with_reducible refine et_B ?_
  | with_reducible refine et_and ?_
  | with_reducible refine et_or ?_
  | with_reducible refine et_not ?_
  | with_reducible refine et_yes ?_
  | with_reducible refine ov_add ?_
  | with_reducible refine ov_sub ?_
  | with_reducible refine ov_lt ?_
  | with_reducible refine ov_le ?_
  | with_reducible refine ov_gt ?_
  | with_reducible refine ov_ge ?_
  | with_reducible refine ov_neg ?_
  | with_reducible refine ov_eqI ?_
  | with_reducible refine ov_neI ?_
  | with_reducible refine ov_eqS ?_
  | with_reducible refine ov_inSg ?_
  | with_reducible refine ov_inS ?_
  | with_reducible refine ov_inI ?_
  | with_reducible refine cv_lenL ?_
  | with_reducible refine cv_lenT ?_
  | with_reducible refine cv_max2 ?_
  | with_reducible refine cv_min2 ?_
  | with_reducible refine cv_intI ?_
  | with_reducible refine cv_intB ?_
  | with_reducible refine cv_tuple ?_
  | with_reducible refine cv_list (.inl rfl) ?_
  | with_reducible refine cv_list (.inr rfl) ?_
  | refine ov_ixT (n := 0) rfl ?_
  | refine ov_ixT (n := 1) rfl ?_
  | refine ov_ixT (n := 2) rfl ?_
  | refine ov_ixT (n := 3) rfl ?_
  | refine ov_ixL (n := 0) rfl ?_
  | refine ov_ixL (n := 1) rfl ?_
  | refine ov_ixL (n := 2) rfl ?_
  | refine iteT ?_
  | refine iteF ?_
  | with_reducible refine iteN (b := !true) rfl ?_
  | with_reducible refine iteP (b := !false) rfl ?_
  | with_reducible refine go_next ?_
  | refine ⟨_, rfl, ?_⟩)
local macro_rules | `(tactic| walk_at "lv") => `(tactic| repeat walk_at "lv1")
variable {P : Program} {w : World} {K : PySem.W.Frag} {mg : Str → Option Value} {base : Heap} {T : Tb}
theorem ixs_get (q : Tr → Bool) : ∀ (l : List Nd) (k i : Nat), i ∈ ixs q l k → ∃ p, l[i - k]? = some p ∧ q p.1 = true ∧ k ≤ i
  | [], k, i, h => by cases h
  | p :: r, k, i, h => by
    have go : i ∈ ixs q r (k + 1) → ∃ p', (p :: r)[i - k]? = some p' ∧ q p'.1 = true ∧ k ≤ i := fun h => by
      obtain ⟨p', h1, h2, h3⟩ := ixs_get q r (k + 1) i h
      exact ⟨p', by rw [show i - k = (i - (k + 1)) + 1 by omega, List.getElem?_cons_succ]; exact h1, h2, by omega⟩
    rw [ixs] at h
    split at h
    · rename_i hq
      rcases List.mem_cons.mp h with h | h
      · exact ⟨p, by rw [h, Nat.sub_self] <;> rfl, hq, by omega⟩
      · exact go h
    · exact go h
theorem en_name (t : Tr) : ∃ ds, t.en = .tuple ds ∧ ds[1]? = some (.str t.name) := by
  cases t with
  | use n => exact ⟨_, en_use n, rfl⟩
  | join l ps => exact ⟨_, en_join l ps, rfl⟩
  | bind n ps b => exact ⟨_, en_bind n ps b, rfl⟩
def nd0 : Nd := (.use "", [])
theorem getD_of {α : Type} {xs : List α} {i : Nat} {a d : α} (h : xs[i]? = some a) : xs.getD i d = a := by rw [List.getD_eq_getElem?_getD, h] <;> rfl
theorem ixs_map0 (q : Tr → Bool) {β : Type} (g : Nd → β) (l : List Nd) : (ixs q l 0).map (fun i => g (l.getD i nd0)) = (l.filter fun p => q p.1).map g := ixs_map q g nd0 l []
abbrev spTerm (T : Tb) (K : PySem.W.Frag) : Sp := SpI T (He.ga K "Term") Tr (fun t => [Mo.d t.en]) (fun t => t.size ≤ 30 ∧ t.allN (fun x => nmB x = true)) tmFs
-- slots of Term.__init__: 0 self, 1 tree, 2 flat, 3 at
theorem sc_Term_init : FnScope ["self", "tree", "flat", "at"] ["self", "tree"] (defScope s_Term_init) := ⟨rfl, rfl, rfl, by decide +kernel, rfl, by decide +kernel, by decide +kernel⟩
theorem fin_term {p : Addr} {t : Tr} : FinI p (He.ga K "Term") (tmFs t) [(p, Mu.ins (He.ga K "Term") (tmFs t))] := fun G' h => by
  obtain ⟨_, e0, dx, vs, rfl, hv⟩ := h _ (List.mem_cons_self ..)
  exact ⟨p, dx, vs, rfl, e0, hv⟩
theorem ok_term (c : Fc K mg) : CalC P w K mg base 64 "Term" (He.ga K "Term") ["self", "tree"] (spTerm T K) := by
  obtain ⟨fd, F⟩ := c.f_Term_init
  have C_is_tree : Cal P w K mg base 62 "is_tree" ["value"] (spIsTree T 30) := (trees_ok c 30 (by omega)).1
  have C_Flat : CalC P w K mg base 32 "Flat" (He.ga K "Flat") ["self", "tree"] (spFlat T K 30) := ok_flat c (by omega)
  have C_deep_of : Cal P w K mg base 32 "deep_of" ["tree"] (spDeepOf T 30) := deep_ok c 30 (by omega)
  obtain ⟨f0, fd0, GG_meant, MM_meant, BB_meant⟩ := (ok_meant (P := P) (w := w) (base := base) (T := T) c).ex
  refine ⟨_, fd, ?_, c.mk_Term, c.g_Term, F.bindsN fun _ _ _ _ _ _ us hl => match us, hl with | [_, _], _ => rfl⟩
  refine fn_okI F sc_Term_init (fun _ => rfl) (by decide) fun t ht cdv Ar outer s Hs Ex hr => ⟨_, (pss_cons (ps_if (pt_not (pt_val (pe_fn C_is_tree (hr.mono (by omega)) (pa_cons (pv 1) pa_nil)))) pss_never pss_nil)
      (pss_cons (ps_set (i := 2) sc_Term_init.nd rfl (Or.inr rfl) (pe_new C_Flat (hr.mono (by omega)) (pa_cons (pv 1) pa_nil)))
      (pss_cons (ps_if (pt_cmpR op_gt (pe_callB (c_lenB (K0 := K)) rfl c.b_len boot_len (pa_cons (pe_fldB (K0 := K) (pv 2) rfl) pa_nil)) (gl_int c.i_MOST_NODES) (nomark _)) pss_never pss_nil)
      (pss_cons (ps_if (pt_cmpR op_gt (pe_callB (c_lenB (K0 := K)) rfl c.b_len boot_len (pa_cons (pe_fldB (K0 := K) (pv 2) rfl) pa_nil)) (gl_int c.i_MOST_BINDERS) (nomark _)) pss_never pss_nil)
      (pss_cons (ps_if (pt_cmpR op_gt (pe_fn C_deep_of (hr.mono (by omega)) (pa_cons (pv 1) pa_nil)) (gl_int c.i_MOST_DEEP) (nomark _)) pss_never pss_nil)
      (pss_cons (ps_fld (pv 0) (pv 1) rfl)
      (pss_cons (ps_fld (pv 0) (pe_fldB (K0 := K) (pv 2) rfl) rfl)
      (pss_cons (ps_fld (pv 0) (pe_fldB (K0 := K) (pv 2) rfl) rfl)
      (pss_cons (ps_fld (pv 0) (pe_fldB (K0 := K) (pv 2) rfl) rfl)
      (pss_cons (ps_fld (pv 0) (pe_fldB (K0 := K) (pv 2) rfl) rfl)
      (pss_cons (ps_fld (pv 0) (pe_callTy (c_tupleB (K0 := K)) rfl c.b_tuple boot_tuple (pa_cons (pe_lc (own := [("at", 3)]) rfl sc_Term_init.nd (pi_listB (K0 := K) (pe_fldB (K0 := K) (pv 2) rfl)) (blkOk_by (N := ["self", "tree", "flat", "at"]) (sc := defScope s_Term_init) (by decide +kernel)) (fun _ _ _ _ _ => (tn 3 sc_Term_init.nd)) (fun _ _ _ _ _ => pts_nil) (fun _ _ _ _ _ => (pe_ix (ix_seqB (K0 := K)) (pe_ix (ix_seqB (K0 := K)) (pe_fldB (K0 := K) (pv 2) rfl) (pv 3) (fun _ _ => rfl)) pe_int (fun _ _ => rfl)))) pa_nil)) rfl)
      (pss_cons (ps_fld (pv 0) (pe_lc (own := [("at", 3)]) rfl sc_Term_init.nd (pi_listB (K0 := K) (pe_fldB (K0 := K) (pv 2) rfl)) (blkOk_by (N := ["self", "tree", "flat", "at"]) (sc := defScope s_Term_init) (by decide +kernel)) (fun _ _ _ _ _ => (tn 3 sc_Term_init.nd)) (fun _ _ _ _ _ => pts_nil) (fun _ _ _ _ _ => (pe_ix (ix_seqB (K0 := K)) (pe_fldB (K0 := K) (pv 2) rfl) (pv 3) (fun _ _ => rfl)))) rfl)
      (pss_one (ps_fld (pv 0) (pe_lc (own := [("at", 3)]) rfl sc_Term_init.nd (pi_listB (K0 := K) (pe_fldB (K0 := K) (pv 2) rfl)) (blkOk_by (N := ["self", "tree", "flat", "at"]) (sc := defScope s_Term_init) (by decide +kernel)) (fun _ _ _ _ _ => (tn 3 sc_Term_init.nd)) (fun _ _ _ _ _ => pts_nil) (fun _ _ _ _ _ => (pe_meth (pv 0) c.cls_Term MM_meant GG_meant (hr.mono (by omega)) BB_meant .nil pass0 (pa_cons (pv 3) pa_nil)))) rfl)))))))))))))), fun G H A0 Q o kQ => ?_⟩
  obtain ⟨h1, h2⟩ : t.size ≤ 30 ∧ t.allN (fun x => nmB x = true) := ht
  have hfl : t.fl0.length = t.size := fl_len t [] 0
  have hb : (ixs Tr.isB t.fl0 0).length ≤ t.size := by rw [ixs_len, ← hfl]; exact List.length_filter_le _ _
  have hu : (ixs Tr.isU t.fl0 0).length ≤ t.size := by rw [ixs_len, ← hfl]; exact List.length_filter_le _ _
  have hd := t.dep_size
  refine go_seq (go_if (et_not (et_test (ev_callP (ea_cons (ev_var rfl (ea_nil ⟨t, rfl, ⟨h1, h2⟩, _, rfl, iteF ?_⟩)))))))
  refine go_seq (go_set (ev_make (ea_cons (ev_var rfl (ea_nil ⟨t, rfl, h1, ?_⟩)))))
  walk_at "lv"
  refine fv_ins c.cls_Flat c.n_Flat_nodes rfl ?_
  walk_at "lv"
  refine iteN (decide_eq_false ?_) ?_
  · rw [List.length_map, hfl]; omega
  walk_at "lv"
  refine fv_ins c.cls_Flat c.n_Flat_binder_nodes rfl ?_
  walk_at "lv"
  refine iteN (decide_eq_false ?_) ?_
  · rw [natL_len]; omega
  walk_at "lv"
  refine ev_callP ?_
  walk_at "lv"
  refine ⟨h1, ?_⟩
  walk_at "lv"
  refine iteN (decide_eq_false ?_) ?_
  · omega
  walk_at "lv"
  walk_at "lv"
  refine go_fld c.cls_Term c.n_Term_own_tree (ev_var rfl (ev_var rfl ⟨o, 0, _, rfl, rfl, by simp, ?_⟩))
  walk_at "lv"
  refine go_fld c.cls_Term c.n_Term_own_nodes (ev_fld (ev_var rfl (fv_ins c.cls_Flat c.n_Flat_nodes rfl (ev_var rfl ⟨o, 0, _, rfl, rfl, (by (repeat with_reducible refine lt_put ?_); simp), ?_⟩))))
  walk_at "lv"
  refine go_fld c.cls_Term c.n_Term_own_around (ev_fld (ev_var rfl (fv_ins c.cls_Flat c.n_Flat_around rfl (ev_var rfl ⟨o, 0, _, rfl, rfl, (by (repeat with_reducible refine lt_put ?_); simp), ?_⟩))))
  walk_at "lv"
  refine go_fld c.cls_Term c.n_Term_binder_nodes (ev_fld (ev_var rfl (fv_ins c.cls_Flat c.n_Flat_binder_nodes rfl (ev_var rfl ⟨o, 0, _, rfl, rfl, (by (repeat with_reducible refine lt_put ?_); simp), ?_⟩))))
  walk_at "lv"
  refine go_fld c.cls_Term c.n_Term_use_nodes (ev_fld (ev_var rfl (fv_ins c.cls_Flat c.n_Flat_use_nodes rfl (ev_var rfl ⟨o, 0, _, rfl, rfl, (by (repeat with_reducible refine lt_put ?_); simp), ?_⟩))))
  show Go _ _ [some (Mo.adr o), some (Mo.d t.en), some (Mo.ins (He.ga K "Flat") (flFs t)), none] [(o, Mu.ins (He.ga K "Term") (tmFs5 t))]
  walk_at "lv"
  refine go_fld c.cls_Term c.n_Term_own_names (ev_cb (ea_cons (ev_lcB (fun (m : Nat) => PyData.int (m : Int)) (fun m => .str (t.fl0.getD m nd0).1.name) (ei_list (ev_fld (ev_var rfl (fv_ins c.cls_Flat c.n_Flat_binder_nodes rfl ⟨_, rfl, ixs Tr.isB t.fl0 0, rfl, sz_small (by omega), fun m hm => ⟨_, tgt_name (by simp), ?_⟩, ?_⟩)))))))
  · obtain ⟨p, p1, p2, _⟩ := ixs_get _ _ _ _ hm
    obtain ⟨ds, d1, d2⟩ := en_name p.1
    rw [Nat.sub_zero] at p1
    refine ev_op (ev_op (ev_fld (ev_var rfl (fv_ins c.cls_Flat c.n_Flat_nodes rfl (ev_var rfl (ov_ixL (map_get p1) (ev_int ?_)))))))
    rw [d1]
    refine ov_ixT (n := 1) d2 ⟨by rw [getD_of p1], rfl⟩
  rw [show (ixs Tr.isB t.fl0 0).map (fun m => PyData.str (t.fl0.getD m nd0).1.name) = t.pg.names.map PyData.str from (ixs_map0 Tr.isB (fun p => PyData.str p.1.name) t.fl0).trans (by
    show _ = ((bnd t.fl0).map (·.1)).map PyData.str
    unfold bnd
    rw [List.map_map, List.map_map] <;> rfl)]
  refine ea_nil (cv_tuple (ev_var rfl ⟨o, 0, _, rfl, rfl, by simp, ?_⟩))
  walk_at "lv"
  refine go_fld c.cls_Term c.n_Term_use_around (ev_lcB (fun (m : Nat) => PyData.int (m : Int)) (fun m => .tuple (natL (t.fl0.getD m nd0).2)) (ei_list (ev_fld (ev_var rfl (fv_ins c.cls_Flat c.n_Flat_use_nodes rfl ⟨_, rfl, ixs Tr.isU t.fl0 0, rfl, sz_small (by omega), fun m hm => ⟨_, tgt_name (by simp), ?_⟩, ?_⟩)))))
  · obtain ⟨p, p1, p2, _⟩ := ixs_get _ _ _ _ hm
    rw [Nat.sub_zero] at p1
    exact ev_op (ev_fld (ev_var rfl (fv_ins c.cls_Flat c.n_Flat_around rfl (ev_var rfl (ov_ixL (map_get p1) ⟨by rw [getD_of p1], rfl⟩)))))
  rw [show (ixs Tr.isU t.fl0 0).map (fun m => PyData.tuple (natL (t.fl0.getD m nd0).2)) = t.pg.uses.map useD from (ixs_map0 Tr.isU (fun p => PyData.tuple (natL p.2)) t.fl0).trans (by
    show _ = (uss t.fl0).map useD
    unfold uss
    rw [List.map_map] <;> rfl)]
  refine ev_var rfl ⟨o, 0, _, rfl, rfl, (by (repeat with_reducible refine lt_put ?_); simp), ?_⟩
  show Go _ _ [some (Mo.adr o), some (Mo.d t.en), some (Mo.ins (He.ga K "Flat") (flFs t)), none] [(o, Mu.ins (He.ga K "Term") (tmFs7 t))]
  refine go_fld c.cls_Term c.n_Term_own_meaning (ev_lcB (fun (m : Nat) => PyData.int (m : Int)) (fun m => (t.pg.meant ((t.fl0.getD m nd0).1.name, (t.fl0.getD m nd0).2)).en) (ei_list (ev_fld (ev_var rfl (fv_ins c.cls_Flat c.n_Flat_use_nodes rfl ⟨_, rfl, ixs Tr.isU t.fl0 0, rfl, sz_small (by omega), fun m hm => ⟨_, tgt_name (by simp), ?_⟩, ?_⟩)))))
  · obtain ⟨⟨q, ar⟩, p1, p2, _⟩ := ixs_get _ _ _ _ hm
    rw [Nat.sub_zero] at p1
    cases q with
    | use n =>
      refine ev_meth (ev_var rfl ⟨.inl ⟨o, 0, _, rfl, rfl, rfl⟩, ea_cons (ev_var rfl (ea_nil ⟨(o, t, m, n, ar), [], rfl, rfl, ⟨by show t.size ≤ 999; omega, p1⟩, ?_⟩))⟩)
      rintro χ M' ⟨rfl, rfl⟩
      exact ⟨by rw [getD_of p1] <;> rfl, rfl⟩
    | join l ps => cases p2
    | bind l ps b => cases p2
  rw [show (ixs Tr.isU t.fl0 0).map (fun m => (t.pg.meant ((t.fl0.getD m nd0).1.name, (t.fl0.getD m nd0).2)).en) = t.pg.meaning.map Lv1.en from (ixs_map0 Tr.isU (fun p => (t.pg.meant (p.1.name, p.2)).en) t.fl0).trans (by
    show _ = ((uss t.fl0).map t.pg.meant).map Lv1.en
    unfold uss
    rw [List.map_map, List.map_map] <;> rfl)]
  refine ev_var rfl ⟨o, 0, _, rfl, rfl, by simp, ?_⟩
  exact go_end (kQ _ fin_term)
end Lv
/-! #### D8 -/
namespace Lv
open PySem L2 StX PyProof.Rows
local macro_rules | `(tactic| walk_at "lv1") => `(tactic| first
  | with_reducible refine go_seq ?_
  | with_reducible refine go_set ?_
  | with_reducible refine go_ret ?_
  | with_reducible refine go_drop ?_
  | with_reducible refine go_if ?_
  | with_reducible refine ev_op ?_
  | with_reducible refine ev_cb ?_
  | with_reducible refine ea_cons ?_
  | with_reducible refine ea_nil ?_
  | refine ev_var rfl ?_
  | with_reducible refine ev_int ?_
  | with_reducible refine ev_str ?_
  | with_reducible refine ev_bl ?_
  | with_reducible refine ev_ty ?_
  | with_reducible refine ev_non ?_
  | with_reducible refine ev_cls ?_
  | with_reducible refine ev_un ?_
  | with_reducible refine ev_fld ?_
  | with_reducible refine ev_andV ?_
  | with_reducible refine ev_notV ?_
  | with_reducible refine ev_ifE ?_
  | with_reducible refine ev_chain ?_
  | with_reducible refine et_test ?_
  | with_reducible refine et_B ?_
  | with_reducible refine et_and ?_
  | with_reducible refine et_or ?_
  | with_reducible refine et_not ?_
  | with_reducible refine et_yes ?_
  | with_reducible refine ov_add ?_
  | with_reducible refine ov_sub ?_
  | with_reducible refine ov_lt ?_
  | with_reducible refine ov_le ?_
  | with_reducible refine ov_gt ?_
  | with_reducible refine ov_ge ?_
  | with_reducible refine ov_neg ?_
  | with_reducible refine ov_eqI ?_
  | with_reducible refine ov_neI ?_
  | with_reducible refine ov_eqS ?_
  | with_reducible refine ov_inSg ?_
  | with_reducible refine ov_inS ?_
  | with_reducible refine ov_inI ?_
  | with_reducible refine cv_lenL ?_
  | with_reducible refine cv_lenT ?_
  | with_reducible refine cv_max2 ?_
  | with_reducible refine cv_min2 ?_
  | with_reducible refine cv_intI ?_
  | with_reducible refine cv_intB ?_
  | with_reducible refine cv_tuple ?_
  | with_reducible refine cv_list (.inl rfl) ?_
  | with_reducible refine cv_list (.inr rfl) ?_
  | refine ov_ixT (n := 0) rfl ?_
  | refine ov_ixT (n := 1) rfl ?_
  | refine ov_ixT (n := 2) rfl ?_
  | refine ov_ixT (n := 3) rfl ?_
  | refine ov_ixL (n := 0) rfl ?_
  | refine ov_ixL (n := 1) rfl ?_
  | refine ov_ixL (n := 2) rfl ?_
  | refine iteT ?_
  | refine iteF ?_
  | with_reducible refine iteN (b := !true) rfl ?_
  | with_reducible refine iteP (b := !false) rfl ?_
  | with_reducible refine go_next ?_
  | refine ⟨_, rfl, ?_⟩)
local macro_rules | `(tactic| walk_at "lv") => `(tactic| repeat walk_at "lv1")
variable {P : Program} {w : World} {K : PySem.W.Frag} {mg : Str → Option Value} {base : Heap} {T : Tb}
/-! ### what a term is asked -/
abbrev tmV (K : PySem.W.Frag) (t : Tr) : Mo := Mo.ins (He.ga K "Term") (tmFs t)
theorem cv_isiTerm {M : Mus} {Kk : Ks} {fs : List (Str × Mo)} (c : Fc K mg) (k : Kk (Mo.d (.bool true)) M) : CbV T (rIsi K) [Mo.ins (He.ga K "Term") fs, Mo.adr (He.ga K "Term")] M Kk := fun xs G H p s Q q => by
  obtain ⟨x, y, rfl, hx, hy⟩ := two p
  obtain ⟨a, dx, vs, rfl, h1, h2⟩ := hx
  have e := c.ex
  unfold exB at e
  obtain ⟨e1, e⟩ := Bool.and_eq_true_iff.mp e
  obtain ⟨e2, e⟩ := Bool.and_eq_true_iff.mp e
  obtain ⟨e3, e⟩ := Bool.and_eq_true_iff.mp e
  obtain ⟨e4, e5⟩ := Bool.and_eq_true_iff.mp e
  refine ⟨_, _, _, _, true, rfl, ?_, .base (.ins (s.sub _ _ h1) c.cls_Term (of_decide_eq_true e1) (of_decide_eq_true e2) (of_decide_eq_true e3) (of_decide_eq_true e4)), of_decide_eq_true e5, q _ _ M G H k (Rep.bl _) (Po.refl s)⟩
  rw [show y = .ref (He.ga K "Term") from hy]
  exact .own _
abbrev spLookTerm (T : Tb) (K : PySem.W.Frag) : Sp := SpP T Tr (fun t => [tmV K t]) (fun _ => True) (fun _ => Mo.d .none)
-- slots of look_at_term: 0 term
theorem sc_look_at_term : FnScope ["term"] ["term"] (defScope s_look_at_term) := ⟨rfl, rfl, rfl, by decide +kernel, rfl, by decide +kernel, by decide +kernel⟩
theorem ok_look_at_term (c : Fc K mg) : Cal P w K mg base 1 "look_at_term" ["term"] (spLookTerm T K) := by
  obtain ⟨fd, F⟩ := c.f_look_at_term
  refine fn_mk F c.g_look_at_term (fn_okP F sc_look_at_term (fun _ => rfl) (by decide) fun t ht cdv Ar outer s Hs Ex hr => ⟨_, (pss_one (ps_if (pt_not (pt_val (pe_callB (call_isiB (K0 := K)) rfl c.b_isinstance boot_isinstance (pa_cons (pv 0) (pa_cons (gl_cls c.g_Term) pa_nil))))) pss_never pss_nil)), fun G H A0 Q kQ => ?_⟩) (fun _ _ _ _ _ _ us hl => match us, hl with | [_], _ => rfl)
  walk_at "lv"
  refine cv_isiTerm c ?_
  walk_at "lv"
  exact go_end (kQ _)
def GoodNs (n : Nat) (ns : List Str) : Prop := ns.length = n ∧ n ≤ 100 ∧ ∀ x ∈ ns, nmB x = true
abbrev spSuch (T : Tb) (K : PySem.W.Frag) : Sp := SpP T (Tr × List Str) (fun a => [tmV K a.1, Mo.d (.tuple (a.2.map PyData.str))]) (fun a => GoodNs a.1.pg.nb a.2) (fun _ => Mo.d (.bool true))
-- slots of are_such_names: 0 term, 1 value, 2 name
theorem sc_are_such_names : FnScope ["term", "value", "name"] ["term", "value"] (defScope s_are_such_names) := ⟨rfl, rfl, rfl, by decide +kernel, rfl, by decide +kernel, by decide +kernel⟩
theorem ok_are_such_names (c : Fc K mg) : Cal P w K mg base 2 "are_such_names" ["term", "value"] (spSuch T K) := by
  have C_is_line : Cal P w K mg base 1 "is_line" ["value"] (spIsLine T) := ok_is_line c
  have C_is_name : Cal P w K mg base 1 "is_name" ["value"] (spIsName T) := ok_is_name c
  obtain ⟨fd, F⟩ := c.f_are_such_names
  refine fn_mk F c.g_are_such_names (fn_okP F sc_are_such_names (fun _ => rfl) (by decide) fun a ha cdv Ar outer s Hs Ex hr => ⟨_, (pss_cons (ps_if (PW.pt (pw_or (pt_not (pt_val (pe_fn C_is_line (hr.mono (by omega)) (pa_cons (pv 1) pa_nil)))) (pw_or1 (pt_cmpR op_ne (pe_callB (c_lenB (K0 := K)) rfl c.b_len boot_len (pa_cons (pv 1) pa_nil)) (pe_callB (c_lenB (K0 := K)) rfl c.b_len boot_len (pa_cons (pe_fldB (K0 := K) (pv 0) rfl) pa_nil)) (nomark _))))) (pss_one (ps_ret pe_bl)) pss_nil)
      (pss_one (ps_ret (pe_callB (cr_all rfl) rfl c.b_all boot_all (pa_cons (pe_lc (own := [("name", 2)]) rfl sc_are_such_names.nd (pi_tupB (K0 := K) (pv 1)) (blkOk_by (N := ["term", "value", "name"]) (sc := defScope s_are_such_names) (by decide +kernel)) (fun _ _ _ _ _ => (tn 2 sc_are_such_names.nd)) (fun _ _ _ _ _ => pts_nil) (fun _ _ _ _ _ => (pe_fn C_is_name (hr.mono (by omega)) (pa_cons (pv 2) pa_nil)))) pa_nil))))), fun G H A0 Q kQ => ?_⟩) (fun _ _ _ _ _ _ us hl => match us, hl with | [_, _], _ => rfl)
  obtain ⟨t, ns⟩ := a
  obtain ⟨h1, h2, h3⟩ : GoodNs t.pg.nb ns := ha
  walk_at "lv"
  refine ev_callP ?_
  walk_at "lv"
  refine ⟨.inr ⟨_, rfl⟩, ?_⟩
  walk_at "lv"
  refine fv_ins c.cls_Term c.n_Term_own_names rfl ?_
  walk_at "lv"
  rw [List.length_map, List.length_map, show ns.length = t.pg.names.length from h1, decide_eq_true (rfl : ((t.pg.names.length : Int)) = (t.pg.names.length : Int))]
  walk_at "lv"
  refine ev_lcB PyData.str (fun _ => .bool true) (ei_tup (ev_var rfl ⟨_, rfl, ns, rfl, sz_small (by omega), fun x hx => ⟨_, tgt_name (by simp), ?_⟩, ?_⟩))
  · refine ev_callP ?_
    walk_at "lv"
    exact ⟨h3 x hx, rfl, rfl⟩
  · walk_at "lv"
    rw [show ns.map (fun _ => PyData.bool true) = (ns.map fun _ => true).map PyData.bool by rw [List.map_map] <;> rfl]
    refine cv_all ?_
    rw [show (ns.map fun _ => true).all id = true by simp]
    exact kQ _
abbrev spLookNames (T : Tb) (K : PySem.W.Frag) : Sp := SpP T (Tr × List Str) (fun a => [tmV K a.1, Mo.d (.tuple (a.2.map PyData.str))]) (fun a => GoodNs a.1.pg.nb a.2) (fun _ => Mo.d .none)
-- slots of look_at_names: 0 term, 1 names
theorem sc_look_at_names : FnScope ["term", "names"] ["term", "names"] (defScope s_look_at_names) := ⟨rfl, rfl, rfl, by decide +kernel, rfl, by decide +kernel, by decide +kernel⟩
theorem ok_look_at_names (c : Fc K mg) : Cal P w K mg base 3 "look_at_names" ["term", "names"] (spLookNames T K) := by
  have C_look_at_term : Cal P w K mg base 1 "look_at_term" ["term"] (spLookTerm T K) := ok_look_at_term c
  have C_are_such_names : Cal P w K mg base 2 "are_such_names" ["term", "value"] (spSuch T K) := ok_are_such_names c
  obtain ⟨fd, F⟩ := c.f_look_at_names
  refine fn_mk F c.g_look_at_names (fn_okP F sc_look_at_names (fun _ => rfl) (by decide) fun a ha cdv Ar outer s Hs Ex hr => ⟨_, (pss_cons (ps_expr (pe_fn C_look_at_term (hr.mono (by omega)) (pa_cons (pv 0) pa_nil)))
      (pss_one (ps_if (pt_not (pt_val (pe_fn C_are_such_names (hr.mono (by omega)) (pa_cons (pv 0) (pa_cons (pv 1) pa_nil))))) pss_never pss_nil))), fun G H A0 Q kQ => ?_⟩) (fun _ _ _ _ _ _ us hl => match us, hl with | [_, _], _ => rfl)
  obtain ⟨t, ns⟩ := a
  walk_at "lv"
  refine ev_callP (ea_cons (ev_var rfl (ea_nil ⟨t, rfl, trivial, ?_⟩)))
  walk_at "lv"
  refine ev_callP (ea_cons (ev_var rfl (ea_cons (ev_var rfl (ea_nil ⟨(t, ns), rfl, ha, ?_⟩)))))
  walk_at "lv"
  exact go_end (kQ _)
/-! ### inner -/
abbrev spInner (T : Tb) : Sp := SpP T (List Nat × Lv1) (fun a => [Mo.d (.tuple (natL a.1)), Mo.d a.2.en]) (fun a => a.1.length ≤ 1000) (fun a => Mo.d (.list (natL (innerOf a.1 a.2))))
-- slots of inner: 0 around, 1 meant, 2 binder
theorem sc_inner : FnScope ["around", "meant", "binder"] ["around", "meant"] (defScope s_inner) := ⟨rfl, rfl, rfl, by decide +kernel, rfl, by decide +kernel, by decide +kernel⟩
theorem ok_inner (c : Fc K mg) : Cal P w K mg base 1 "inner" ["around", "meant"] (spInner T) := by
  obtain ⟨fd, F⟩ := c.f_inner
  refine fn_mk F c.g_inner (fn_okP F sc_inner (fun _ => rfl) (by decide) fun a ha cdv Ar outer s Hs Ex hr => ⟨_, (pss_one (ps_ret (pe_ifExp (pt_val (pe_callB (call_isiB (K0 := K)) rfl c.b_isinstance boot_isinstance (pa_cons (pv 1) (pa_cons (bl_ty boot_str c.b_str) pa_nil)))) (pe_callTy (c_listB (K0 := K)) rfl c.b_list boot_list (pa_cons (pv 0) pa_nil)) (pe_lc (own := [("binder", 2)]) rfl sc_inner.nd (pi_tupB (K0 := K) (pv 0)) (blkOk_by (N := ["around", "meant", "binder"]) (sc := defScope s_inner) (by decide +kernel)) (fun _ _ _ _ _ => (tn 2 sc_inner.nd)) (fun _ _ _ _ _ => (pts_one (pt_cmpR op_gt (pv 2) (pv 1) (nomark _)))) (fun _ _ _ _ _ => (pv 2)))))), fun G H A0 Q kQ => ?_⟩) (fun _ _ _ _ _ _ us hl => match us, hl with | [_, _], _ => rfl)
  obtain ⟨ar, m⟩ := a
  have hl : ar.length ≤ 1000 := ha
  cases m with
  | b i =>
    walk_at "lv"
    refine cv_isi (b := false) "int" rfl (by decide +kernel) ?_
    walk_at "lv"
    refine ev_lcA (fun (m : Nat) => PyData.int (m : Int)) (fun m => decide (i < m)) (fun (m : Nat) => PyData.int (m : Int)) (ei_tup (ev_var rfl ⟨_, rfl, ar, rfl, sz_small (by omega), fun m hm => ⟨_, tgt_name (by simp), ?_⟩, ?_⟩))
    · walk_at "lv"
      refine ov_gt (i := (m : Int)) (j := (i : Int)) ⟨_, rfl, ?_, rfl, fun _ => ev_var rfl ⟨rfl, rfl⟩⟩
      exact decide_eq_decide.mpr (by omega)
    · exact kQ _
  | f x =>
    walk_at "lv"
    refine cv_isi (b := true) "str" rfl (by decide +kernel) ?_
    walk_at "lv"
    exact kQ _
end Lv
/-! #### D9 -/
namespace Lv
open PySem L2 StX PyProof.Rows
local macro_rules | `(tactic| walk_at "lv1") => `(tactic| first
  | with_reducible refine go_seq ?_
  | with_reducible refine go_set ?_
  | with_reducible refine go_ret ?_
  | with_reducible refine go_drop ?_
  | with_reducible refine go_if ?_
  | with_reducible refine ev_op ?_
  | with_reducible refine ev_cb ?_
  | with_reducible refine ea_cons ?_
  | with_reducible refine ea_nil ?_
  | refine ev_var rfl ?_
  | with_reducible refine ev_int ?_
  | with_reducible refine ev_str ?_
  | with_reducible refine ev_bl ?_
  | with_reducible refine ev_ty ?_
  | with_reducible refine ev_non ?_
  | with_reducible refine ev_cls ?_
  | with_reducible refine ev_un ?_
  | with_reducible refine ev_fld ?_
  | with_reducible refine ev_andV ?_
  | with_reducible refine ev_notV ?_
  | with_reducible refine ev_ifE ?_
  | with_reducible refine ev_chain ?_
  | with_reducible refine et_test ?_
  | with_reducible refine et_B ?_
  | with_reducible refine et_and ?_
  | with_reducible refine et_or ?_
  | with_reducible refine et_not ?_
  | with_reducible refine et_yes ?_
  | with_reducible refine ov_add ?_
  | with_reducible refine ov_sub ?_
  | with_reducible refine ov_lt ?_
  | with_reducible refine ov_le ?_
  | with_reducible refine ov_gt ?_
  | with_reducible refine ov_ge ?_
  | with_reducible refine ov_neg ?_
  | with_reducible refine ov_eqI ?_
  | with_reducible refine ov_neI ?_
  | with_reducible refine ov_eqS ?_
  | with_reducible refine ov_inSg ?_
  | with_reducible refine ov_inS ?_
  | with_reducible refine ov_inI ?_
  | with_reducible refine cv_lenL ?_
  | with_reducible refine cv_lenT ?_
  | with_reducible refine cv_max2 ?_
  | with_reducible refine cv_min2 ?_
  | with_reducible refine cv_intI ?_
  | with_reducible refine cv_intB ?_
  | with_reducible refine cv_tuple ?_
  | with_reducible refine cv_list (.inl rfl) ?_
  | with_reducible refine cv_list (.inr rfl) ?_
  | refine ov_ixT (n := 0) rfl ?_
  | refine ov_ixT (n := 1) rfl ?_
  | refine ov_ixT (n := 2) rfl ?_
  | refine ov_ixT (n := 3) rfl ?_
  | refine ov_ixL (n := 0) rfl ?_
  | refine ov_ixL (n := 1) rfl ?_
  | refine ov_ixL (n := 2) rfl ?_
  | refine iteT ?_
  | refine iteF ?_
  | with_reducible refine iteN (b := !true) rfl ?_
  | with_reducible refine iteP (b := !false) rfl ?_
  | with_reducible refine go_next ?_
  | refine ⟨_, rfl, ?_⟩)
local macro_rules | `(tactic| walk_at "lv") => `(tactic| repeat walk_at "lv1")
variable {P : Program} {w : World} {K : PySem.W.Frag} {mg : Str → Option Value} {base : Heap} {T : Tb}
theorem ev_extend {T : Tb} {ρ : Rho} {M : Mus} {Kk : Ks} {K0 : PySem.W.Frag} {to : TE} {tr : TA} (h : Ev T to ρ M fun φ M1 => ∃ p, φ = Mo.adr p ∧ (∃ (n : Nat) (ds : List PyData), M1[n]? = some (p, Mu.dl ds)) ∧ EvA T tr ρ M1 fun φs M2 => ∃ (es : List PyData) (n : Nat) (ds : List PyData), φs = [Mo.d (.list es)] ∧ M2[n]? = some (p, Mu.dl ds) ∧ ds.length + es.length ≤ sizeLine ∧ Kk (Mo.d .none) (M2.set n (p, Mu.dl (ds ++ es)))) :
    Ev T (tBM K0 "list" rExtend to tr) ρ M Kk := fun σ G H e s Q q =>
  h.run e s fun x φ M1 G1 H1 ⟨p, e1, ⟨n, ds, hn⟩, k⟩ p1 n1 => by
    subst e1
    obtain ⟨_, o, ho, ys, rfl, _⟩ := n1.st.at hn
    rw [show x = .ref p from p1]
    refine ⟨tyV_l ho, k σ G1 H1 (e.mono n1.g) n1.st _ fun vs φs M2 G2 H2 ⟨es, n2, ds2, e2, hn2, hl, k2⟩ p2 m2 => ?_⟩
    subst e2
    obtain ⟨y, rfl, hy⟩ := one p2
    obtain ⟨_, o, ho2, zs, rfl, hz⟩ := m2.st.at hn2
    obtain ⟨b, us, rfl, hb, hr⟩ := rep_list hy
    refine ⟨p, b, zs, us, rfl, rfl, ho2, m2.st.sub _ _ hb, by rw [hz.length, hr.length]; exact hl, ?_⟩
    exact q _ _ _ _ _ k2 Rep.non ((n1.trans m2).trans (Po.wrote m2.st hn2 (m' := Mu.dl (ds2 ++ es)) ⟨_, rfl, hz.append hr⟩))
/-- nothing is caught -/
def Right (p : Pg) (ns : List Str) : Prop := ∀ u ∈ p.uses, ∀ b ∈ innerOf u.2 (p.meant u), ns.getD b "" ≠ nameFor ns (p.meant u)
theorem Pg.meant_mem {p : Pg} {u : Str × List Nat} {i : Nat} (h : p.meant u = .b i) : i ∈ u.2 ∧ p.names.getD i "" = u.1 := by
  unfold Pg.meant at h
  split at h
  · rename_i b hb
    cases h
    have := List.mem_filter.mp (List.mem_of_getLast? hb)
    exact ⟨this.1, of_decide_eq_true this.2⟩
  · cases h
theorem Pg.Ok.meant_ok {p : Pg} (o : p.Ok) {u : Str × List Nat} (hu : u ∈ p.uses) : (p.meant u).ok p.names.length := by
  cases h : p.meant u with
  | b i => exact (o.use u hu).lt i (Pg.meant_mem h).1
  | f x => trivial
theorem inner_sub {ar : List Nat} {m : Lv1} {b : Nat} (h : b ∈ innerOf ar m) : b ∈ ar := by
  cases m with
  | b i => exact (List.mem_filter.mp h).1
  | f x => exact h
theorem inner_len (ar : List Nat) (m : Lv1) : (innerOf ar m).length ≤ ar.length := by
  cases m with
  | b i => exact List.length_filter_le _ _
  | f x => exact Nat.le_refl _
abbrev spCatch (T : Tb) (K : PySem.W.Frag) : Sp := SpP T (Tr × List Str) (fun a => [tmV K a.1, Mo.d (.tuple (a.2.map PyData.str))]) (fun a => a.1.size ≤ 30 ∧ GoodNs a.1.pg.nb a.2 ∧ Right a.1.pg a.2) (fun _ => Mo.d (.list []))
-- slots of catches_of: 0 term, 1 names, 2 found, 3 use, 4 meant, 5 some, 6 binder
theorem sc_catches_of : FnScope ["term", "names", "found", "use", "meant", "some", "binder"] ["term", "names"] (defScope s_catches_of) := ⟨rfl, rfl, rfl, by decide +kernel, rfl, by decide +kernel, by decide +kernel⟩
theorem ok_catches_of (c : Fc K mg) : Cal P w K mg base 2 "catches_of" ["term", "names"] (spCatch T K) := by
  have C_inner : Cal P w K mg base 1 "inner" ["around", "meant"] (spInner T) := ok_inner c
  have C_name_for : Cal P w K mg base 1 "name_for" ["names", "meant"] (spNameFor T) := ok_name_for c
  obtain ⟨fd, F⟩ := c.f_catches_of
  refine fn_mk F c.g_catches_of (fn_okP F sc_catches_of (fun _ => rfl) (by decide) fun a ha cdv Ar outer s Hs Ex hr => ⟨_, (pss_cons (ps_set (i := 2) sc_catches_of.nd rfl (Or.inl rfl) (pe_lst pa_nil))
      (pss_cons (ps_for PassesOwn.never rfl (pi_enum rfl c.b_enumerate (pa_cons (pe_fldB (K0 := K) (pv 0) rfl) pa_nil)) (pg_tupB (K0 := K) (n := 2) rfl (pgs_cons (tn 3 sc_catches_of.nd) (pgs_cons (tn 4 sc_catches_of.nd) pgs_nil))) (pss_cons (ps_setLc (i := 5) (own := [("binder", 6)]) rfl sc_catches_of.nd rfl rfl (sw_true rfl rfl rfl (by decide +kernel)) (pi_listB (K0 := K) (pe_fn C_inner (hr.mono (by omega)) (pa_cons (pe_ix (ix_seqB (K0 := K)) (pe_fldB (K0 := K) (pv 0) rfl) (pv 3) (fun _ _ => rfl)) (pa_cons (pv 4) pa_nil)))) (blkOk_by (N := ["term", "names", "found", "use", "meant", "some", "binder"]) (sc := defScope s_catches_of) (by decide +kernel)) (fun _ _ _ _ _ => (tn 6 sc_catches_of.nd)) (fun _ _ _ _ _ => (pts_one (pt_cmpR op_eq (pe_ix (ix_seqB (K0 := K)) (pv 1) (pv 6) (fun _ _ => rfl)) (pe_fn C_name_for (hr.mono (by omega)) (pa_cons (pv 1) (pa_cons (pv 4) pa_nil))) (nomark _)))) (fun _ _ _ _ _ => (pv 6)))
      (pss_one (ps_expr (pe_bm PySem.F.plainAttrs_list PySem.F.slot_list_extend PySem.F.type_list_extend mt_extend (pv 2) (pa_cons (pe_lc (own := [("binder", 6)]) rfl sc_catches_of.nd (pi_listB (K0 := K) (pv 5)) (blkOk_by (N := ["term", "names", "found", "use", "meant", "some", "binder"]) (sc := defScope s_catches_of) (by decide +kernel)) (fun _ _ _ _ _ => (tn 6 sc_catches_of.nd)) (fun _ _ _ _ _ => pts_nil) (fun _ _ _ _ _ => (pe_tup (pa_cons (pv 3) (pa_cons (pv 6) (pa_cons (pv 4) pa_nil)))))) pa_nil))))))
      (pss_one (ps_ret (pv 2))))), fun G H A0 Q kQ => ?_⟩) (fun _ _ _ _ _ _ us hl => match us, hl with | [_, _], _ => rfl)
  obtain ⟨t, ns⟩ := a
  obtain ⟨h0, ⟨h1, h2, h3⟩, h4⟩ : t.size ≤ 30 ∧ GoodNs t.pg.nb ns ∧ Right t.pg ns := ha
  have h1 : ns.length = t.pg.names.length := h1
  walk_at "lv"
  refine ev_lstM (ea_nil ⟨[], rfl, by simp, fun p => ?_⟩)
  walk_at "lv"
  refine go_for (vs := [3, 4]) (ei_enum (ea_cons (ev_fld (ev_var rfl (fv_ins c.cls_Term c.n_Term_own_meaning rfl (ea_nil ⟨_, rfl, ?_⟩))))))
  refine ⟨fun k ρ M => M = [(p, Mu.dl [])] ∧ ∃ x3 x4 x5 x6, ρ = [some (tmV K t), some (Mo.d (.tuple (ns.map PyData.str))), some (Mo.adr p), x3, x4, x5, x6], ⟨rfl, _, _, _, _, rfl⟩, ?_, ?_⟩
  · rintro k φ ρ1 M1 hk ⟨rfl, x3, x4, x5, x6, rfl⟩
    obtain ⟨d, hd, rfl⟩ := map_d_get hk
    obtain ⟨m, hm, rfl⟩ := enumD_get hd
    rw [List.getElem?_map, show t.pg.meaning = t.pg.uses.map t.pg.meant from rfl, List.getElem?_map] at hm
    cases hu : t.pg.uses[k]? with
    | none => rw [hu] at hm; cases hm
    | some u =>
      rw [hu] at hm
      cases hm
      have hmem := List.mem_of_getElem? hu
      have ch := t.pg_ok.use u hmem
      have hal := chn_len ch.up ch.lt
      have hnb := nb_le t
      rw [t.pg_nb] at hal
      have mok := t.pg_ok.meant_ok hmem
      have hil := inner_len u.2 (t.pg.meant u)
      refine ⟨_, tgt_tup rfl (tgts_cons (tgt_name (by simp)) (tgts_cons (tgt_name (by simp)) tgts_nil)), fun A N hA hN => ?_⟩
      walk_at "lv"
      refine ev_lcA (fun (m : Nat) => PyData.int (m : Int)) (fun _ => false) (fun (m : Nat) => PyData.int (m : Int)) (ei_list (ev_callP (ea_cons (ev_op (ev_fld (ev_var rfl (fv_ins c.cls_Term c.n_Term_use_around rfl (ev_var rfl (ov_ixL (n := k) (map_get hu) (ea_cons (ev_var rfl (ea_nil ⟨(u.2, t.pg.meant u), rfl, ?_, _, rfl, innerOf u.2 (t.pg.meant u), rfl, sz_small (by omega), fun b hb => ⟨_, tgt_name (by simp), ?_⟩, ?_⟩))))))))))))
      · show u.2.length ≤ 1000
        omega
      · have hbl : b < ns.length := by rw [h1]; exact ch.lt b (inner_sub hb)
        refine et_test (ev_op (ev_op (ev_var rfl (ev_var rfl (ov_ixT (map_getD hbl) (ev_callP (ea_cons (ev_var rfl (ea_cons (ev_var rfl (ea_nil ⟨(true, ns, t.pg.meant u), rfl, ?_, ov_eqS ⟨_, rfl, decide_eq_false (h4 u hmem b hb), rfl, fun z => (by cases z)⟩⟩)))))))))))
        show (t.pg.meant u).ok ns.length
        rw [h1]
        exact mok
      · rw [List.filter_eq_nil_iff.mpr (fun _ _ z => by cases z)]
        walk_at "lv"
        refine ev_extend (ev_var rfl ⟨p, rfl, ⟨0, _, rfl⟩, ea_cons (ev_lcB (fun (m : Nat) => PyData.int (m : Int)) (fun _ => PyData.none) (ei_list (ev_var rfl ⟨_, rfl, [], rfl, by simp, fun x hx => (by cases hx), ea_nil ⟨[], 0, [], rfl, rfl, by simp, ?_⟩⟩)))⟩)
        exact hN _ _ ⟨rfl, _, _, _, _, rfl⟩
  · rintro ρ1 M1 ⟨rfl, x3, x4, x5, x6, rfl⟩
    refine go_freeze (i := 2) (j := 0) rfl rfl ?_
    exact go_ret (ev_var rfl (kQ _))
abbrev spRight (T : Tb) (K : PySem.W.Frag) : Sp := SpP T (Tr × List Str) (fun a => [tmV K a.1, Mo.d (.tuple (a.2.map PyData.str))]) (fun a => a.1.size ≤ 30 ∧ GoodNs a.1.pg.nb a.2 ∧ Right a.1.pg a.2) (fun _ => Mo.d (.bool true))
-- slots of is_right: 0 term, 1 names
theorem sc_is_right : FnScope ["term", "names"] ["term", "names"] (defScope s_is_right) := ⟨rfl, rfl, rfl, by decide +kernel, rfl, by decide +kernel, by decide +kernel⟩
theorem ok_is_right (c : Fc K mg) : Cal P w K mg base 4 "is_right" ["term", "names"] (spRight T K) := by
  have C_look_at_names : Cal P w K mg base 3 "look_at_names" ["term", "names"] (spLookNames T K) := ok_look_at_names c
  have C_catches_of : Cal P w K mg base 2 "catches_of" ["term", "names"] (spCatch T K) := ok_catches_of c
  obtain ⟨fd, F⟩ := c.f_is_right
  refine fn_mk F c.g_is_right (fn_okP F sc_is_right (fun _ => rfl) (by decide) fun a ha cdv Ar outer s Hs Ex hr => ⟨_, (pss_cons (ps_expr (pe_fn C_look_at_names (hr.mono (by omega)) (pa_cons (pv 0) (pa_cons (pv 1) pa_nil))))
      (pss_one (ps_ret (pe_cmpR (op_eqDB (K0 := K) hr.units) (pe_fn C_catches_of (hr.mono (by omega)) (pa_cons (pv 0) (pa_cons (pv 1) pa_nil))) (pe_lst pa_nil) (nomark _))))), fun G H A0 Q kQ => ?_⟩) (fun _ _ _ _ _ _ us hl => match us, hl with | [_, _], _ => rfl)
  obtain ⟨t, ns⟩ := a
  walk_at "lv"
  refine ev_callP (ea_cons (ev_var rfl (ea_cons (ev_var rfl (ea_nil ⟨(t, ns), rfl, ha.2.1, ?_⟩)))))
  walk_at "lv"
  refine ev_callP (ea_cons (ev_var rfl (ea_cons (ev_var rfl (ea_nil ⟨(t, ns), rfl, ha, ev_lst (ea_nil ⟨[], rfl, by simp, ov_eqD shp_nil shp_nil ?_⟩)⟩)))))
  rw [eqv_nil]
  exact kQ _
abbrev spIsFrom (T : Tb) (K : PySem.W.Frag) : Sp := SpP T (Tr × List Str × List Str) (fun a => [tmV K a.1, Mo.d (strL a.2.1), Mo.d (.tuple (a.2.2.map PyData.str))]) (fun a => a.1.size ≤ 30 ∧ GoodNs a.1.pg.nb a.2.2 ∧ Right a.1.pg a.2.2 ∧ ∀ x ∈ a.2.2, x ∈ a.2.1) (fun _ => Mo.d (.bool true))
-- slots of is_from: 0 term, 1 pool, 2 names, 3 name
theorem sc_is_from : FnScope ["term", "pool", "names", "name"] ["term", "pool", "names"] (defScope s_is_from) := ⟨rfl, rfl, rfl, by decide +kernel, rfl, by decide +kernel, by decide +kernel⟩
theorem ok_is_from (c : Fc K mg) : Cal P w K mg base 3 "is_from" ["term", "pool", "names"] (spIsFrom T K) := by
  have C_are_such_names : Cal P w K mg base 2 "are_such_names" ["term", "value"] (spSuch T K) := ok_are_such_names c
  have C_catches_of : Cal P w K mg base 2 "catches_of" ["term", "names"] (spCatch T K) := ok_catches_of c
  obtain ⟨fd, F⟩ := c.f_is_from
  refine fn_mk F c.g_is_from (fn_okP F sc_is_from (fun _ => rfl) (by decide) fun a ha cdv Ar outer s Hs Ex hr => ⟨_, (pss_cons (ps_if (PW.pt (pw_or (pt_not (pt_val (pe_fn C_are_such_names (hr.mono (by omega)) (pa_cons (pv 0) (pa_cons (pv 2) pa_nil))))) (pw_or1 (pt_not (pt_val (pe_callB (cr_all rfl) rfl c.b_all boot_all (pa_cons (pe_lc (own := [("name", 3)]) rfl sc_is_from.nd (pi_tupB (K0 := K) (pv 2)) (blkOk_by (N := ["term", "pool", "names", "name"]) (sc := defScope s_is_from) (by decide +kernel)) (fun _ _ _ _ _ => (tn 3 sc_is_from.nd)) (fun _ _ _ _ _ => pts_nil) (fun _ _ _ _ _ => (pe_cmpR (op_in_seqB (K0 := K)) (pv 3) (pv 1) rfl))) pa_nil))))))) (pss_one (ps_ret pe_bl)) pss_nil)
      (pss_one (ps_ret (pe_cmpR (op_eqDB (K0 := K) hr.units) (pe_fn C_catches_of (hr.mono (by omega)) (pa_cons (pv 0) (pa_cons (pv 2) pa_nil))) (pe_lst pa_nil) (nomark _))))), fun G H A0 Q kQ => ?_⟩) (fun _ _ _ _ _ _ us hl => match us, hl with | [_, _, _], _ => rfl)
  obtain ⟨t, pool, ns⟩ := a
  obtain ⟨h0, h1, h2, h3⟩ : t.size ≤ 30 ∧ GoodNs t.pg.nb ns ∧ Right t.pg ns ∧ ∀ x ∈ ns, x ∈ pool := ha
  walk_at "lv"
  refine ev_callP (ea_cons (ev_var rfl (ea_cons (ev_var rfl (ea_nil ⟨(t, ns), rfl, h1, ?_⟩)))))
  walk_at "lv"
  refine ev_lcB PyData.str (fun _ => .bool true) (ei_tup (ev_var rfl ⟨_, rfl, ns, rfl, sz_small (by have := h1.1; have := h1.2.1; omega), fun x hx => ⟨_, tgt_name (by simp), ?_⟩, ?_⟩))
  · refine ev_op (ev_var rfl (ev_var rfl (ov_inS ⟨?_, rfl⟩)))
    rw [if_neg Bool.false_ne_true, decide_eq_true (h3 x hx)]
  · walk_at "lv"
    rw [show ns.map (fun _ => PyData.bool true) = (ns.map fun _ => true).map PyData.bool by rw [List.map_map] <;> rfl]
    refine cv_all ?_
    rw [show (ns.map fun _ => true).all id = true by simp]
    walk_at "lv"
    refine ev_callP (ea_cons (ev_var rfl (ea_cons (ev_var rfl (ea_nil ⟨(t, ns), rfl, ⟨h0, h1, h2⟩, ev_lst (ea_nil ⟨[], rfl, by simp, ov_eqD shp_nil shp_nil ?_⟩)⟩)))))
    rw [eqv_nil]
    exact kQ _
/-! ### pools -/
def GoodPool (pool : List Str) : Prop := pool.length ≤ 60 ∧ (∀ x ∈ pool, nmB x = true) ∧ pool.Nodup
abbrev spIsPool (T : Tb) : Sp := SpP T (List Str) (fun a => [Mo.d (strL a)]) GoodPool (fun _ => Mo.d (.bool true))
-- slots of is_pool: 0 value, 1 name
theorem sc_is_pool : FnScope ["value", "name"] ["value"] (defScope s_is_pool) := ⟨rfl, rfl, rfl, by decide +kernel, rfl, by decide +kernel, by decide +kernel⟩
theorem ok_is_pool (c : Fc K mg) : Cal P w K mg base 2 "is_pool" ["value"] (spIsPool T) := by
  have C_is_line : Cal P w K mg base 1 "is_line" ["value"] (spIsLine T) := ok_is_line c
  have C_is_name : Cal P w K mg base 1 "is_name" ["value"] (spIsName T) := ok_is_name c
  have C_are_unlike : Cal P w K mg base 1 "are_unlike" ["some"] (spUnlike T) := ok_are_unlike c
  obtain ⟨fd, F⟩ := c.f_is_pool
  refine fn_mk F c.g_is_pool (fn_okP F sc_is_pool (fun _ => rfl) (by decide) fun a ha cdv Ar outer s Hs Ex hr => ⟨_, (pss_cons (ps_if (PW.pt (pw_or (pt_not (pt_val (pe_fn C_is_line (hr.mono (by omega)) (pa_cons (pv 0) pa_nil)))) (pw_or (pt_cmpR op_gt (pe_callB (c_lenB (K0 := K)) rfl c.b_len boot_len (pa_cons (pv 0) pa_nil)) (gl_int c.i_MOST_POOL) (nomark _)) (pw_or1 (pt_not (pt_val (pe_callB (cr_all rfl) rfl c.b_all boot_all (pa_cons (pe_lc (own := [("name", 1)]) rfl sc_is_pool.nd (pi_listB (K0 := K) (pv 0)) (blkOk_by (N := ["value", "name"]) (sc := defScope s_is_pool) (by decide +kernel)) (fun _ _ _ _ _ => (tn 1 sc_is_pool.nd)) (fun _ _ _ _ _ => pts_nil) (fun _ _ _ _ _ => (pe_fn C_is_name (hr.mono (by omega)) (pa_cons (pv 1) pa_nil)))) pa_nil)))))))) (pss_one (ps_ret pe_bl)) pss_nil)
      (pss_one (ps_ret (pe_fn C_are_unlike (hr.mono (by omega)) (pa_cons (pv 0) pa_nil))))), fun G H A0 Q kQ => ?_⟩) (fun _ _ _ _ _ _ us hl => match us, hl with | [_], _ => rfl)
  obtain ⟨h1, h2, h3⟩ := ha
  walk_at "lv"
  refine ev_callP (ea_cons (ev_var rfl (ea_nil ⟨_, rfl, .inl ⟨_, rfl⟩, ?_⟩)))
  walk_at "lv"
  refine iteN (decide_eq_false ?_) ?_
  · rw [List.length_map]; omega
  walk_at "lv"
  refine ev_lcB PyData.str (fun _ => .bool true) (ei_list (ev_var rfl ⟨_, rfl, a, rfl, sz_small (by omega), fun x hx => ⟨_, tgt_name (by simp), ?_⟩, ?_⟩))
  · refine ev_callP ?_
    walk_at "lv"
    exact ⟨h2 x hx, rfl, rfl⟩
  · walk_at "lv"
    rw [show a.map (fun _ => PyData.bool true) = (a.map fun _ => true).map PyData.bool by rw [List.map_map] <;> rfl]
    refine cv_all ?_
    rw [show (a.map fun _ => true).all id = true by simp]
    walk_at "lv"
    refine ev_callP (ea_cons (ev_var rfl (ea_nil ⟨a, rfl, ⟨by omega, h3⟩, ?_⟩)))
    exact kQ _
abbrev spLookPool (T : Tb) (K : PySem.W.Frag) : Sp := SpP T (Tr × List Str) (fun a => [tmV K a.1, Mo.d (strL a.2)]) (fun a => GoodPool a.2) (fun _ => Mo.d .none)
-- slots of look_at_pool: 0 term, 1 pool
theorem sc_look_at_pool : FnScope ["term", "pool"] ["term", "pool"] (defScope s_look_at_pool) := ⟨rfl, rfl, rfl, by decide +kernel, rfl, by decide +kernel, by decide +kernel⟩
theorem ok_look_at_pool (c : Fc K mg) : Cal P w K mg base 3 "look_at_pool" ["term", "pool"] (spLookPool T K) := by
  have C_look_at_term : Cal P w K mg base 1 "look_at_term" ["term"] (spLookTerm T K) := ok_look_at_term c
  have C_is_pool : Cal P w K mg base 2 "is_pool" ["value"] (spIsPool T) := ok_is_pool c
  obtain ⟨fd, F⟩ := c.f_look_at_pool
  refine fn_mk F c.g_look_at_pool (fn_okP F sc_look_at_pool (fun _ => rfl) (by decide) fun a ha cdv Ar outer s Hs Ex hr => ⟨_, (pss_cons (ps_expr (pe_fn C_look_at_term (hr.mono (by omega)) (pa_cons (pv 0) pa_nil)))
      (pss_one (ps_if (pt_not (pt_val (pe_fn C_is_pool (hr.mono (by omega)) (pa_cons (pv 1) pa_nil)))) pss_never pss_nil))), fun G H A0 Q kQ => ?_⟩) (fun _ _ _ _ _ _ us hl => match us, hl with | [_, _], _ => rfl)
  obtain ⟨t, pool⟩ := a
  walk_at "lv"
  refine ev_callP (ea_cons (ev_var rfl (ea_nil ⟨t, rfl, trivial, ?_⟩)))
  walk_at "lv"
  refine ev_callP (ea_cons (ev_var rfl (ea_nil ⟨pool, rfl, ha, ?_⟩)))
  walk_at "lv"
  exact go_end (kQ _)
end Lv
/-! #### D10 -/
namespace Lv
open PySem L2 StX PyProof.Rows
local macro_rules | `(tactic| walk_at "lv1") => `(tactic| first
  | with_reducible refine go_seq ?_
  | with_reducible refine go_set ?_
  | with_reducible refine go_ret ?_
  | with_reducible refine go_drop ?_
  | with_reducible refine go_if ?_
  | with_reducible refine ev_op ?_
  | with_reducible refine ev_cb ?_
  | with_reducible refine ea_cons ?_
  | with_reducible refine ea_nil ?_
  | refine ev_var rfl ?_
  | with_reducible refine ev_int ?_
  | with_reducible refine ev_str ?_
  | with_reducible refine ev_bl ?_
  | with_reducible refine ev_ty ?_
  | with_reducible refine ev_non ?_
  | with_reducible refine ev_cls ?_
  | with_reducible refine ev_un ?_
  | with_reducible refine ev_fld ?_
  | with_reducible refine ev_andV ?_
  | with_reducible refine ev_notV ?_
  | with_reducible refine ev_ifE ?_
  | with_reducible refine ev_chain ?_
  | with_reducible refine et_test ?_
  | with_reducible refine et_B ?_
  | with_reducible refine et_and ?_
  | with_reducible refine et_or ?_
  | with_reducible refine et_not ?_
  | with_reducible refine et_yes ?_
  | with_reducible refine ov_add ?_
  | with_reducible refine ov_sub ?_
  | with_reducible refine ov_lt ?_
  | with_reducible refine ov_le ?_
  | with_reducible refine ov_gt ?_
  | with_reducible refine ov_ge ?_
  | with_reducible refine ov_neg ?_
  | with_reducible refine ov_eqI ?_
  | with_reducible refine ov_neI ?_
  | with_reducible refine ov_eqS ?_
  | with_reducible refine ov_inSg ?_
  | with_reducible refine ov_inS ?_
  | with_reducible refine ov_inI ?_
  | with_reducible refine cv_lenL ?_
  | with_reducible refine cv_lenT ?_
  | with_reducible refine cv_max2 ?_
  | with_reducible refine cv_min2 ?_
  | with_reducible refine cv_intI ?_
  | with_reducible refine cv_intB ?_
  | with_reducible refine cv_tuple ?_
  | with_reducible refine cv_list (.inl rfl) ?_
  | with_reducible refine cv_list (.inr rfl) ?_
  | refine ov_ixT (n := 0) rfl ?_
  | refine ov_ixT (n := 1) rfl ?_
  | refine ov_ixT (n := 2) rfl ?_
  | refine ov_ixT (n := 3) rfl ?_
  | refine ov_ixL (n := 0) rfl ?_
  | refine ov_ixL (n := 1) rfl ?_
  | refine ov_ixL (n := 2) rfl ?_
  | refine iteT ?_
  | refine iteF ?_
  | with_reducible refine iteN (b := !true) rfl ?_
  | with_reducible refine iteP (b := !false) rfl ?_
  | with_reducible refine go_next ?_
  | refine ⟨_, rfl, ?_⟩)
local macro_rules | `(tactic| walk_at "lv") => `(tactic| repeat walk_at "lv1")
variable {P : Program} {w : World} {K : PySem.W.Frag} {mg : Str → Option Value} {base : Heap} {T : Tb}
/-! ### what is live -/
def Lv1.num : Lv1 → Option Nat
  | .b i => some i
  | .f _ => none
def Lv1.txt : Lv1 → Option Str
  | .b _ => none
  | .f x => some x
def Lv1.key : Lv1 → Key
  | .b i => .inl (i : Int)
  | .f x => .inr x
theorem Lv1.keyD (m : Lv1) : Lv.keyD m.key = m.en := by cases m <;> rfl
theorem Lv1.key_inj {a b : Lv1} (h : a.key = b.key) : a = b := by
  cases a with
  | b i =>
    cases b with
    | b j => have : (i : Int) = (j : Int) := Sum.inl.inj h; rw [Int.ofNat.inj this]
    | f y => cases h
  | f x =>
    cases b with
    | b j => cases h
    | f y => rw [show x = y from Sum.inr.inj h]
def numsL (ms : List Lv1) : List Nat := ms.filterMap Lv1.num
def txtsL (ms : List Lv1) : List Str := ms.filterMap Lv1.txt
/-- each once, those of fewer letters first -/
def ordS (ss : List Str) : List Str := (uq ss).mergeSort (PySem.W.dataLe false kS)
theorem ordS_perm (ss : List Str) : (ordS ss).Perm (uq ss) := List.mergeSort_perm _ _
def lineL (ms : List Lv1) : List Lv1 := (sortN (numsL ms)).map .b ++ (ordS (txtsL ms)).map .f
theorem numsL_len (ms : List Lv1) : (numsL ms).length ≤ ms.length := List.length_filterMap_le _ _
theorem txtsL_len (ms : List Lv1) : (txtsL ms).length ≤ ms.length := List.length_filterMap_le _ _
theorem sortN_len (ns : List Nat) : (sortN ns).length = ns.length := (sortN_perm ns).length_eq
theorem ordS_len (ss : List Str) : (ordS ss).length ≤ ss.length := by rw [(ordS_perm ss).length_eq]; exact uq_len ss
theorem mem_ordS {ss : List Str} {x : Str} : x ∈ ordS ss ↔ x ∈ ss := by rw [(ordS_perm ss).mem_iff, mem_uq]
theorem num_txt_len : ∀ ms : List Lv1, (numsL ms).length + (txtsL ms).length = ms.length
  | [] => rfl
  | .b i :: r => by
    show (numsL r).length + 1 + (txtsL r).length = r.length + 1
    have := num_txt_len r
    omega
  | .f x :: r => by
    show (numsL r).length + ((txtsL r).length + 1) = r.length + 1
    have := num_txt_len r
    omega
theorem lineL_len (ms : List Lv1) : (lineL ms).length ≤ ms.length := by
  unfold lineL
  rw [List.length_append, List.length_map, List.length_map, sortN_len]
  have h1 := ordS_len (txtsL ms)
  have h2 := num_txt_len ms
  omega
abbrev spOrdered (T : Tb) : Sp := SpP T (List Str) (fun ss => [Mo.d (strL ss)]) (fun ss => ss.length ≤ 1000 ∧ ∀ x ∈ ss, nmB x = true) (fun ss => Mo.d (strL (ordS ss)))
/-- a dict of what is met -/
def dkM (ms : List Lv1) : List (Key × Mo) := ms.map fun m => (m.key, Mo.d (.bool true))
theorem dkM_put (ms : List Lv1) (m : Lv1) : putKM (dkM ms) m.key (Mo.d (.bool true)) = dkM (if m ∈ ms then ms else ms ++ [m]) := by
  have ha : ((dkM ms).any fun kv => decide (kv.1 = m.key)) = decide (m ∈ ms) := by
    unfold dkM
    induction ms with
    | nil => rfl
    | cons y r ih =>
      rw [List.map_cons, List.any_cons, ih]
      by_cases h : y = m
      · subst h; simp
      · have h' : ¬ m = y := fun z => h z.symm
        have h2 : ¬ y.key = m.key := fun z => h (Lv1.key_inj z)
        simp [h', h2]
  unfold putKM
  rw [ha]
  by_cases h : m ∈ ms
  · rw [decide_eq_true h, if_pos rfl, if_pos h]
    unfold dkM
    rw [List.map_map]
    apply List.map_congr_left
    intro y _
    show (if y.key = m.key then (y.key, Mo.d (.bool true)) else _) = _
    split <;> rfl
  · rw [decide_eq_false h, if_neg Bool.false_ne_true, if_neg h]
    unfold dkM
    rw [List.map_append] <;> rfl
def keyIsTxt : Key → Bool
  | .inl _ => false
  | .inr _ => true
theorem dkM_nums (ms : List Lv1) : (((dkM ms).map (·.1)).filter fun k => !keyIsTxt k).map keyD = (numsL ms).map fun (n : Nat) => PyData.int (n : Int) := by
  induction ms with
  | nil => rfl
  | cons m r ih =>
    cases m with
    | b i =>
      show PyData.int (i : Int) :: (((dkM r).map (·.1)).filter fun k => !keyIsTxt k).map keyD = PyData.int (i : Int) :: (numsL r).map _
      rw [ih]
    | f x => exact ih
theorem dkM_txts (ms : List Lv1) : (((dkM ms).map (·.1)).filter keyIsTxt).map keyD = (txtsL ms).map PyData.str := by
  induction ms with
  | nil => rfl
  | cons m r ih =>
    cases m with
    | b i => exact ih
    | f x =>
      show PyData.str x :: (((dkM r).map (·.1)).filter keyIsTxt).map keyD = PyData.str x :: (txtsL r).map _
      rw [ih]
abbrev spInLine (T : Tb) : Sp := SpG T (Addr × List Lv1) (fun a => [Mo.adr a.1]) (fun a => [(a.1, Mu.dk (dkM a.2))]) (fun a => a.2.length ≤ 500 ∧ ∀ x ∈ txtsL a.2, nmB x = true) (fun a φ M => φ = Mo.d (.list ((lineL a.2).map Lv1.en)) ∧ M = [(a.1, Mu.dk (dkM a.2))])
-- slots of in_line: 0 some, 1 binders, 2 one
theorem sc_in_line : FnScope ["some", "binders", "one"] ["some"] (defScope s_in_line) := ⟨rfl, rfl, rfl, by decide +kernel, rfl, by decide +kernel, by decide +kernel⟩
theorem ok_in_line (c : Fc K mg) (C_ordered : Cal P w K mg base 5 "ordered" ["names"] (spOrdered T)) : Cal P w K mg base 6 "in_line" ["some"] (spInLine T) := by
  obtain ⟨fd, F⟩ := c.f_in_line
  refine fn_mk F c.g_in_line (fn_ok F sc_in_line (fun _ => rfl) (by decide) fun a ha cdv Ar outer s Hs Ex hr => ⟨_, (pss_cons (ps_lock (ps_setLc (i := 1) (own := [("one", 2)]) rfl sc_in_line.nd rfl rfl (sw_true rfl rfl rfl (by decide +kernel)) (pi_keys (pv 0)) (blkOk_by (N := ["some", "binders", "one"]) (sc := defScope s_in_line) (by decide +kernel)) (fun _ _ _ _ _ => (tn 2 sc_in_line.nd)) (fun _ _ _ _ _ => (pts_one (pt_not (pt_val (pe_callB (call_isiB (K0 := K)) rfl c.b_isinstance boot_isinstance (pa_cons (pv 2) (pa_cons (bl_ty boot_str c.b_str) pa_nil))))))) (fun _ _ _ _ _ => (pv 2))))
      (pss_one (ps_ret (pe_lst (pa_starB (K0 := K) (pe_callB cr_sortedI rfl c.b_sorted boot_sorted (pa_cons (pv 1) pa_nil)) (pa_starB (K0 := K) (pe_fn C_ordered (hr.mono (by omega)) (pa_cons (pe_lock (pe_lc (own := [("one", 2)]) rfl sc_in_line.nd (pi_keys (pv 0)) (blkOk_by (N := ["some", "binders", "one"]) (sc := defScope s_in_line) (by decide +kernel)) (fun _ _ _ _ _ => (tn 2 sc_in_line.nd)) (fun _ _ _ _ _ => (pts_one (pt_val (pe_callB (call_isiB (K0 := K)) rfl c.b_isinstance boot_isinstance (pa_cons (pv 2) (pa_cons (bl_ty boot_str c.b_str) pa_nil)))))) (fun _ _ _ _ _ => (pv 2)))) pa_nil)) pa_nil)))))), fun G H A0 Q kQ => ?_⟩) (fun _ _ _ _ _ _ us hl => match us, hl with | [_], _ => rfl)
  obtain ⟨p, ms⟩ := a
  obtain ⟨h1, h2⟩ : ms.length ≤ 500 ∧ ∀ x ∈ txtsL ms, nmB x = true := ha
  have hk : (dkM ms).length = ms.length := by unfold dkM; rw [List.length_map]
  walk_at "lv"
  refine go_lockset (go_set (ev_lockKeys (n := 0) (kvs := dkM ms) (p := p) (fun k => !keyIsTxt k) (by simp) (show 2 < 3 by decide) rfl (by rw [hk]; exact sz_small (by omega)) (fun M1 => ev_var rfl ⟨rfl, rfl⟩) (fun k M1 => ?_) ?_))
  · cases k with
    | inl i => exact et_not (et_test (ev_cb (ea_cons (ev_var rfl (ea_cons (ev_ty (ea_nil (cv_isi (b := false) "int" rfl (by decide +kernel) ⟨_, rfl, rfl, rfl⟩))))))))
    | inr x => exact et_not (et_test (ev_cb (ea_cons (ev_var rfl (ea_cons (ev_ty (ea_nil (cv_isi (b := true) "str" rfl (by decide +kernel) ⟨_, rfl, rfl, rfl⟩))))))))
  rw [dkM_nums, show (numsL ms).map (fun (n : Nat) => PyData.int (n : Int)) = ((numsL ms).map fun (n : Nat) => (n : Int)).map PyData.int by rw [List.map_map] <;> rfl]
  refine go_ret (ev_lst (ea_star (ev_cb (ea_cons (ev_var rfl (ea_nil (cv_sortI fun ns' q1 q2 => ?_)))))))
  refine ⟨_, .inl rfl, ea_star (ev_callP (ea_cons (ev_lockKeys (n := 0) (kvs := dkM ms) (p := p) keyIsTxt (by simp) (show 2 < 3 by decide) rfl (by rw [hk]; exact sz_small (by omega)) (fun M1 => ev_var rfl ⟨rfl, rfl⟩) (fun k M1 => ?_) ?_)))⟩
  · cases k with
    | inl i => exact et_test (ev_cb (ea_cons (ev_var rfl (ea_cons (ev_ty (ea_nil (cv_isi (b := false) "int" rfl (by decide +kernel) ⟨_, rfl, rfl, rfl⟩)))))))
    | inr x => exact et_test (ev_cb (ea_cons (ev_var rfl (ea_cons (ev_ty (ea_nil (cv_isi (b := true) "str" rfl (by decide +kernel) ⟨_, rfl, rfl, rfl⟩)))))))
  rw [dkM_txts]
  have l1 := txtsL_len ms
  have l2 := lineL_len ms
  refine ea_nil ⟨txtsL ms, rfl, ⟨by omega, h2⟩, _, .inl rfl, ea_nil ⟨(lineL ms).map Lv1.en, ?_, sz_small (by rw [List.length_map]; omega), kQ _ _ [] ⟨rfl, rfl⟩⟩⟩
  rw [sorted_nat q1 q2]
  simp only [lineL, List.append_nil, List.map_append, List.map_map]
  rfl
end Lv
/-! #### D11 -/
namespace Lv
open PySem L2 StX PyProof.Rows
local macro_rules | `(tactic| walk_at "lv1") => `(tactic| first
  | with_reducible refine go_seq ?_
  | with_reducible refine go_set ?_
  | with_reducible refine go_ret ?_
  | with_reducible refine go_drop ?_
  | with_reducible refine go_if ?_
  | with_reducible refine ev_op ?_
  | with_reducible refine ev_cb ?_
  | with_reducible refine ea_cons ?_
  | with_reducible refine ea_nil ?_
  | refine ev_var rfl ?_
  | with_reducible refine ev_int ?_
  | with_reducible refine ev_str ?_
  | with_reducible refine ev_bl ?_
  | with_reducible refine ev_ty ?_
  | with_reducible refine ev_non ?_
  | with_reducible refine ev_cls ?_
  | with_reducible refine ev_un ?_
  | with_reducible refine ev_fld ?_
  | with_reducible refine ev_andV ?_
  | with_reducible refine ev_notV ?_
  | with_reducible refine ev_ifE ?_
  | with_reducible refine ev_chain ?_
  | with_reducible refine et_test ?_
  | with_reducible refine et_B ?_
  | with_reducible refine et_and ?_
  | with_reducible refine et_or ?_
  | with_reducible refine et_not ?_
  | with_reducible refine et_yes ?_
  | with_reducible refine ov_add ?_
  | with_reducible refine ov_sub ?_
  | with_reducible refine ov_lt ?_
  | with_reducible refine ov_le ?_
  | with_reducible refine ov_gt ?_
  | with_reducible refine ov_ge ?_
  | with_reducible refine ov_neg ?_
  | with_reducible refine ov_eqI ?_
  | with_reducible refine ov_neI ?_
  | with_reducible refine ov_eqS ?_
  | with_reducible refine ov_inSg ?_
  | with_reducible refine ov_inS ?_
  | with_reducible refine ov_inI ?_
  | with_reducible refine cv_lenL ?_
  | with_reducible refine cv_lenT ?_
  | with_reducible refine cv_max2 ?_
  | with_reducible refine cv_min2 ?_
  | with_reducible refine cv_intI ?_
  | with_reducible refine cv_intB ?_
  | with_reducible refine cv_tuple ?_
  | with_reducible refine cv_list (.inl rfl) ?_
  | with_reducible refine cv_list (.inr rfl) ?_
  | refine ov_ixT (n := 0) rfl ?_
  | refine ov_ixT (n := 1) rfl ?_
  | refine ov_ixT (n := 2) rfl ?_
  | refine ov_ixT (n := 3) rfl ?_
  | refine ov_ixL (n := 0) rfl ?_
  | refine ov_ixL (n := 1) rfl ?_
  | refine ov_ixL (n := 2) rfl ?_
  | refine iteT ?_
  | refine iteF ?_
  | with_reducible refine iteN (b := !true) rfl ?_
  | with_reducible refine iteP (b := !false) rfl ?_
  | with_reducible refine go_next ?_
  | refine ⟨_, rfl, ?_⟩)
local macro_rules | `(tactic| walk_at "lv") => `(tactic| repeat walk_at "lv1")
variable {P : Program} {w : World} {K : PySem.W.Frag} {mg : Str → Option Value} {base : Heap} {T : Tb}
def addL (ms : List Lv1) (m : Lv1) : List Lv1 := if m ∈ ms then ms else ms ++ [m]
theorem uq_add (ms : List Lv1) (m : Lv1) : uq (ms ++ [m]) = addL (uq ms) m := uq_snoc ms m
def Pg.nearU (p : Pg) (us : List (Str × List Nat)) (b : Nat) : List Lv1 := (us.filter fun u => decide (b ∈ innerOf u.2 (p.meant u))).map p.meant
def Pg.near (p : Pg) (b : Nat) : List Lv1 := p.nearU p.uses b
/-- what is live at a binder -/
def Pg.live (p : Pg) (b : Nat) : List Lv1 := lineL (uq (p.near b))
def Pg.allLive (p : Pg) : List (List Lv1) := (List.range p.nb).map p.live
def liveD (ms : List Lv1) : PyData := .list (ms.map Lv1.en)
/-- dicts that may change -/
def mkD (as : List Addr) (D : Nat → List Lv1) : Mus := as.mapIdx fun i a => (a, Mu.dk (dkM (D i)))
theorem mkD_get {as : List Addr} {D : Nat → List Lv1} {x : Nat} {a : Addr} (h : as[x]? = some a) : (mkD as D)[x]? = some (a, Mu.dk (dkM (D x))) := by
  unfold mkD
  rw [List.getElem?_mapIdx, h] <;> rfl
theorem mkD_snoc (as : List Addr) (D : Nat → List Lv1) (p : Addr) : mkD (as ++ [p]) D = mkD as D ++ [(p, Mu.dk (dkM (D as.length)))] := by
  unfold mkD
  rw [List.mapIdx_concat]
theorem mkD_set {as : List Addr} {D D' : Nat → List Lv1} {x : Nat} {a : Addr} (h : as[x]? = some a) (hD : ∀ i, i ≠ x → D' i = D i) : (mkD as D).set x (a, Mu.dk (dkM (D' x))) = mkD as D' := by
  apply List.ext_getElem?
  intro i
  by_cases hi : x = i
  · subst hi
    rw [List.getElem?_set_self (by unfold mkD; rw [List.length_mapIdx]; exact (List.getElem?_eq_some_iff.mp h).1), mkD_get h]
  · rw [List.getElem?_set_ne hi]
    unfold mkD
    rw [List.getElem?_mapIdx, List.getElem?_mapIdx, hD i (Ne.symm hi)]
theorem inner_nodup {ar : List Nat} (h : ar.Pairwise (· < ·)) (m : Lv1) : (innerOf ar m).Nodup := by
  have hn : ar.Nodup := h.imp fun h e => by omega
  cases m with
  | b i => exact hn.filter _
  | f x => exact hn
theorem take_nmem {α : Type} {xs : List α} {k : Nat} {x : α} (hn : xs.Nodup) (h : xs[k]? = some x) : x ∉ xs.take k := fun hm => by
  obtain ⟨hk, e⟩ := List.getElem?_eq_some_iff.mp h
  obtain ⟨j, hj, ej⟩ := List.mem_iff_getElem.mp hm
  rw [List.length_take] at hj
  rw [List.getElem_take] at ej
  have := (List.getElem_inj hn).mp (ej.trans e.symm)
  omega
/-- behind so many uses, and j of the binders that are met -/
def Pg.inD (p : Pg) (us : List (Str × List Nat)) (bs : List Nat) (m : Lv1) (j b : Nat) : List Lv1 := if b ∈ bs.take j then addL (uq (p.nearU us b)) m else uq (p.nearU us b)
theorem inD_zero (p : Pg) (us : List (Str × List Nat)) (bs : List Nat) (m : Lv1) : (fun b => uq (p.nearU us b)) = p.inD us bs m 0 := by
  funext b
  unfold Pg.inD
  rw [List.take_zero, if_neg (by simp)]
theorem inD_at {p : Pg} {us : List (Str × List Nat)} {bs : List Nat} {m : Lv1} {j x : Nat} (hn : bs.Nodup) (h : bs[j]? = some x) : p.inD us bs m j x = uq (p.nearU us x) := by
  unfold Pg.inD
  rw [if_neg (take_nmem hn h)]
theorem inD_new {p : Pg} {us : List (Str × List Nat)} {bs : List Nat} {m : Lv1} {j x : Nat} (h : bs[j]? = some x) : p.inD us bs m (j + 1) x = addL (uq (p.nearU us x)) m := by
  unfold Pg.inD
  rw [take_succ' h, if_pos (by simp)]
theorem inD_old {p : Pg} {us : List (Str × List Nat)} {bs : List Nat} {m : Lv1} {j x i : Nat} (h : bs[j]? = some x) (hi : i ≠ x) : p.inD us bs m (j + 1) i = p.inD us bs m j i := by
  unfold Pg.inD
  rw [take_succ' h]
  have : (i ∈ bs.take j ++ [x]) ↔ i ∈ bs.take j := by
    rw [List.mem_append, List.mem_singleton]
    exact ⟨fun h => h.resolve_right hi, .inl⟩
  by_cases h : i ∈ bs.take j
  · rw [if_pos h, if_pos (this.mpr h)]
  · rw [if_neg h, if_neg fun z => h (this.mp z)]
theorem inD_end {p : Pg} {k : Nat} {u : Str × List Nat} (hu : p.uses[k]? = some u) : p.inD (p.uses.take k) (innerOf u.2 (p.meant u)) (p.meant u) (innerOf u.2 (p.meant u)).length = fun b => uq (p.nearU (p.uses.take (k + 1)) b) := by
  funext b
  unfold Pg.inD Pg.nearU
  rw [List.take_length, take_succ' hu, List.filter_append, List.map_append, List.filter_cons, List.filter_nil]
  by_cases h : b ∈ innerOf u.2 (p.meant u)
  · rw [if_pos h, if_pos (decide_eq_true h), List.map_cons, List.map_nil, uq_add]
  · rw [if_neg h, if_neg (fun z => h (of_decide_eq_true z)), List.map_nil, List.append_nil]
abbrev spAllLive (T : Tb) (K : PySem.W.Frag) : Sp := SpP T Tr (fun t => [tmV K t]) (fun t => t.size ≤ 30 ∧ ∀ u ∈ t.pg.uses, nmB u.1 = true) (fun t => Mo.d (.list (t.pg.allLive.map liveD)))
-- slots of all_live: 0 term, 1 found, 2 use, 3 meant, 4 binder, 5 name, 6 some
theorem sc_all_live : FnScope ["term", "found", "use", "meant", "binder", "name", "some"] ["term"] (defScope s_all_live) := ⟨rfl, rfl, rfl, by decide +kernel, rfl, by decide +kernel, by decide +kernel⟩
theorem near_txt {p : Pg} {us : List (Str × List Nat)} {b : Nat} {x : Str} (h : x ∈ txtsL (uq (p.nearU us b))) : ∃ u ∈ us, u.1 = x ∧ p.meant u = .f x ∧ b ∈ u.2 := by
  obtain ⟨m, hm, e⟩ := List.mem_filterMap.mp h
  rw [mem_uq] at hm
  obtain ⟨u, hu, rfl⟩ := List.mem_map.mp hm
  obtain ⟨h1, h2⟩ := List.mem_filter.mp hu
  have h2 := of_decide_eq_true h2
  cases hq : p.meant u with
  | b i => rw [hq] at e; cases e
  | f y =>
    rw [hq] at e h2
    cases e
    refine ⟨u, h1, ?_, hq, h2⟩
    unfold Pg.meant at hq
    split at hq
    · cases hq
    · cases hq; rfl
theorem nearU_len (p : Pg) (us : List (Str × List Nat)) (b : Nat) : (p.nearU us b).length ≤ us.length := by
  unfold Pg.nearU
  rw [List.length_map]
  exact List.length_filter_le _ _
theorem ok_all_live (c : Fc K mg) (C_ordered : Cal P w K mg base 5 "ordered" ["names"] (spOrdered T)) : Cal P w K mg base 7 "all_live" ["term"] (spAllLive T K) := by
  have C_inner : Cal P w K mg base 1 "inner" ["around", "meant"] (spInner T) := ok_inner c
  have C_in_line : Cal P w K mg base 6 "in_line" ["some"] (spInLine T) := ok_in_line c C_ordered
  obtain ⟨fd, F⟩ := c.f_all_live
  refine fn_mk F c.g_all_live (fn_okP F sc_all_live (fun _ => rfl) (by decide) fun t ht cdv Ar outer s Hs Ex hr => ⟨_, (pss_cons (ps_setLc (i := 1) (own := [("name", 5)]) rfl sc_all_live.nd rfl rfl (sw_true rfl rfl rfl (by decide +kernel)) (pi_tupB (K0 := K) (pe_fldB (K0 := K) (pv 0) rfl)) (blkOk_by (N := ["term", "found", "use", "meant", "binder", "name", "some"]) (sc := defScope s_all_live) (by decide +kernel)) (fun _ _ _ _ _ => (tn 5 sc_all_live.nd)) (fun _ _ _ _ _ => pts_nil) (fun _ _ _ _ _ => pe_dnewK))
      (pss_cons (ps_for PassesOwn.never rfl (pi_enum rfl c.b_enumerate (pa_cons (pe_fldB (K0 := K) (pv 0) rfl) pa_nil)) (pg_tupB (K0 := K) (n := 2) rfl (pgs_cons (tn 2 sc_all_live.nd) (pgs_cons (tn 3 sc_all_live.nd) pgs_nil))) (pss_one (ps_for PassesOwn.never rfl (pi_listB (K0 := K) (pe_fn C_inner (hr.mono (by omega)) (pa_cons (pe_ix (ix_seqB (K0 := K)) (pe_fldB (K0 := K) (pv 0) rfl) (pv 2) (fun _ _ => rfl)) (pa_cons (pv 3) pa_nil)))) (tn 4 sc_all_live.nd) (pss_one (ps_dput (hu_of hr) (pe_ix (ix_seqB (K0 := K)) (pv 1) (pv 4) (fun _ _ => rfl)) (pv 3) pe_bl rfl)))))
      (pss_one (ps_ret (pe_lc (own := [("some", 6)]) rfl sc_all_live.nd (pi_listB (K0 := K) (pv 1)) (blkOk_by (N := ["term", "found", "use", "meant", "binder", "name", "some"]) (sc := defScope s_all_live) (by decide +kernel)) (fun _ _ _ _ _ => (tn 6 sc_all_live.nd)) (fun _ _ _ _ _ => pts_nil) (fun _ _ _ _ _ => (pe_fn C_in_line (hr.mono (by omega)) (pa_cons (pv 6) pa_nil)))))))), fun G H A0 Q kQ => ?_⟩) (fun _ _ _ _ _ _ us hl => match us, hl with | [_], _ => rfl)
  obtain ⟨h0, h1⟩ := ht
  have hnb := nb_le t
  have hpn := t.pg_nb
  have hus := t.pg_uses
  walk_at "lv"
  refine ev_lc (ei_tup (ev_fld (ev_var rfl (fv_ins c.cls_Term c.n_Term_own_names rfl ⟨_, rfl, ?_⟩))))
  refine ⟨fun k acc M2 => ∃ as : List Addr, as.length = k ∧ k ≤ t.pg.nb ∧ acc = as.map Mo.adr ∧ M2 = mkD as (fun _ => []), ⟨[], rfl, Nat.zero_le _, rfl, rfl⟩, ?_, ?_⟩
  · rintro k φ acc M2 hk ⟨as, e1, e2, rfl, rfl⟩
    have hk2 := (List.getElem?_eq_some_iff.mp hk).1
    rw [List.length_map, List.length_map] at hk2
    refine ⟨_, tgt_name (by simp), et_yes (iteT (ev_dnew fun p => ⟨by rw [List.length_map]; exact sz_lt (by omega), as ++ [p], by rw [List.length_append, e1] <;> rfl, hk2, by rw [List.map_append] <;> rfl, ?_⟩))⟩
    rw [mkD_snoc] <;> rfl
  rintro acc M2 ⟨as, e1, e2, rfl, rfl⟩
  rw [List.length_map, List.length_map] at e1
  have e1 : as.length = t.pg.names.length := e1
  walk_at "lv"
  refine go_for (vs := [2, 3]) (ei_enum (ea_cons (ev_fld (ev_var rfl (fv_ins c.cls_Term c.n_Term_own_meaning rfl (ea_nil ⟨_, rfl, ?_⟩))))))
  refine ⟨fun k ρ M => M = mkD as (fun b => uq (t.pg.nearU (t.pg.uses.take k) b)) ∧ ∃ x2 x3 x4 x5 x6, ρ = [some (tmV K t), some (Mo.ls (as.map Mo.adr)), x2, x3, x4, x5, x6], ⟨rfl, _, _, _, _, _, rfl⟩, ?_, ?_⟩
  · rintro k φ ρ1 M1 hk ⟨rfl, x2, x3, x4, x5, x6, rfl⟩
    obtain ⟨d, hd, rfl⟩ := map_d_get hk
    obtain ⟨m, hm, rfl⟩ := enumD_get hd
    rw [List.getElem?_map, show t.pg.meaning = t.pg.uses.map t.pg.meant from rfl, List.getElem?_map] at hm
    cases hu : t.pg.uses[k]? with
    | none => rw [hu] at hm; cases hm
    | some u =>
      rw [hu] at hm
      cases hm
      have hmem := List.mem_of_getElem? hu
      have ch := t.pg_ok.use u hmem
      have hal := chn_len ch.up ch.lt
      have hil := inner_len u.2 (t.pg.meant u)
      have hnd := inner_nodup ch.up (t.pg.meant u)
      refine ⟨_, tgt_tup rfl (tgts_cons (tgt_name (by simp)) (tgts_cons (tgt_name (by simp)) tgts_nil)), fun A N hA hN => ?_⟩
      refine go_for (vs := [4]) (ei_list (ev_callP (ea_cons (ev_op (ev_fld (ev_var rfl (fv_ins c.cls_Term c.n_Term_use_around rfl (ev_var rfl (ov_ixL (n := k) (map_get hu) (ea_cons (ev_var rfl (ea_nil ⟨(u.2, t.pg.meant u), rfl, ?_, _, rfl, ?_⟩))))))))))))
      · show u.2.length ≤ 1000
        omega
      refine loopA (fun (m : Nat) => PyData.int (m : Int)) (innerOf u.2 (t.pg.meant u)) (fun j ρ M => M = mkD as (t.pg.inD (t.pg.uses.take k) (innerOf u.2 (t.pg.meant u)) (t.pg.meant u) j) ∧ ∃ x4 x5 x6, ρ = [some (tmV K t), some (Mo.ls (as.map Mo.adr)), some (Mo.d (.int (k : Int))), some (Mo.d (t.pg.meant u).en), x4, x5, x6]) ⟨congrArg (mkD as) (inD_zero ..), _, _, _, rfl⟩ ?_ ?_
      · rintro j x ρ1 M1 hj ⟨rfl, y4, y5, y6, rfl⟩
        refine ⟨_, tgt_name (by simp), fun A2 N2 hA2 hN2 => ?_⟩
        have hx : x < as.length := by rw [e1]; exact ch.lt x (inner_sub (List.mem_of_getElem? hj))
        have hax : as[x]? = some as[x] := List.getElem?_eq_getElem hx
        have key := mkD_set (D := t.pg.inD (t.pg.uses.take k) (innerOf u.2 (t.pg.meant u)) (t.pg.meant u) j) (D' := t.pg.inD (t.pg.uses.take k) (innerOf u.2 (t.pg.meant u)) (t.pg.meant u) (j + 1)) hax fun i hi => inD_old hj hi
        rw [inD_new hj] at key
        refine go_dput (ev_bl (ev_op (ev_var rfl (ev_var rfl (ov_ixLs (n := x) (map_get hax) ⟨as[x], rfl, ev_var rfl ⟨x, _, (t.pg.meant u).key, by rw [Lv1.keyD], mkD_get hax, ?_, ?_⟩⟩)))))
        · rw [inD_at hnd hj]
          unfold dkM
          rw [List.length_map]
          have h3 := uq_len (t.pg.nearU (t.pg.uses.take k) x)
          have h4 := nearU_len t.pg (t.pg.uses.take k) x
          rw [List.length_take] at h4
          exact sz_lt (by omega)
        · refine hN2 _ _ ⟨?_, _, _, _, rfl⟩
          rw [dkM_put, inD_at hnd hj]
          exact key
      · rintro ρ1 M1 ⟨rfl, y4, y5, y6, rfl⟩
        exact hN _ _ ⟨congrArg (mkD as) (inD_end hu), _, _, _, _, _, rfl⟩
  · rintro ρ1 M1 ⟨rfl, x2, x3, x4, x5, x6, rfl⟩
    rw [List.length_map, enumD_len, List.length_map, show t.pg.meaning = t.pg.uses.map t.pg.meant from rfl, List.length_map, List.take_length]
    refine go_ret (Ev.conv (ev_lc (ei_ls (ev_var rfl ⟨_, rfl, ?_⟩))))
    refine ⟨fun k acc M2 => k ≤ as.length ∧ M2 = mkD as (fun b => uq (t.pg.near b)) ∧ acc = ((List.range k).map fun b => Mo.d (liveD (t.pg.live b))), ⟨Nat.zero_le _, rfl, rfl⟩, ?_, ?_⟩
    · rintro k φ acc M2 hk ⟨_, rfl, rfl⟩
      rw [List.getElem?_map] at hk
      cases ha : as[k]? with
      | none => rw [ha] at hk; cases hk
      | some a =>
        rw [ha] at hk
        cases hk
        have hka := (List.getElem?_eq_some_iff.mp ha).1
        have h3 := uq_len (t.pg.nearU t.pg.uses k)
        have h4 := nearU_len t.pg t.pg.uses k
        refine ⟨_, tgt_name (by simp), et_yes (iteT (ev_call1 (ea_cons (ev_var rfl (ea_nil ⟨(a, uq (t.pg.near k)), k, a, _, rfl, rfl, mkD_get ha, ⟨?_, ?_⟩, ?_⟩)))))⟩
        · show (uq (t.pg.nearU t.pg.uses k)).length ≤ 500
          omega
        · intro x hx
          obtain ⟨u, hu, e, _⟩ := near_txt hx
          rw [← e]
          exact h1 u hu
        · rintro χ M' ⟨rfl, rfl⟩
          refine ⟨_, rfl, ?_, hka, ?_, ?_⟩
          · rw [List.length_map, List.length_range]
            exact sz_lt (by omega)
          · exact mkD_set (D' := fun b => uq (t.pg.near b)) ha fun _ _ => rfl
          · rw [List.range_succ, List.map_append] <;> rfl
    · rintro acc M2 ⟨_, rfl, rfl⟩
      refine ⟨Mo.d (.list (t.pg.allLive.map liveD)), fun v G h => ls_d ?_, kQ _⟩
      rw [List.length_map, e1] at h
      unfold Pg.allLive
      rw [List.map_map, List.map_map]
      exact h
end Lv
/-! #### D12 -/
namespace Lv
open PySem L2 StX PyProof.Rows
local macro_rules | `(tactic| walk_at "lv1") => `(tactic| first
  | with_reducible refine go_seq ?_
  | with_reducible refine go_set ?_
  | with_reducible refine go_ret ?_
  | with_reducible refine go_drop ?_
  | with_reducible refine go_if ?_
  | with_reducible refine ev_op ?_
  | with_reducible refine ev_cb ?_
  | with_reducible refine ea_cons ?_
  | with_reducible refine ea_nil ?_
  | refine ev_var rfl ?_
  | with_reducible refine ev_int ?_
  | with_reducible refine ev_str ?_
  | with_reducible refine ev_bl ?_
  | with_reducible refine ev_ty ?_
  | with_reducible refine ev_non ?_
  | with_reducible refine ev_cls ?_
  | with_reducible refine ev_un ?_
  | with_reducible refine ev_fld ?_
  | with_reducible refine ev_andV ?_
  | with_reducible refine ev_notV ?_
  | with_reducible refine ev_ifE ?_
  | with_reducible refine ev_chain ?_
  | with_reducible refine et_test ?_
  | with_reducible refine et_B ?_
  | with_reducible refine et_and ?_
  | with_reducible refine et_or ?_
  | with_reducible refine et_not ?_
  | with_reducible refine et_yes ?_
  | with_reducible refine ov_add ?_
  | with_reducible refine ov_sub ?_
  | with_reducible refine ov_lt ?_
  | with_reducible refine ov_le ?_
  | with_reducible refine ov_gt ?_
  | with_reducible refine ov_ge ?_
  | with_reducible refine ov_neg ?_
  | with_reducible refine ov_eqI ?_
  | with_reducible refine ov_neI ?_
  | with_reducible refine ov_eqS ?_
  | with_reducible refine ov_inSg ?_
  | with_reducible refine ov_inS ?_
  | with_reducible refine ov_inI ?_
  | with_reducible refine cv_lenL ?_
  | with_reducible refine cv_lenT ?_
  | with_reducible refine cv_max2 ?_
  | with_reducible refine cv_min2 ?_
  | with_reducible refine cv_intI ?_
  | with_reducible refine cv_intB ?_
  | with_reducible refine cv_tuple ?_
  | with_reducible refine cv_list (.inl rfl) ?_
  | with_reducible refine cv_list (.inr rfl) ?_
  | refine ov_ixT (n := 0) rfl ?_
  | refine ov_ixT (n := 1) rfl ?_
  | refine ov_ixT (n := 2) rfl ?_
  | refine ov_ixT (n := 3) rfl ?_
  | refine ov_ixL (n := 0) rfl ?_
  | refine ov_ixL (n := 1) rfl ?_
  | refine ov_ixL (n := 2) rfl ?_
  | refine iteT ?_
  | refine iteF ?_
  | with_reducible refine iteN (b := !true) rfl ?_
  | with_reducible refine iteP (b := !false) rfl ?_
  | with_reducible refine go_next ?_
  | refine ⟨_, rfl, ?_⟩)
local macro_rules | `(tactic| walk_at "lv") => `(tactic| repeat walk_at "lv1")
variable {P : Program} {w : World} {K : PySem.W.Frag} {mg : Str → Option Value} {base : Heap} {T : Tb}
/-! ### how many are let -/
def prodI (ns : List Int) : Int := ns.foldl (· * ·) 1
abbrev spProduct (T : Tb) : Sp := SpP T (List Int) (fun ns => [Mo.d (intL ns)]) (fun ns => ∀ n ∈ ns, 0 ≤ n ∧ n ≤ 60) (fun ns => Mo.d (.int (prodI ns)))
theorem map_int_get {ns : List Int} {k : Nat} {d : PyData} (h : (ns.map PyData.int)[k]? = some d) : ∃ n, ns[k]? = some n ∧ d = .int n := by
  rw [List.getElem?_map] at h
  cases e : ns[k]? with
  | none => rw [e] at h; cases h
  | some n => rw [e] at h; cases h; exact ⟨n, rfl, rfl⟩
-- slots of product: 0 numbers, 1 found, 2 number
theorem sc_product : FnScope ["numbers", "found", "number"] ["numbers"] (defScope s_product) := ⟨rfl, rfl, rfl, by decide +kernel, rfl, by decide +kernel, by decide +kernel⟩
theorem ok_product (c : Fc K mg) : Cal P w K mg base 1 "product" ["numbers"] (spProduct T) := by
  obtain ⟨fd, F⟩ := c.f_product
  refine fn_mk F c.g_product (fn_okP F sc_product (fun _ => rfl) (by decide) fun ns hns cdv Ar outer s Hs Ex hr => ⟨_, (pss_cons (ps_set (i := 1) sc_product.nd rfl (Or.inl rfl) pe_int)
      (pss_cons (ps_for PassesOwn.never rfl (pi_listB (K0 := K) (pv 0)) (tn 2 sc_product.nd) (pss_one (ps_aug (i := 1) sc_product.nd rfl (by first | exact Or.inl rfl | exact Or.inr rfl) (pv 2) iop_mul)))
      (pss_one (ps_ret (pv 1))))), fun G H A0 Q kQ => ?_⟩) (fun _ _ _ _ _ _ us hl => match us, hl with | [_], _ => rfl)
  refine go_seq (go_set (ev_int ?_))
  refine go_seq (go_for (vs := [2]) (ei_list (ev_var rfl ⟨_, rfl, ?_⟩)))
  refine ⟨fun k ρ M => M = [] ∧ ∃ x y, ρ = [some (Mo.d (intL ns)), some (Mo.d (.int y)), x] ∧ y = prodI (ns.take k), ⟨rfl, _, _, rfl, rfl⟩, ?_, ?_⟩
  · rintro k φ ρ1 M1 hk ⟨rfl, x, y, rfl, hy⟩
    obtain ⟨d, hd, rfl⟩ := map_d_get hk
    obtain ⟨n, hn, rfl⟩ := map_int_get hd
    refine ⟨_, tgt_name (by simp), fun A N hA hN => ?_⟩
    refine go_aug rfl (ev_var rfl (ov_mul (.inr ?_) (hN _ _ ⟨rfl, _, _, rfl, ?_⟩)))
    · have := hns n (List.mem_of_getElem? hn)
      omega
    · rw [hy]
      unfold prodI
      rw [List.take_add_one, hn, List.foldl_append] <;> rfl
  · rintro ρ1 M1 ⟨rfl, x, y, rfl, hy⟩
    rw [List.length_map, List.length_map, List.take_length] at hy
    subst hy
    exact go_ret (ev_var rfl (kQ _))

/-- what shuts a name -/
def shutQ (pool : List Str) : Lv1 → Bool
  | .b _ => true
  | .f x => decide (x ∈ pool)
def sizeI (pool : List Str) (ms : List Lv1) : Int := if (pool.length : Int) - (((ms.filter (shutQ pool)).length : Nat) : Int) > 0 then (pool.length : Int) - (((ms.filter (shutQ pool)).length : Nat) : Int) else 0
def GoodT (t : Tr) : Prop := t.size ≤ 30 ∧ ∀ u ∈ t.pg.uses, nmB u.1 = true
def sizesI (p : Pg) (pool : List Str) : List Int := p.allLive.map (sizeI pool)
abbrev spChoices (T : Tb) (K : PySem.W.Frag) : Sp := SpP T (Tr × List Str) (fun a => [tmV K a.1, Mo.d (strL a.2)]) (fun a => GoodT a.1 ∧ GoodPool a.2) (fun a => Mo.d (intL (sizesI a.1.pg a.2)))
theorem uses_len (t : Tr) (h : GoodT t) (b : Nat) : (t.pg.live b).length ≤ 30 := by
  have h1 := lineL_len (uq (t.pg.near b))
  have h2 := uq_len (t.pg.near b)
  have h3 := nearU_len t.pg t.pg.uses b
  have h4 := t.pg_uses
  have h5 := h.1
  unfold Pg.live
  have : (t.pg.near b).length ≤ t.pg.uses.length := h3
  omega
theorem allLive_len (t : Tr) : t.pg.allLive.length = t.pg.nb := by unfold Pg.allLive; rw [List.length_map, List.length_range]
theorem nb_30 (t : Tr) (h : GoodT t) : t.pg.nb ≤ 30 := by
  have h1 := nb_le t
  have h2 : t.pg.nb = t.nb := t.pg_nb
  have := h.1
  omega
theorem mem_allLive {t : Tr} {ms : List Lv1} (h : ms ∈ t.pg.allLive) : ∃ b, b < t.pg.nb ∧ ms = t.pg.live b := by
  obtain ⟨b, h1, rfl⟩ := List.mem_map.mp h
  exact ⟨b, List.mem_range.mp h1, rfl⟩
-- slots of choices_for: 0 term, 1 pool, 2 found, 3 some, 4 shut, 5 one
theorem sc_choices_for : FnScope ["term", "pool", "found", "some", "shut", "one"] ["term", "pool"] (defScope s_choices_for) := ⟨rfl, rfl, rfl, by decide +kernel, rfl, by decide +kernel, by decide +kernel⟩
theorem ok_choices_for (c : Fc K mg) (C_ordered : Cal P w K mg base 5 "ordered" ["names"] (spOrdered T)) : Cal P w K mg base 8 "choices_for" ["term", "pool"] (spChoices T K) := by
  have C_all_live : Cal P w K mg base 7 "all_live" ["term"] (spAllLive T K) := ok_all_live c C_ordered
  obtain ⟨fd, F⟩ := c.f_choices_for
  refine fn_mk F c.g_choices_for (fn_okP F sc_choices_for (fun _ => rfl) (by decide) fun a ha cdv Ar outer s Hs Ex hr => ⟨_, (pss_cons (ps_set (i := 2) sc_choices_for.nd rfl (Or.inl rfl) (pe_lst pa_nil))
      (pss_cons (ps_for PassesOwn.never rfl (pi_listB (K0 := K) (pe_fn C_all_live (hr.mono (by omega)) (pa_cons (pv 0) pa_nil))) (tn 3 sc_choices_for.nd) (pss_cons (ps_setLc (i := 4) (own := [("one", 5)]) rfl sc_choices_for.nd rfl rfl (sw_true rfl rfl rfl (by decide +kernel)) (pi_listB (K0 := K) (pv 3)) (blkOk_by (N := ["term", "pool", "found", "some", "shut", "one"]) (sc := defScope s_choices_for) (by decide +kernel)) (fun _ _ _ _ _ => (tn 5 sc_choices_for.nd)) (fun _ _ _ _ _ => (pts_one (PW.pt (pw_or (pt_not (pt_val (pe_callB (call_isiB (K0 := K)) rfl c.b_isinstance boot_isinstance (pa_cons (pv 5) (pa_cons (bl_ty boot_str c.b_str) pa_nil))))) (pw_or1 (pt_cmpR (op_in_seqB (K0 := K)) (pv 5) (pv 1) rfl)))))) (fun _ _ _ _ _ => (pv 5)))
      (pss_one (ps_expr (pe_bm PySem.F.plainAttrs_list PySem.F.slot_list_append PySem.F.type_list_append mt_append (pv 2) (pa_cons (pe_callB (c_max2 rfl) rfl c.b_max boot_max (pa_cons pe_int (pa_cons (pe_op op_sub (pe_callB (c_lenB (K0 := K)) rfl c.b_len boot_len (pa_cons (pv 1) pa_nil)) (pe_callB (c_lenB (K0 := K)) rfl c.b_len boot_len (pa_cons (pv 4) pa_nil))) pa_nil))) pa_nil))))))
      (pss_one (ps_ret (pv 2))))), fun G H A0 Q kQ => ?_⟩) (fun _ _ _ _ _ _ us hl => match us, hl with | [_, _], _ => rfl)
  obtain ⟨t, pool⟩ := a
  obtain ⟨h1, h2⟩ : GoodT t ∧ GoodPool pool := ha
  have hal := allLive_len t
  have hnb := nb_30 t h1
  walk_at "lv"
  refine ev_lstM (ea_nil ⟨[], rfl, by simp, fun p => ?_⟩)
  walk_at "lv"
  refine go_for (vs := [3]) (ei_list (ev_callP (ea_cons (ev_var rfl (ea_nil ⟨t, rfl, h1, _, rfl, ?_⟩)))))
  refine loopA liveD t.pg.allLive (fun k ρ M => M = [(p, Mu.dl (((t.pg.allLive.take k).map (sizeI pool)).map PyData.int))] ∧ ∃ x3 x4 x5, ρ = [some (tmV K t), some (Mo.d (strL pool)), some (Mo.adr p), x3, x4, x5]) ⟨rfl, _, _, _, rfl⟩ ?_ ?_
  · rintro k ms ρ1 M1 hk ⟨rfl, x3, x4, x5, rfl⟩
    refine ⟨_, tgt_name (by simp), fun A N hA hN => ?_⟩
    have hk2 := (List.getElem?_eq_some_iff.mp hk).1
    obtain ⟨b, hb, rfl⟩ := mem_allLive (List.mem_of_getElem? hk)
    have hml := uses_len t h1 b
    walk_at "lv"
    refine ev_lcA Lv1.en (shutQ pool) Lv1.en (ei_list (ev_var rfl ⟨_, rfl, t.pg.live b, rfl, sz_small (by omega), fun m hm => ⟨_, tgt_name (by simp), ?_⟩, ?_⟩))
    · cases m with
      | b i => exact et_or (et_not (et_test (ev_cb (ea_cons (ev_var rfl (ea_cons (ev_ty (ea_nil (cv_isi (b := false) "int" rfl (by decide +kernel) ⟨_, rfl, iteT ⟨rfl, rfl, fun _ => ev_var rfl ⟨rfl, rfl⟩⟩⟩)))))))))
      | f x =>
        refine et_or (et_not (et_test (ev_cb (ea_cons (ev_var rfl (ea_cons (ev_ty (ea_nil (cv_isi (b := true) "str" rfl (by decide +kernel) ⟨_, rfl, iteF ?_⟩)))))))))
        refine et_test (ev_op (ev_var rfl (ev_var rfl (ov_inS ⟨_, rfl, ?_, rfl, fun _ => ev_var rfl ⟨rfl, rfl⟩⟩))))
        rw [if_neg Bool.false_ne_true] <;> rfl
    · walk_at "lv"
      refine ev_append (ev_var rfl ⟨p, rfl, ⟨0, _, rfl⟩, ?_⟩)
      refine ea_cons (ev_cb (ea_cons (ev_int (ea_cons (ev_op (ev_cb (ea_cons (ev_var rfl (ea_nil (cv_lenL ?_))))))))))
      refine ev_cb (ea_cons (ev_var rfl (ea_nil (cv_lenL (ov_sub ?_)))))
      refine ea_nil (cv_max2 (ea_nil ⟨.int (sizeI pool (t.pg.live b)), 0, _, ?_, rfl, ?_, ?_⟩))
      · rw [List.length_map, List.length_map] <;> rfl
      · rw [List.length_map, List.length_map, List.length_take]
        exact sz_lt (by omega)
      · refine hN _ _ ⟨?_, _, _, _, rfl⟩
        show [(p, Mu.dl (_ ++ [_]))] = _
        rw [take_succ' hk, List.map_append, List.map_append] <;> rfl
  · rintro ρ1 M1 ⟨rfl, x3, x4, x5, rfl⟩
    rw [List.take_length]
    refine go_freeze (i := 2) (j := 0) rfl rfl ?_
    exact go_ret (ev_var rfl (kQ _))
/-! ### names that are let -/
abbrev spNameForM (T : Tb) : Sp := SpG T (Addr × List Str × Lv1) (fun a => [Mo.adr a.1, Mo.d a.2.2.en]) (fun a => [(a.1, Mu.dl (a.2.1.map PyData.str))]) (fun a => a.2.2.ok a.2.1.length) (fun a φ M => φ = Mo.d (.str (nameFor a.2.1 a.2.2)) ∧ M = [(a.1, Mu.dl (a.2.1.map PyData.str))])
theorem ok_name_forM (c : Fc K mg) : Cal P w K mg base 1 "name_for" ["names", "meant"] (spNameForM T) := by
  obtain ⟨fd, F⟩ := c.f_name_for
  refine fn_mk F c.g_name_for (fn_ok F sc_name_for (fun _ => rfl) (by decide) fun a ha cdv Ar outer s Hs Ex hr => ⟨_, (pss_one (ps_ret (pe_ifExp (pt_val (pe_callB (call_isiB (K0 := K)) rfl c.b_isinstance boot_isinstance (pa_cons (pv 1) (pa_cons (bl_ty boot_str c.b_str) pa_nil)))) (pv 1) (pe_ix (ix_seqB (K0 := K)) (pv 0) (pv 1) (fun _ _ => rfl))))), fun G H A0 Q kQ => ?_⟩) (fun _ _ _ _ _ _ us hl => match us, hl with | [_, _], _ => rfl)
  obtain ⟨p, ns, m⟩ := a
  cases m with
  | b i =>
    walk_at "lv"
    refine cv_isi (b := false) "int" rfl (by decide +kernel) ?_
    walk_at "lv"
    exact ov_ixM (m := 0) rfl (map_getD ha) (kQ _ _ [] ⟨rfl, rfl⟩)
  | f x =>
    walk_at "lv"
    refine cv_isi (b := true) "str" rfl (by decide +kernel) ?_
    walk_at "lv"
    exact kQ _ _ [] ⟨rfl, rfl⟩
def letP (ms : List Lv1) (found pool : List Str) : List Str := pool.filter fun x => !decide (x ∈ ms.map (nameFor found))
structure LA where
  ms : List Lv1
  p : Addr
  fs : List Str
  pool : List Str
abbrev spLetAt (T : Tb) : Sp := SpG T LA (fun a => [Mo.d (liveD a.ms), Mo.adr a.p, Mo.d (strL a.pool)]) (fun a => [(a.p, Mu.dl (a.fs.map PyData.str))]) (fun a => a.ms.length ≤ 100 ∧ a.pool.length ≤ 60 ∧ ∀ m ∈ a.ms, m.ok a.fs.length) (fun a φ M => φ = Mo.d (strL (letP a.ms a.fs a.pool)) ∧ M = [(a.p, Mu.dl (a.fs.map PyData.str))])
-- slots of let_at: 0 term_live, 1 found, 2 pool, 3 shut, 4 one, 5 name
theorem sc_let_at : FnScope ["term_live", "found", "pool", "shut", "one", "name"] ["term_live", "found", "pool"] (defScope s_let_at) := ⟨rfl, rfl, rfl, by decide +kernel, rfl, by decide +kernel, by decide +kernel⟩
theorem ok_let_at (c : Fc K mg) : Cal P w K mg base 2 "let_at" ["term_live", "found", "pool"] (spLetAt T) := by
  have C_name_for : Cal P w K mg base 1 "name_for" ["names", "meant"] (spNameForM T) := ok_name_forM c
  obtain ⟨fd, F⟩ := c.f_let_at
  refine fn_mk F c.g_let_at (fn_ok F sc_let_at (fun _ => rfl) (by decide) fun a ha cdv Ar outer s Hs Ex hr => ⟨_, (pss_cons (ps_set (i := 3) sc_let_at.nd rfl (Or.inr rfl) (pe_lc (own := [("one", 4)]) rfl sc_let_at.nd (pi_listB (K0 := K) (pv 0)) (blkOk_by (N := ["term_live", "found", "pool", "shut", "one", "name"]) (sc := defScope s_let_at) (by decide +kernel)) (fun _ _ _ _ _ => (tn 4 sc_let_at.nd)) (fun _ _ _ _ _ => pts_nil) (fun _ _ _ _ _ => (pe_fn C_name_for (hr.mono (by omega)) (pa_cons (pv 1) (pa_cons (pv 4) pa_nil))))))
      (pss_one (ps_ret (pe_lc (own := [("name", 5)]) rfl sc_let_at.nd (pi_listB (K0 := K) (pv 2)) (blkOk_by (N := ["term_live", "found", "pool", "shut", "one", "name"]) (sc := defScope s_let_at) (by decide +kernel)) (fun _ _ _ _ _ => (tn 5 sc_let_at.nd)) (fun _ _ _ _ _ => (pts_one (pt_cmpR (op_notIn_seqB (K0 := K)) (pv 5) (pv 3) rfl))) (fun _ _ _ _ _ => (pv 5)))))), fun G H A0 Q kQ => ?_⟩) (fun _ _ _ _ _ _ us hl => match us, hl with | [_, _, _], _ => rfl)
  obtain ⟨ms, p, fs, pool⟩ := a
  obtain ⟨h1, h2, h3⟩ : ms.length ≤ 100 ∧ pool.length ≤ 60 ∧ ∀ m ∈ ms, m.ok fs.length := ha
  walk_at "lv"
  refine ev_lcB Lv1.en (fun m => .str (nameFor fs m)) (ei_list (ev_var rfl ⟨_, rfl, ms, rfl, sz_small (by omega), fun m hm => ⟨_, tgt_name (by simp), ?_⟩, ?_⟩))
  · refine ev_call (ea_cons (ev_var rfl (ea_cons (ev_var rfl (ea_nil ⟨(p, fs, m), [], rfl, rfl, h3 m hm, ?_⟩)))))
    rintro χ M' ⟨rfl, rfl⟩
    exact ⟨rfl, rfl⟩
  · walk_at "lv"
    refine ev_lcA PyData.str (fun x => !decide (x ∈ ms.map (nameFor fs))) PyData.str (ei_list (ev_var rfl ⟨_, rfl, pool, rfl, sz_small (by omega), fun x hx => ⟨_, tgt_name (by simp), ?_⟩, ?_⟩))
    · refine et_test (ev_op (ev_var rfl (ev_var rfl ?_)))
      rw [show ms.map (fun m => PyData.str (nameFor fs m)) = (ms.map (nameFor fs)).map PyData.str by rw [List.map_map] <;> rfl]
      exact ov_inS ⟨_, rfl, by rw [if_pos rfl], rfl, fun _ => ev_var rfl ⟨rfl, rfl⟩⟩
    · exact kQ _ _ [] ⟨rfl, rfl⟩
end Lv
/-! #### D13 -/
namespace Lv
open PySem L2 StX PyProof.Rows
local macro_rules | `(tactic| walk_at "lv1") => `(tactic| first
  | with_reducible refine go_seq ?_
  | with_reducible refine go_set ?_
  | with_reducible refine go_ret ?_
  | with_reducible refine go_drop ?_
  | with_reducible refine go_if ?_
  | with_reducible refine ev_op ?_
  | with_reducible refine ev_cb ?_
  | with_reducible refine ea_cons ?_
  | with_reducible refine ea_nil ?_
  | refine ev_var rfl ?_
  | with_reducible refine ev_int ?_
  | with_reducible refine ev_str ?_
  | with_reducible refine ev_bl ?_
  | with_reducible refine ev_ty ?_
  | with_reducible refine ev_non ?_
  | with_reducible refine ev_cls ?_
  | with_reducible refine ev_un ?_
  | with_reducible refine ev_fld ?_
  | with_reducible refine ev_andV ?_
  | with_reducible refine ev_notV ?_
  | with_reducible refine ev_ifE ?_
  | with_reducible refine ev_chain ?_
  | with_reducible refine et_test ?_
  | with_reducible refine et_B ?_
  | with_reducible refine et_and ?_
  | with_reducible refine et_or ?_
  | with_reducible refine et_not ?_
  | with_reducible refine et_yes ?_
  | with_reducible refine ov_add ?_
  | with_reducible refine ov_sub ?_
  | with_reducible refine ov_lt ?_
  | with_reducible refine ov_le ?_
  | with_reducible refine ov_gt ?_
  | with_reducible refine ov_ge ?_
  | with_reducible refine ov_neg ?_
  | with_reducible refine ov_eqI ?_
  | with_reducible refine ov_neI ?_
  | with_reducible refine ov_eqS ?_
  | with_reducible refine ov_inSg ?_
  | with_reducible refine ov_inS ?_
  | with_reducible refine ov_inI ?_
  | with_reducible refine cv_lenL ?_
  | with_reducible refine cv_lenT ?_
  | with_reducible refine cv_max2 ?_
  | with_reducible refine cv_min2 ?_
  | with_reducible refine cv_intI ?_
  | with_reducible refine cv_intB ?_
  | with_reducible refine cv_tuple ?_
  | with_reducible refine cv_list (.inl rfl) ?_
  | with_reducible refine cv_list (.inr rfl) ?_
  | refine ov_ixT (n := 0) rfl ?_
  | refine ov_ixT (n := 1) rfl ?_
  | refine ov_ixT (n := 2) rfl ?_
  | refine ov_ixT (n := 3) rfl ?_
  | refine ov_ixL (n := 0) rfl ?_
  | refine ov_ixL (n := 1) rfl ?_
  | refine ov_ixL (n := 2) rfl ?_
  | refine iteT ?_
  | refine iteF ?_
  | with_reducible refine iteN (b := !true) rfl ?_
  | with_reducible refine iteP (b := !false) rfl ?_
  | with_reducible refine go_next ?_
  | refine ⟨_, rfl, ?_⟩)
local macro_rules | `(tactic| walk_at "lv") => `(tactic| repeat walk_at "lv1")
variable {P : Program} {w : World} {K : PySem.W.Frag} {mg : Str → Option Value} {base : Heap} {T : Tb}
/-! ### numbers of namings -/
def sizeN (pool : List Str) (ms : List Lv1) : Nat := pool.length - (ms.filter (shutQ pool)).length
theorem sizeI_eq (pool : List Str) (ms : List Lv1) : sizeI pool ms = (sizeN pool ms : Int) := by
  unfold sizeI sizeN
  split <;> omega
def prodN : List Nat → Nat
  | [] => 1
  | n :: r => n * prodN r
theorem foldl_mul : ∀ (ns : List Nat) (z : Int), (ns.map fun (n : Nat) => (n : Int)).foldl (· * ·) z = z * (prodN ns : Int)
  | [], z => by rw [prodN, List.map_nil, List.foldl_nil]; omega
  | n :: r, z => by rw [List.map_cons, List.foldl_cons, foldl_mul r, prodN, Int.natCast_mul, Int.mul_assoc]
theorem prodI_nat (ns : List Nat) : prodI (ns.map fun (n : Nat) => (n : Int)) = (prodN ns : Int) := by
  unfold prodI
  rw [foldl_mul, Int.one_mul]
theorem sizesI_nat (p : Pg) (pool : List Str) : sizesI p pool = (p.allLive.map (sizeN pool)).map fun (n : Nat) => (n : Int) := by
  unfold sizesI
  rw [List.map_map]
  exact List.map_congr_left fun ms _ => sizeI_eq pool ms
theorem prodN_le : ∀ (ns : List Nat), (∀ n ∈ ns, n ≤ 60) → prodN ns ≤ 60 ^ ns.length
  | [], _ => Nat.le_refl _
  | n :: r, h => by
    rw [prodN, List.length_cons, Nat.pow_succ, Nat.mul_comm]
    exact Nat.mul_le_mul (prodN_le r fun m hm => h m (List.mem_cons_of_mem _ hm)) (h n (by simp))
theorem cutD_from {ds : List PyData} {k : Nat} (h : k ≤ ds.length) : cutD ds (some (k : Int)) none = ds.drop k := by
  unfold cutD
  rw [HT.sIx_nat, HT.sIx_none, Nat.min_eq_left h]
  exact List.take_of_length_le (by rw [List.length_drop]; exact Nat.le_refl _)
theorem cutD_to {ds : List PyData} {k : Nat} (h : k ≤ ds.length) : cutD ds none (some (k : Int)) = ds.take k := by
  unfold cutD
  rw [HT.sIx_nat, HT.sIx_none, Nat.min_eq_left h, Nat.sub_zero, List.drop_zero]
theorem ev_slT {T : Tb} {ρ : Rho} {M : Mus} {Kk : Ks} {te : TE} {K0 : PySem.W.Frag} {tl th : TO} (h : Ev T te ρ M fun φ M1 => ∃ ds : List PyData, φ = Mo.d (.tuple ds) ∧ EvO T tl ρ M1 fun lo M2 => EvO T th ρ M2 fun hi M3 => ¬ (HT.sIx ds.length 0 lo = 0 ∧ HT.sIx ds.length ds.length hi = ds.length) ∧ Kk (Mo.d (.tuple (cutD ds lo hi))) M3) : Ev T (tSl (rSlT K0) te tl th) ρ M Kk := fun σ G H e s Q q =>
  h σ G H e s _ fun x φ M1 G1 H1 k1 p1 n1 => by
    obtain ⟨ds, rfl, k⟩ := k1
    refine k σ G1 H1 (e.mono n1.g) n1.st _ fun lo M2 G2 H2 k2 n2 => k2 σ G2 H2 (e.mono (n1.trans n2).g) n2.st _ fun hi M3 G3 H3 ⟨nw, k3⟩ n3 => ?_
    obtain ⟨a, xs, h1, h2, h3⟩ := rep_tup (Mo.mono _ (n2.trans n3).g p1)
    refine ⟨a, xs, h1, SqT.of (n3.st.sub _ _ h2), by rw [h3.length]; exact nw, fun p hp => ?_⟩
    exact q _ _ M3 _ _ k3 (Rep.tup upd_same ((h3.cut lo hi).mono (same_upd (sub_none n3.st.sub hp)))) ((n1.trans (n2.trans n3)).trans (Po.laid n3.st hp))
/-- the trail of a naming is sound -/
def NBok (pool : List Str) : List (List Lv1) → List Str → Nat → Prop
  | [], _, _ => True
  | ms :: r, fs, left => (∀ m ∈ ms, m.ok fs.length) ∧ 0 < prodN (r.map (sizeN pool)) ∧ left / prodN (r.map (sizeN pool)) < (letP ms fs pool).length ∧ NBok pool r (fs ++ [(letP ms fs pool).getD (left / prodN (r.map (sizeN pool))) ""]) (left % prodN (r.map (sizeN pool)))
def namesBy (pool : List Str) : List (List Lv1) → List Str → Nat → List Str
  | [], fs, _ => fs
  | ms :: r, fs, left => namesBy pool r (fs ++ [(letP ms fs pool).getD (left / prodN (r.map (sizeN pool))) ""]) (left % prodN (r.map (sizeN pool)))
theorem sizeN_le {pool : List Str} (h : GoodPool pool) (ms : List Lv1) : sizeN pool ms ≤ 60 := by
  have := h.1
  unfold sizeN
  omega
theorem sizes_prod {t : Tr} (h : GoodT t) {pool : List Str} (hp : GoodPool pool) (k : Nat) : prodN ((t.pg.allLive.drop k).map (sizeN pool)) ≤ 60 ^ 30 := by
  have h1 := prodN_le ((t.pg.allLive.drop k).map (sizeN pool)) fun n hn => by
    obtain ⟨ms, _, rfl⟩ := List.mem_map.mp hn
    exact sizeN_le hp ms
  refine Nat.le_trans h1 (Nat.pow_le_pow_right (by omega) ?_)
  rw [List.length_map, List.length_drop, allLive_len]
  have := nb_30 t h
  omega
theorem cdiv_ok {j : Nat} {i : Int} (h1 : 0 < j) (h2 : j ≤ 60 ^ 30) : CDivW i (j : Int) := by
  refine ⟨by omega, ?_⟩
  rw [Int.natAbs_natCast]
  have h3 : j < 2 ^ 200 := Nat.lt_of_le_of_lt h2 (by decide)
  have h4 := (Nat.log2_lt (by omega)).mpr h3
  omega
abbrev spNamingBy (T : Tb) (K : PySem.W.Frag) : Sp := SpP T (Tr × List Str × Nat) (fun a => [tmV K a.1, Mo.d (strL a.2.1), Mo.d (.int ((a.2.2 : Nat) : Int))]) (fun a => GoodT a.1 ∧ GoodPool a.2.1 ∧ NBok a.2.1 a.1.pg.allLive [] a.2.2) (fun a => Mo.d (.tuple ((namesBy a.2.1 a.1.pg.allLive [] a.2.2).map PyData.str)))
-- slots of naming_by: 0 term, 1 pool, 2 number, 3 sizes, 4 found, 5 left, 6 binder, 7 some, 8 below
theorem sc_naming_by : FnScope ["term", "pool", "number", "sizes", "found", "left", "binder", "some", "below"] ["term", "pool", "number"] (defScope s_naming_by) := ⟨rfl, rfl, rfl, by decide +kernel, rfl, by decide +kernel, by decide +kernel⟩
theorem ok_naming_by (c : Fc K mg) (C_ordered : Cal P w K mg base 5 "ordered" ["names"] (spOrdered T)) : Cal P w K mg base 9 "naming_by" ["term", "pool", "number"] (spNamingBy T K) := by
  have C_all_live : Cal P w K mg base 7 "all_live" ["term"] (spAllLive T K) := ok_all_live c C_ordered
  have C_choices_for : Cal P w K mg base 8 "choices_for" ["term", "pool"] (spChoices T K) := ok_choices_for c C_ordered
  have C_product : Cal P w K mg base 1 "product" ["numbers"] (spProduct T) := ok_product c
  have C_let_at : Cal P w K mg base 2 "let_at" ["term_live", "found", "pool"] (spLetAt T) := ok_let_at c
  obtain ⟨fd, F⟩ := c.f_naming_by
  refine fn_mk F c.g_naming_by (fn_okP F sc_naming_by (fun _ => rfl) (by decide) fun a ha cdv Ar outer s Hs Ex hr => ⟨_, (pss_cons (ps_par3 (i := 3) (j := 4) (l := 5) (by rfl) sc_naming_by.nd rfl rfl rfl (by decide) (by decide) (by decide) rfl rfl rfl (pa_cons (pe_fn C_choices_for (hr.mono (by omega)) (pa_cons (pv 0) (pa_cons (pv 1) pa_nil))) (pa_cons (pe_lst pa_nil) (pa_cons (pv 2) pa_nil))) (by rfl))
      (pss_cons (ps_for PassesOwn.never rfl (pi_enum rfl c.b_enumerate (pa_cons (pe_fn C_all_live (hr.mono (by omega)) (pa_cons (pv 0) pa_nil)) pa_nil)) (pg_tupB (K0 := K) (n := 2) rfl (pgs_cons (tn 6 sc_naming_by.nd) (pgs_cons (tn 7 sc_naming_by.nd) pgs_nil))) (pss_cons (ps_set (i := 8) sc_naming_by.nd rfl (Or.inl rfl) (pe_fn C_product (hr.mono (by omega)) (pa_cons (pe_slice (sl_listB (K0 := K)) (pv 3) (po_some (pe_op op_add (pv 6) pe_int)) po_none) pa_nil)))
      (pss_cons (ps_expr (pe_bm PySem.F.plainAttrs_list PySem.F.slot_list_append PySem.F.type_list_append mt_append (pv 4) (pa_cons (pe_ix (ix_seqB (K0 := K)) (pe_fn C_let_at (hr.mono (by omega)) (pa_cons (pv 7) (pa_cons (pv 4) (pa_cons (pv 1) pa_nil)))) (pe_op op_fdivW (pv 5) (pv 8)) (fun _ _ => rfl)) pa_nil)))
      (pss_one (ps_aug (i := 5) sc_naming_by.nd rfl (by first | exact Or.inl rfl | exact Or.inr rfl) (pv 8) iop_mod)))))
      (pss_one (ps_ret (pe_callTy (c_tupleB (K0 := K)) rfl c.b_tuple boot_tuple (pa_cons (pv 4) pa_nil)))))), fun G H A0 Q kQ => ?_⟩) (fun _ _ _ _ _ _ us hl => match us, hl with | [_, _, _], _ => rfl)
  obtain ⟨t, pool, n⟩ := a
  obtain ⟨h1, h2, h3⟩ : GoodT t ∧ GoodPool pool ∧ NBok pool t.pg.allLive [] n := ha
  have hal := allLive_len t
  have hnb := nb_30 t h1
  walk_at "lv"
  refine go_par3 (ea_cons (ev_callP (ea_cons (ev_var rfl (ea_cons (ev_var rfl (ea_nil ⟨(t, pool), rfl, ⟨h1, h2⟩, ?_⟩)))))))
  refine ea_cons (ev_lstM (ea_nil ⟨[], rfl, by simp, fun p => ?_⟩))
  refine ea_cons (ev_var rfl (ea_nil ⟨_, _, _, rfl, ?_⟩))
  walk_at "lv"
  refine go_for (vs := [6, 7]) (ei_enum (ea_cons (ev_callP (ea_cons (ev_var rfl (ea_nil ⟨t, rfl, h1, ea_nil ⟨_, rfl, ?_⟩⟩))))))
  refine ⟨fun k ρ M => ∃ (fs : List Str) (left : Nat), M = [(p, Mu.dl (fs.map PyData.str))] ∧ fs.length = k ∧ NBok pool (t.pg.allLive.drop k) fs left ∧ namesBy pool (t.pg.allLive.drop k) fs left = namesBy pool t.pg.allLive [] n ∧
    ∃ x6 x7 x8, ρ = [some (tmV K t), some (Mo.d (strL pool)), some (Mo.d (.int (n : Int))), some (Mo.d (intL (sizesI t.pg pool))), some (Mo.adr p), some (Mo.d (.int (left : Int))), x6, x7, x8], ⟨[], n, rfl, rfl, h3, rfl, _, _, _, rfl⟩, ?_, ?_⟩
  · rintro k φ ρ1 M1 hk ⟨fs, left, rfl, e1, e2, e3, x6, x7, x8, rfl⟩
    obtain ⟨d, hd, rfl⟩ := map_d_get hk
    obtain ⟨m, hm, rfl⟩ := enumD_get hd
    rw [List.getElem?_map] at hm
    cases hu : t.pg.allLive[k]? with
    | none => rw [hu] at hm; cases hm
    | some ms =>
      rw [hu] at hm
      cases hm
      have hk2 := (List.getElem?_eq_some_iff.mp hu).1
      obtain ⟨b, hb, hms⟩ := mem_allLive (List.mem_of_getElem? hu)
      have hml := uses_len t h1 b
      rw [← hms] at hml
      have hdr : t.pg.allLive.drop k = ms :: t.pg.allLive.drop (k + 1) := by
        rw [List.drop_eq_getElem_cons hk2]
        congr 1
        rw [List.getElem?_eq_getElem hk2] at hu
        exact Option.some.inj hu
      rw [hdr] at e2 e3
      obtain ⟨q1, q2, q3, q4⟩ := e2
      rw [namesBy] at e3
      have hpl := sizes_prod h1 h2 (k + 1)
      refine ⟨_, tgt_tup rfl (tgts_cons (tgt_name (by simp)) (tgts_cons (tgt_name (by simp)) tgts_nil)), fun A N hA hN => ?_⟩
      walk_at "lv"
      refine ev_callP (ea_cons (ev_slL (ev_var rfl ⟨_, rfl, eo_some (ev_op (ev_var rfl (ev_int (ov_add ⟨_, rfl, eo_none (ea_nil ⟨((t.pg.allLive.drop (k + 1)).map (sizeN pool)).map fun (n : Nat) => (n : Int), ?_, ?_, ?_⟩)⟩))))⟩)))
      · rw [show ((k : Int) + 1) = ((k + 1 : Nat) : Int) by omega, cutD_from (by rw [List.length_map, sizesI_nat, List.length_map, List.length_map]; omega), sizesI_nat, ← List.map_drop, ← List.map_drop, ← List.map_drop]
      · intro z hz
        obtain ⟨y, hy, rfl⟩ := List.mem_map.mp hz
        obtain ⟨ms', _, rfl⟩ := List.mem_map.mp hy
        have := sizeN_le h2 ms'
        omega
      rw [prodI_nat]
      walk_at "lv"
      refine ev_append (ev_var rfl ⟨p, rfl, ⟨0, _, rfl⟩, ?_⟩)
      refine ea_cons (ev_op (ev_call (ea_cons (ev_var rfl (ea_cons (ev_var rfl (ea_cons (ev_var rfl (ea_nil ⟨⟨ms, p, fs, pool⟩, [], rfl, rfl, ⟨by show ms.length ≤ 100; omega, by have := h2.1; show pool.length ≤ 60; omega, q1⟩, ?_⟩)))))))))
      rintro χ M' ⟨rfl, rfl⟩
      refine ev_op (ev_var rfl (ev_var rfl (ov_div (cdiv_ok q2 hpl) ?_)))
      rw [← Int.natCast_ediv]
      refine ov_ixL (map_getD (d := ("" : Str)) q3) (ea_nil ⟨_, 0, _, rfl, rfl, ?_, ?_⟩)
      · show (fs.map PyData.str).length < sizeLine
        rw [List.length_map]
        exact sz_lt (by omega)
      refine go_aug rfl (ev_var rfl (ov_mod (by omega) ?_))
      rw [← Int.natCast_emod]
      refine hN _ _ ⟨_, _, ?_, ?_, q4, e3, _, _, _, rfl⟩
      · show [(p, Mu.dl (_ ++ [_]))] = _
        rw [List.map_append] <;> rfl
      · rw [List.length_append, e1] <;> rfl
  · rintro ρ1 M1 ⟨fs, left, rfl, e1, e2, e3, x6, x7, x8, rfl⟩
    rw [List.length_map, enumD_len, List.length_map, List.drop_length] at e3
    refine go_ret (ev_cb (ea_cons (ev_var rfl (ea_nil (cv_tupleM (n := 0) rfl ?_)))))
    rw [show fs = namesBy pool t.pg.allLive [] n from e3]
    exact kQ _
end Lv
/-! #### D14 -/
namespace Lv
open PySem L2 StX PyProof.Rows
local macro_rules | `(tactic| walk_at "lv1") => `(tactic| first
  | with_reducible refine go_seq ?_
  | with_reducible refine go_set ?_
  | with_reducible refine go_ret ?_
  | with_reducible refine go_drop ?_
  | with_reducible refine go_if ?_
  | with_reducible refine ev_op ?_
  | with_reducible refine ev_cb ?_
  | with_reducible refine ea_cons ?_
  | with_reducible refine ea_nil ?_
  | refine ev_var rfl ?_
  | with_reducible refine ev_int ?_
  | with_reducible refine ev_str ?_
  | with_reducible refine ev_bl ?_
  | with_reducible refine ev_ty ?_
  | with_reducible refine ev_non ?_
  | with_reducible refine ev_cls ?_
  | with_reducible refine ev_un ?_
  | with_reducible refine ev_fld ?_
  | with_reducible refine ev_andV ?_
  | with_reducible refine ev_notV ?_
  | with_reducible refine ev_ifE ?_
  | with_reducible refine ev_chain ?_
  | with_reducible refine et_test ?_
  | with_reducible refine et_B ?_
  | with_reducible refine et_and ?_
  | with_reducible refine et_or ?_
  | with_reducible refine et_not ?_
  | with_reducible refine et_yes ?_
  | with_reducible refine ov_add ?_
  | with_reducible refine ov_sub ?_
  | with_reducible refine ov_lt ?_
  | with_reducible refine ov_le ?_
  | with_reducible refine ov_gt ?_
  | with_reducible refine ov_ge ?_
  | with_reducible refine ov_neg ?_
  | with_reducible refine ov_eqI ?_
  | with_reducible refine ov_neI ?_
  | with_reducible refine ov_eqS ?_
  | with_reducible refine ov_inSg ?_
  | with_reducible refine ov_inS ?_
  | with_reducible refine ov_inI ?_
  | with_reducible refine cv_lenL ?_
  | with_reducible refine cv_lenT ?_
  | with_reducible refine cv_max2 ?_
  | with_reducible refine cv_min2 ?_
  | with_reducible refine cv_intI ?_
  | with_reducible refine cv_intB ?_
  | with_reducible refine cv_tuple ?_
  | with_reducible refine cv_list (.inl rfl) ?_
  | with_reducible refine cv_list (.inr rfl) ?_
  | refine ov_ixT (n := 0) rfl ?_
  | refine ov_ixT (n := 1) rfl ?_
  | refine ov_ixT (n := 2) rfl ?_
  | refine ov_ixT (n := 3) rfl ?_
  | refine ov_ixL (n := 0) rfl ?_
  | refine ov_ixL (n := 1) rfl ?_
  | refine ov_ixL (n := 2) rfl ?_
  | refine iteT ?_
  | refine iteF ?_
  | with_reducible refine iteN (b := !true) rfl ?_
  | with_reducible refine iteP (b := !false) rfl ?_
  | with_reducible refine go_next ?_
  | refine ⟨_, rfl, ?_⟩)
local macro_rules | `(tactic| walk_at "lv") => `(tactic| repeat walk_at "lv1")
variable {P : Program} {w : World} {K : PySem.W.Frag} {mg : Str → Option Value} {base : Heap} {T : Tb}
def wholeN (p : Pg) (pool : List Str) : Nat := prodN (p.allLive.map (sizeN pool))
theorem sizes_pre {t : Tr} {pool : List Str} (hp : GoodPool pool) : ∀ n ∈ sizesI t.pg pool, 0 ≤ n ∧ n ≤ 60 := fun n hn => by
  rw [sizesI_nat] at hn
  obtain ⟨y, hy, rfl⟩ := List.mem_map.mp hn
  obtain ⟨ms', _, rfl⟩ := List.mem_map.mp hy
  have := sizeN_le hp ms'
  omega
theorem prod_sizes (p : Pg) (pool : List Str) : prodI (sizesI p pool) = (wholeN p pool : Int) := by rw [sizesI_nat, prodI_nat] <;> rfl
abbrev spHowMany (T : Tb) (K : PySem.W.Frag) : Sp := SpP T (Tr × List Str) (fun a => [tmV K a.1, Mo.d (strL a.2)]) (fun a => GoodT a.1 ∧ GoodPool a.2) (fun a => Mo.d (.int (wholeN a.1.pg a.2 : Int)))
-- slots of how_many: 0 term, 1 pool
theorem sc_how_many : FnScope ["term", "pool"] ["term", "pool"] (defScope s_how_many) := ⟨rfl, rfl, rfl, by decide +kernel, rfl, by decide +kernel, by decide +kernel⟩
theorem ok_how_many (c : Fc K mg) (C_ordered : Cal P w K mg base 5 "ordered" ["names"] (spOrdered T)) : Cal P w K mg base 9 "how_many" ["term", "pool"] (spHowMany T K) := by
  have C_look_at_pool : Cal P w K mg base 3 "look_at_pool" ["term", "pool"] (spLookPool T K) := ok_look_at_pool c
  have C_choices_for : Cal P w K mg base 8 "choices_for" ["term", "pool"] (spChoices T K) := ok_choices_for c C_ordered
  have C_product : Cal P w K mg base 1 "product" ["numbers"] (spProduct T) := ok_product c
  obtain ⟨fd, F⟩ := c.f_how_many
  refine fn_mk F c.g_how_many (fn_okP F sc_how_many (fun _ => rfl) (by decide) fun a ha cdv Ar outer s Hs Ex hr => ⟨_, (pss_cons (ps_expr (pe_fn C_look_at_pool (hr.mono (by omega)) (pa_cons (pv 0) (pa_cons (pv 1) pa_nil))))
      (pss_one (ps_ret (pe_fn C_product (hr.mono (by omega)) (pa_cons (pe_fn C_choices_for (hr.mono (by omega)) (pa_cons (pv 0) (pa_cons (pv 1) pa_nil))) pa_nil))))), fun G H A0 Q kQ => ?_⟩) (fun _ _ _ _ _ _ us hl => match us, hl with | [_, _], _ => rfl)
  obtain ⟨t, pool⟩ := a
  obtain ⟨h1, h2⟩ : GoodT t ∧ GoodPool pool := ha
  walk_at "lv"
  refine ev_callP (ea_cons (ev_var rfl (ea_cons (ev_var rfl (ea_nil ⟨(t, pool), rfl, h2, ?_⟩)))))
  walk_at "lv"
  refine ev_callP (ea_cons (ev_callP (ea_cons (ev_var rfl (ea_cons (ev_var rfl (ea_nil ⟨(t, pool), rfl, ⟨h1, h2⟩, ea_nil ⟨sizesI t.pg pool, rfl, sizes_pre h2, ?_⟩⟩)))))))
  rw [prod_sizes]
  exact kQ _
abbrev spNamingAt (T : Tb) (K : PySem.W.Frag) : Sp := SpP T (Tr × List Str × Nat) (fun a => [tmV K a.1, Mo.d (strL a.2.1), Mo.d (.int ((a.2.2 : Nat) : Int))]) (fun a => GoodT a.1 ∧ GoodPool a.2.1 ∧ a.2.2 < wholeN a.1.pg a.2.1 ∧ NBok a.2.1 a.1.pg.allLive [] a.2.2) (fun a => Mo.d (.tuple ((namesBy a.2.1 a.1.pg.allLive [] a.2.2).map PyData.str)))
-- slots of naming_at: 0 term, 1 pool, 2 number
theorem sc_naming_at : FnScope ["term", "pool", "number"] ["term", "pool", "number"] (defScope s_naming_at) := ⟨rfl, rfl, rfl, by decide +kernel, rfl, by decide +kernel, by decide +kernel⟩
theorem ok_naming_at (c : Fc K mg) (C_ordered : Cal P w K mg base 5 "ordered" ["names"] (spOrdered T)) : Cal P w K mg base 10 "naming_at" ["term", "pool", "number"] (spNamingAt T K) := by
  have C_look_at_pool : Cal P w K mg base 3 "look_at_pool" ["term", "pool"] (spLookPool T K) := ok_look_at_pool c
  have C_choices_for : Cal P w K mg base 8 "choices_for" ["term", "pool"] (spChoices T K) := ok_choices_for c C_ordered
  have C_product : Cal P w K mg base 1 "product" ["numbers"] (spProduct T) := ok_product c
  have C_is_number : Cal P w K mg base 2 "is_number" ["value", "low", "high"] (spIsNumber T) := ok_is_number c
  have C_naming_by : Cal P w K mg base 9 "naming_by" ["term", "pool", "number"] (spNamingBy T K) := ok_naming_by c C_ordered
  obtain ⟨fd, F⟩ := c.f_naming_at
  refine fn_mk F c.g_naming_at (fn_okP F sc_naming_at (fun _ => rfl) (by decide) fun a ha cdv Ar outer s Hs Ex hr => ⟨_, (pss_cons (ps_expr (pe_fn C_look_at_pool (hr.mono (by omega)) (pa_cons (pv 0) (pa_cons (pv 1) pa_nil))))
      (pss_cons (ps_if (pt_not (pt_val (pe_fn C_is_number (hr.mono (by omega)) (pa_cons (pv 2) (pa_cons pe_int (pa_cons (pe_op op_sub (pe_fn C_product (hr.mono (by omega)) (pa_cons (pe_fn C_choices_for (hr.mono (by omega)) (pa_cons (pv 0) (pa_cons (pv 1) pa_nil))) pa_nil)) pe_int) pa_nil)))))) pss_never pss_nil)
      (pss_one (ps_ret (pe_fn C_naming_by (hr.mono (by omega)) (pa_cons (pv 0) (pa_cons (pv 1) (pa_cons (pv 2) pa_nil)))))))), fun G H A0 Q kQ => ?_⟩) (fun _ _ _ _ _ _ us hl => match us, hl with | [_, _, _], _ => rfl)
  obtain ⟨t, pool, n⟩ := a
  obtain ⟨h1, h2, h3, h4⟩ : GoodT t ∧ GoodPool pool ∧ n < wholeN t.pg pool ∧ NBok pool t.pg.allLive [] n := ha
  walk_at "lv"
  refine ev_callP (ea_cons (ev_var rfl (ea_cons (ev_var rfl (ea_nil ⟨(t, pool), rfl, h2, ?_⟩)))))
  walk_at "lv"
  refine ev_callP (ea_cons (ev_var rfl (ea_cons (ev_int (ea_cons (ev_op (ev_callP (ea_cons (ev_callP (ea_cons (ev_var rfl (ea_cons (ev_var rfl (ea_nil ⟨(t, pool), rfl, ⟨h1, h2⟩, ea_nil ⟨sizesI t.pg pool, rfl, sizes_pre h2, ?_⟩⟩))))))))))))))
  rw [prod_sizes]
  refine ev_int (ov_sub (ea_nil ⟨((n : Int), 0, (wholeN t.pg pool : Int) - 1), rfl, (show (0 : Int) ≤ (n : Int) ∧ (n : Int) ≤ (wholeN t.pg pool : Int) - 1 by omega), ?_⟩))
  walk_at "lv"
  refine ev_callP (ea_cons (ev_var rfl (ea_cons (ev_var rfl (ea_cons (ev_var rfl (ea_nil ⟨(t, pool, n), rfl, ⟨h1, h2, h4⟩, ?_⟩)))))))
  exact kQ _
/-- the number of a naming, so many binders told -/
def numTo (p : Pg) (pool names : List Str) : Nat → Nat
  | 0 => 0
  | k + 1 => numTo p pool names k * sizeN pool (p.live k) + (letP (p.live k) (names.take k) pool).idxOf (names.getD k "")
/-- names that may be numbered -/
structure NumOk (t : Tr) (pool names : List Str) : Prop where
  good : GoodNs t.pg.nb names
  right : Right t.pg names
  sub : ∀ x ∈ names, x ∈ pool
  ok : ∀ b, b < t.pg.nb → (∀ m ∈ t.pg.live b, m.ok b) ∧ names.getD b "" ∈ letP (t.pg.live b) (names.take b) pool
abbrev spNumberOf (T : Tb) (K : PySem.W.Frag) : Sp := SpP T (Tr × List Str × List Str) (fun a => [tmV K a.1, Mo.d (strL a.2.1), Mo.d (.tuple (a.2.2.map PyData.str))]) (fun a => GoodT a.1 ∧ GoodPool a.2.1 ∧ NumOk a.1 a.2.1 a.2.2) (fun a => Mo.d (.int (numTo a.1.pg a.2.1 a.2.2 a.1.pg.nb : Int)))
-- slots of number_of: 0 term, 1 pool, 2 names, 3 sizes, 4 found, 5 binder, 6 some
theorem sc_number_of : FnScope ["term", "pool", "names", "sizes", "found", "binder", "some"] ["term", "pool", "names"] (defScope s_number_of) := ⟨rfl, rfl, rfl, by decide +kernel, rfl, by decide +kernel, by decide +kernel⟩
theorem ok_number_of (c : Fc K mg) (C_ordered : Cal P w K mg base 5 "ordered" ["names"] (spOrdered T)) : Cal P w K mg base 9 "number_of" ["term", "pool", "names"] (spNumberOf T K) := by
  have C_look_at_pool : Cal P w K mg base 3 "look_at_pool" ["term", "pool"] (spLookPool T K) := ok_look_at_pool c
  have C_choices_for : Cal P w K mg base 8 "choices_for" ["term", "pool"] (spChoices T K) := ok_choices_for c C_ordered
  have C_all_live : Cal P w K mg base 7 "all_live" ["term"] (spAllLive T K) := ok_all_live c C_ordered
  have C_is_from : Cal P w K mg base 3 "is_from" ["term", "pool", "names"] (spIsFrom T K) := ok_is_from c
  have C_let_at : Cal P w K mg base 2 "let_at" ["term_live", "found", "pool"] (spLetAt T) := ok_let_at c
  obtain ⟨fd, F⟩ := c.f_number_of
  refine fn_mk F c.g_number_of (fn_okP F sc_number_of (fun _ => rfl) (by decide) fun a ha cdv Ar outer s Hs Ex hr => ⟨_, (pss_cons (ps_expr (pe_fn C_look_at_pool (hr.mono (by omega)) (pa_cons (pv 0) (pa_cons (pv 1) pa_nil))))
      (pss_cons (ps_if (pt_not (pt_val (pe_fn C_is_from (hr.mono (by omega)) (pa_cons (pv 0) (pa_cons (pv 1) (pa_cons (pv 2) pa_nil)))))) pss_never pss_nil)
      (pss_cons (ps_par (i := 3) (j := 4) (by rfl) sc_number_of.nd rfl rfl (by decide) rfl rfl (pa_cons (pe_fn C_choices_for (hr.mono (by omega)) (pa_cons (pv 0) (pa_cons (pv 1) pa_nil))) (pa_cons pe_int pa_nil)) (by rfl))
      (pss_cons (ps_for PassesOwn.never rfl (pi_enum rfl c.b_enumerate (pa_cons (pe_fn C_all_live (hr.mono (by omega)) (pa_cons (pv 0) pa_nil)) pa_nil)) (pg_tupB (K0 := K) (n := 2) rfl (pgs_cons (tn 5 sc_number_of.nd) (pgs_cons (tn 6 sc_number_of.nd) pgs_nil))) (pss_one (ps_set (i := 4) sc_number_of.nd rfl (Or.inl rfl) (pe_op op_add (pe_op op_mul (pv 4) (pe_ix (ix_seqB (K0 := K)) (pv 3) (pv 5) (fun _ _ => rfl))) (pe_bm PySem.F.plainAttrs_list PySem.F.slot_list_index PySem.F.type_list_index mt_index (pe_fn C_let_at (hr.mono (by omega)) (pa_cons (pv 6) (pa_cons (pe_callTy (c_listB (K0 := K)) rfl c.b_list boot_list (pa_cons (pe_slice (sl_tupB (K0 := K)) (pv 2) po_none (po_some (pv 5))) pa_nil)) (pa_cons (pv 1) pa_nil)))) (pa_cons (pe_ix (ix_seqB (K0 := K)) (pv 2) (pv 5) (fun _ _ => rfl)) pa_nil))))))
      (pss_one (ps_ret (pv 4))))))), fun G H A0 Q kQ => ?_⟩) (fun _ _ _ _ _ _ us hl => match us, hl with | [_, _, _], _ => rfl)
  obtain ⟨t, pool, names⟩ := a
  obtain ⟨h1, h2, h3⟩ : GoodT t ∧ GoodPool pool ∧ NumOk t pool names := ha
  have hal := allLive_len t
  have hnb := nb_30 t h1
  have hgl := h3.good.1
  walk_at "lv"
  refine ev_callP (ea_cons (ev_var rfl (ea_cons (ev_var rfl (ea_nil ⟨(t, pool), rfl, h2, ?_⟩)))))
  walk_at "lv"
  refine ev_callP (ea_cons (ev_var rfl (ea_cons (ev_var rfl (ea_cons (ev_var rfl (ea_nil ⟨(t, pool, names), rfl, ⟨h1.1, h3.good, h3.right, h3.sub⟩, ?_⟩)))))))
  walk_at "lv"
  refine go_par (ea_cons (ev_callP (ea_cons (ev_var rfl (ea_cons (ev_var rfl (ea_nil ⟨(t, pool), rfl, ⟨h1, h2⟩, ?_⟩)))))))
  refine ea_cons (ev_int (ea_nil ⟨_, _, rfl, ?_⟩))
  walk_at "lv"
  refine go_for (vs := [5, 6]) (ei_enum (ea_cons (ev_callP (ea_cons (ev_var rfl (ea_nil ⟨t, rfl, h1, ea_nil ⟨_, rfl, ?_⟩⟩))))))
  refine ⟨fun k ρ M => ∃ x5 x6, ρ = [some (tmV K t), some (Mo.d (strL pool)), some (Mo.d (.tuple (names.map PyData.str))), some (Mo.d (intL (sizesI t.pg pool))), some (Mo.d (.int ((numTo t.pg pool names k : Nat) : Int))), x5, x6], ⟨_, _, rfl⟩, ?_, ?_⟩
  · rintro k φ ρ1 M1 hk ⟨x5, x6, rfl⟩
    obtain ⟨d, hd, rfl⟩ := map_d_get hk
    obtain ⟨m, hm, rfl⟩ := enumD_get hd
    rw [List.getElem?_map] at hm
    cases hu : t.pg.allLive[k]? with
    | none => rw [hu] at hm; cases hm
    | some ms =>
      rw [hu] at hm
      cases hm
      have hk2 := (List.getElem?_eq_some_iff.mp hu).1
      rw [hal] at hk2
      have hms : ms = t.pg.live k := by
        unfold Pg.allLive at hu
        rw [List.getElem?_map, List.getElem?_range hk2] at hu
        exact (Option.some.inj hu).symm
      subst hms
      have hml := uses_len t h1 k
      obtain ⟨q1, q2⟩ := h3.ok k hk2
      have htl : (names.take k).length = k := by rw [List.length_take]; omega
      have hsz : (sizesI t.pg pool)[k]? = some ((sizeN pool (t.pg.live k) : Nat) : Int) := by
        rw [sizesI_nat]
        exact map_get (map_get hu)
      have hnk : (names.map PyData.str)[k]? = some (.str (names.getD k "")) := map_getD (by omega)
      have hsl := sizeN_le h2 (t.pg.live k)
      refine ⟨_, tgt_tup rfl (tgts_cons (tgt_name (by simp)) (tgts_cons (tgt_name (by simp)) tgts_nil)), fun A N hA hN => ?_⟩
      walk_at "lv"
      refine ov_ixL (map_get hsz) (ov_mul (.inr (by omega)) ?_)
      refine ev_indexS (ev_call1 (ea_cons (ev_var rfl (ea_cons (ev_cb (ea_cons (ev_slT (ev_var rfl ⟨_, rfl, eo_none (eo_some (ev_var rfl ⟨_, rfl, ?_, ea_nil (cv_listM (.inr rfl) fun l => ?_)⟩))⟩))) )))))
      · rw [HT.sIx_nat, List.length_map]
        omega
      rw [cutD_to (by rw [List.length_map]; omega), ← List.map_take]
      refine ea_cons (ev_var rfl (ea_nil ⟨⟨t.pg.live k, l, names.take k, pool⟩, _, l, _, rfl, rfl, at_last, ⟨?_, ?_, ?_⟩, ?_⟩))
      · show (t.pg.live k).length ≤ 100
        omega
      · exact h2.1
      · show ∀ m ∈ t.pg.live k, m.ok (names.take k).length
        rw [htl]
        exact q1
      · rintro χ M' ⟨rfl, rfl⟩
        refine ⟨_, rfl, _, rfl, ea_cons (ev_op (ev_var rfl (ev_var rfl (ov_ixT hnk (ea_nil ⟨_, rfl, q2, ov_add ?_⟩)))))⟩
        have e : ((numTo t.pg pool names k : Nat) : Int) * ((sizeN pool (t.pg.live k) : Nat) : Int) + (((letP (t.pg.live k) (names.take k) pool).idxOf (names.getD k "") : Nat) : Int) = ((numTo t.pg pool names (k + 1) : Nat) : Int) := by
          rw [numTo, Int.natCast_add, Int.natCast_mul]
        show Go _ _ [some (tmV K t), some (Mo.d (strL pool)), some (Mo.d (.tuple (names.map PyData.str))), some (Mo.d (intL (sizesI t.pg pool))), some (Mo.d (.int (((numTo t.pg pool names k : Nat) : Int) * ((sizeN pool (t.pg.live k) : Nat) : Int) + (((letP (t.pg.live k) (names.take k) pool).idxOf (names.getD k "") : Nat) : Int)))), _, _] _
        rw [e]
        exact hN _ _ ⟨_, _, rfl⟩
  · rintro ρ1 M1 ⟨x5, x6, rfl⟩
    rw [List.length_map, enumD_len, List.length_map, hal]
    exact go_ret (ev_var rfl (kQ _))
end Lv
/-! #### L1 -/
namespace Lv
open PySem L2 StX PyProof.Rows
local macro_rules | `(tactic| walk_at "lv1") => `(tactic| first
  | with_reducible refine go_seq ?_
  | with_reducible refine go_set ?_
  | with_reducible refine go_ret ?_
  | with_reducible refine go_drop ?_
  | with_reducible refine go_if ?_
  | with_reducible refine ev_op ?_
  | with_reducible refine ev_cb ?_
  | with_reducible refine ea_cons ?_
  | with_reducible refine ea_nil ?_
  | refine ev_var rfl ?_
  | with_reducible refine ev_int ?_
  | with_reducible refine ev_str ?_
  | with_reducible refine ev_bl ?_
  | with_reducible refine ev_ty ?_
  | with_reducible refine ev_non ?_
  | with_reducible refine ev_cls ?_
  | with_reducible refine ev_un ?_
  | with_reducible refine ev_fld ?_
  | with_reducible refine ev_andV ?_
  | with_reducible refine ev_notV ?_
  | with_reducible refine ev_ifE ?_
  | with_reducible refine ev_chain ?_
  | with_reducible refine et_test ?_
  | with_reducible refine et_B ?_
  | with_reducible refine et_and ?_
  | with_reducible refine et_or ?_
  | with_reducible refine et_not ?_
  | with_reducible refine et_yes ?_
  | with_reducible refine ov_add ?_
  | with_reducible refine ov_sub ?_
  | with_reducible refine ov_lt ?_
  | with_reducible refine ov_le ?_
  | with_reducible refine ov_gt ?_
  | with_reducible refine ov_ge ?_
  | with_reducible refine ov_neg ?_
  | with_reducible refine ov_eqI ?_
  | with_reducible refine ov_neI ?_
  | with_reducible refine ov_eqS ?_
  | with_reducible refine ov_inSg ?_
  | with_reducible refine ov_inS ?_
  | with_reducible refine ov_inI ?_
  | with_reducible refine cv_lenL ?_
  | with_reducible refine cv_lenT ?_
  | with_reducible refine cv_max2 ?_
  | with_reducible refine cv_min2 ?_
  | with_reducible refine cv_intI ?_
  | with_reducible refine cv_intB ?_
  | with_reducible refine cv_tuple ?_
  | with_reducible refine cv_list (.inl rfl) ?_
  | with_reducible refine cv_list (.inr rfl) ?_
  | refine ov_ixT (n := 0) rfl ?_
  | refine ov_ixT (n := 1) rfl ?_
  | refine ov_ixT (n := 2) rfl ?_
  | refine ov_ixT (n := 3) rfl ?_
  | refine ov_ixL (n := 0) rfl ?_
  | refine ov_ixL (n := 1) rfl ?_
  | refine ov_ixL (n := 2) rfl ?_
  | refine iteT ?_
  | refine iteF ?_
  | with_reducible refine iteN (b := !true) rfl ?_
  | with_reducible refine iteP (b := !false) rfl ?_
  | with_reducible refine go_next ?_
  | refine ⟨_, rfl, ?_⟩)
local macro_rules | `(tactic| walk_at "lv") => `(tactic| repeat walk_at "lv1")
variable {P : Program} {w : World} {K : PySem.W.Frag} {mg : Str → Option Value} {base : Heap} {T : Tb}
/-! ### more rules -/
theorem ixN_nat {n k : Nat} (h : k < n) : ixN n (k : Int) = some k := by
  unfold ixN
  simp
  omega
/-- l[i] = e -/
theorem go_sub {Z : Zo} {D : Ends} {ρ : Rho} {M : Mus} {te to ti : TE} (h : Ev Z.T te ρ M fun φ M1 => ∃ d, φ = Mo.d d ∧ Ev Z.T to ρ M1 fun ψ M2 => ∃ p, ψ = Mo.adr p ∧ Ev Z.T ti ρ M2 fun χ M3 => ∃ (k m : Nat) (ds : List PyData), χ = Mo.d (.int (k : Int)) ∧ M3[m]? = some (p, Mu.dl ds) ∧ k < ds.length ∧ Go Z D.nx ρ (M3.set m (p, Mu.dl (ds.set k d)))) :
    Go Z (tAsg te (gSub to ti rSetL) D) ρ M := fun σ G H e z =>
  h.run e z.st fun v φ M1 G1 H1 ⟨d, e1, k1⟩ p1 n1 => k1.run (e.mono n1.g) n1.st fun x ψ M2 G2 H2 ⟨p, e2, k2⟩ p2 n2 => k2.run (e.mono (n1.trans n2).g) n2.st fun y χ M3 G3 H3 ⟨k, m, ds, e3, hm, hk, g⟩ p3 n3 => by
    subst e1 e2 e3
    obtain ⟨_, o, ho, xs, rfl, hr⟩ := n3.st.at hm
    rw [show x = .ref p from p2, rep_int p3]
    refine ⟨p, xs, (k : Int), k, rfl, rfl, ho, ixN_nat (by rw [hr.length]; exact hk), ?_⟩
    have n4 := (n1.trans (n2.trans n3)).trans (Po.wrote n3.st hm (m' := Mu.dl (ds.set k d)) ⟨_, rfl, RepL.set (Mo.mono _ (n2.trans n3).g p1) k hr⟩)
    exact g σ G3 _ (e.mono (n1.trans (n2.trans n3)).g) (z.to n4)
/-- while; Iv m: what holds with a measure m -/
theorem go_while {Z : Zo} {D : Ends} {ρ : Rho} {M : Mus} {c : TT} {tb : TS} (Iv : Nat → Rho → Mus → Prop) (m0 : Nat) (h0 : Iv m0 ρ M)
    (step : ∀ (m : Nat) (ρ1 : Rho) (M1 : Mus), Iv m ρ1 M1 → ∀ A, Same Z.A A → EvT Z.T c ρ1 M1 fun b M2 => if b = true then (∀ (B : Hp) (N : Sl → Hp → Prop), Same A B → (∀ m' ρ3 M3, m' < m → Iv m' ρ3 M3 → Go (Z.at B) N ρ3 M3) → Go (Z.at B) (tb { D with nx := N, ct := N, bk := D.nx }) ρ1 M2) else Go Z D.nx ρ1 M2) :
    Go Z (tWhile c tb D) ρ M := fun σ G H e z => by
  refine ⟨fun m σ H => ∃ ρ1 M1 G1, Iv m ρ1 M1 ∧ EnvOk G1 σ ρ1 ∧ Z.Ok M1 G1 H, ⟨m0, ρ, M, G, h0, e, z⟩, ?_⟩
  rintro m σ H ⟨ρ1, M1, G1, hI, e1, z1⟩
  refine (step m ρ1 M1 hI G1 z1.an) σ G1 H e1 z1.st _ fun b M2 G2 H2 k2 n2 => ?_
  cases b with
  | true =>
    rw [if_pos rfl] at k2 ⊢
    refine ⟨fun σ' H' => ∃ m' ρ3 M3 G3, m' < m ∧ Iv m' ρ3 M3 ∧ EnvOk G3 σ' ρ3 ∧ Z.Ok M3 G3 H', fun σ' H' ⟨m', ρ3, M3, G3, hlt, hI', e', z'⟩ => ⟨m', hlt, ρ3, M3, G3, hI', e', z'⟩, ?_⟩
    refine k2 G2 _ n2.g (fun m' ρ3 M3 hlt hI' σ3 G3 H3 e3 z3 => ⟨m', ρ3, M3, G3, hlt, hI', e3, z3.back (z1.an.trans n2.g)⟩) σ G2 H2 (e1.mono n2.g) ?_
    have z2 := z1.to n2
    exact ⟨z2.st, z2.nx, z2.nw, Same.refl _⟩
  | false =>
    rw [if_neg Bool.false_ne_true] at k2 ⊢
    exact k2 σ G2 H2 (e1.mono n2.g) (z1.to n2)
/-- what follows is shown once -/
theorem go_join {Z : Zo} {D : Ends} {ρ : Rho} {M : Mus} {t : TS} (I : Rho → Mus → Prop) (h1 : ∀ N : Sl → Hp → Prop, (∀ ρ1 M1, I ρ1 M1 → Go Z N ρ1 M1) → Go Z (t { D with nx := N }) ρ M) (h2 : ∀ ρ1 M1, I ρ1 M1 → Go Z D.nx ρ1 M1) : Go Z (t D) ρ M := h1 D.nx h2
theorem ov_pow {T : Tb} {M : Mus} {Kk : Ks} {i j : Int} (c : CPow i j) (k : Kk (Mo.d (.int (i ^ j.toNat))) M) : OpV T (rI CPow fun i j => .int (i ^ j.toNat)) (Mo.d (.int i)) (Mo.d (.int j)) M Kk := ov_I c (fun _ => .int _) k
/-! ### the source of chance -/
structure Src where
  a : Int
  b : Int
  ha : 0 ≤ a
  hb : 0 ≤ b ∧ b < 2147483647
abbrev srcE (p : Addr) (s : Src) : Addr × Mu := (p, Mu.dl [.int s.a, .int s.b])
/-- a def that is handed the source first, and changes nothing else -/
abbrev SpS (T : Tb) (A : Type) (args : A → List Mo) (pre : A → Prop) (R : A → PyData → Prop) : Sp := SpG T (Addr × Src × A) (fun a => Mo.adr a.1 :: args a.2.2) (fun a => [srcE a.1 a.2.1]) (fun a => pre a.2.2) (fun a φ M => ∃ d s, R a.2.2 d ∧ φ = Mo.d d ∧ M = [srcE a.1 s])
theorem ev_src {ρ : Rho} {M : Mus} {Kk : Ks} {A : Type} {args : A → List Mo} {pre : A → Prop} {R : A → PyData → Prop} {E : XK} {tr : TA}
    (h : EvA T tr ρ M fun φs M1 => ∃ (x : A) (p : Addr) (s : Src) (n : Nat), φs = Mo.adr p :: args x ∧ M1[n]? = some (srcE p s) ∧ pre x ∧ ∀ d s', R x d → Kk (Mo.d d) (M1.set n (srcE p s'))) : Ev T (tCall (SpS T A args pre R) [] E tr) ρ M Kk :=
  ev_call1 fun σ G H e s Q q => h σ G H e s Q fun vs φs M1 G1 H1 ⟨x, p, s0, n, e1, hn, hp, k⟩ p1 n1 => q vs φs M1 G1 H1 ⟨(p, s0, x), n, p, _, e1, rfl, hn, hp, fun φ M' ⟨d, s', hR, e2, e3⟩ => ⟨_, e3, e2 ▸ k d s' hR⟩⟩ p1 n1
abbrev spTake (T : Tb) : Sp := SpS T Nat (fun n => [Mo.d (.int (n : Int))]) (fun n => 0 < n ∧ n ≤ 60 ^ 30) (fun n d => ∃ r : Nat, r < n ∧ d = .int (r : Int))
-- slots of _law_take: 0 _law_source, 1 _law_top, 2 _law_told
theorem sc__law_take : FnScope ["_law_source", "_law_top", "_law_told"] ["_law_source", "_law_top"] (defScope s__law_take) := ⟨rfl, rfl, rfl, by decide +kernel, rfl, by decide +kernel, by decide +kernel⟩
theorem mod_src (x : Int) : 0 ≤ x % 2147483647 ∧ x % 2147483647 < 2147483647 := by omega
theorem ok_take (c : Fc K mg) : Cal P w K mg base 1 "_law_take" ["_law_source", "_law_top"] (spTake T) := by
  obtain ⟨fd, F⟩ := c.f__law_take
  refine fn_mk F c.g__law_take (fn_ok F sc__law_take (fun _ => rfl) (by decide) fun a ha cdv Ar outer s Hs Ex hr => ⟨_, (pss_cons (ps_if (pt_cmpR op_gt (pe_ix (ix_seqB (K0 := K)) (pv 0) pe_int (fun _ _ => rfl)) pe_int (nomark _)) (pss_cons (ps_set (i := 2) sc__law_take.nd rfl (Or.inl rfl) (pe_op op_mod (pe_callTy c_int rfl c.b_int boot_int (pa_cons (pe_ix (ix_seqB (K0 := K)) (pv 0) pe_int (fun _ _ => rfl)) pa_nil)) (pv 1)))
      (pss_cons (ps_asg (pe_op op_fdivW (pe_ix (ix_seqB (K0 := K)) (pv 0) pe_int (fun _ _ => rfl)) (pv 1)) (pg_sub (pv 0) pe_int set_list))
      (pss_one (ps_ret (pv 2))))) pss_nil)
      (pss_cons (ps_asg (pe_op op_mod (pe_callTy c_int rfl c.b_int boot_int (pa_cons (pe_op op_add (pe_op op_mul (pe_ix (ix_seqB (K0 := K)) (pv 0) pe_int (fun _ _ => rfl)) pe_int) pe_int) pa_nil)) pe_int) (pg_sub (pv 0) pe_int set_list))
      (pss_one (ps_ret (pe_op op_mod (pe_callTy c_int rfl c.b_int boot_int (pa_cons (pe_op op_fdivW (pe_op op_mod (pe_callTy c_int rfl c.b_int boot_int (pa_cons (pe_op op_mul (pe_ix (ix_seqB (K0 := K)) (pv 0) pe_int (fun _ _ => rfl)) (pe_ix (ix_seqB (K0 := K)) (pv 0) pe_int (fun _ _ => rfl))) pa_nil)) pe_int) pe_int) pa_nil)) (pv 1)))))), fun G H A0 Q kQ => ?_⟩) (fun _ _ _ _ _ _ us hl => match us, hl with | [_, _], _ => rfl)
  obtain ⟨p, ⟨a, b, h1, h2⟩, n⟩ := a
  obtain ⟨h3, h4⟩ : 0 < n ∧ n ≤ 60 ^ 30 := ha
  have hmod : ∀ x : Int, x % (n : Int) = ((x % (n : Int)).toNat : Int) ∧ (x % (n : Int)).toNat < n := fun x => by
    have g1 := Int.emod_nonneg x (by omega : (n : Int) ≠ 0)
    have g2 := Int.emod_lt_of_pos x (by omega : 0 < (n : Int))
    omega
  refine go_seq (go_if (et_test (ev_op (ev_op (ev_var rfl (ev_int (ov_ixM (m := 0) (n := 0) rfl rfl (ev_int (ov_gt ⟨_, rfl, ?_⟩)))))))))
  by_cases hpos : 0 < a
  · refine iteP (decide_eq_true hpos) ?_
    walk_at "lv"
    refine ov_ixM (m := 0) (n := 0) rfl rfl ?_
    walk_at "lv"
    refine ov_mod (show 0 < (n : Int) by omega) ?_
    refine go_sub (ev_op (ev_op (ev_var rfl (ev_int (ov_ixM (m := 0) (n := 0) rfl rfl (ev_var rfl (ov_div (cdiv_ok h3 h4) ⟨_, rfl, ev_var rfl ⟨p, rfl, ev_int ⟨0, 0, _, rfl, rfl, by show 0 < 2; omega, ?_⟩⟩⟩)))))))
    refine go_ret (ev_var rfl (kQ _ _ [] ⟨_, ⟨a / (n : Int), b, Int.ediv_nonneg h1 (by omega), h2⟩, ⟨(a % (n : Int)).toNat, (hmod a).2, ?_⟩, rfl, rfl⟩))
    rw [← (hmod a).1]
  · refine iteN (decide_eq_false hpos) ?_
    walk_at "lv"
    refine go_sub (ev_op (ev_cb (ea_cons (ev_op (ev_op (ev_op (ev_var rfl (ev_int (ov_ixM (m := 0) (n := 1) rfl rfl (ev_int (ov_mul (.inr (by omega)) (ev_int (ov_add (ea_nil (cv_intI (ev_int (ov_mod (by omega) ⟨_, rfl, ev_var rfl ⟨p, rfl, ev_int ⟨1, 0, _, rfl, rfl, by show 1 < 2; omega, ?_⟩⟩⟩)))))))))))))))))
    have hb2 := mod_src (b * 39373 + 7)
    generalize (b * 39373 + 7) % 2147483647 = b2 at hb2
    walk_at "lv"
    refine ov_ixM (m := 0) (n := 1) rfl rfl ?_
    walk_at "lv"
    refine ov_ixM (m := 0) (n := 1) rfl rfl (ov_mul (.inr (by omega)) ?_)
    walk_at "lv"
    refine ov_mod (by omega) ?_
    walk_at "lv"
    refine ov_div (cdiv_ok (j := 32) (by omega) (by decide)) ?_
    walk_at "lv"
    refine ov_mod (show 0 < (n : Int) by omega) (kQ _ _ [] ⟨_, ⟨a, b2, h1, hb2⟩, ⟨((b2 * b2) % 2147483629 / 32 % (n : Int)).toNat, (hmod _).2, ?_⟩, rfl, rfl⟩)
    rw [← (hmod _).1]
/-! ### the pool of chance, one, turned, unlike -/
theorem scr_mono {K0 : PySem.W.Frag} {G G' : Hp} (s : Same G G') {a : Addr} {xs : List V} (h : SqL K0 G a xs) : SqL K0 G' a xs := by
  rcases h with (z | ⟨o, z⟩) | z
  · exact .inl (.inl (s _ _ z))
  · exact .inl (.inr ⟨o, s _ _ z⟩)
  · exact .inr z
/-- a list of whole numbers that is read alone -/
def Mo.scr (K0 : PySem.W.Frag) (ns : List Int) : Mo := ⟨fun v G => ∃ a, v = .ref a ∧ SqL K0 G a (ns.map V.int), fun s ⟨a, e, h⟩ => ⟨a, e, scr_mono s h⟩⟩
theorem cv_lenScr {M : Mus} {Kk : Ks} {K0 : PySem.W.Frag} {ns : List Int} (k : Kk (Mo.d (.int (ns.length : Int))) M) : CbV T (rLen K0) [Mo.scr K0 ns] M Kk := fun xs G H p s Q q => by
  obtain ⟨x, rfl, hx⟩ := one p
  obtain ⟨a, rfl, h2⟩ := hx
  exact ⟨_, ns.length, rfl, .inl ⟨ns.map V.int, scr_mono s.sub h2, (List.length_map ..).symm⟩, q _ _ M G H k (Rep.int _) (Po.refl s)⟩
theorem ov_ixScr {M : Mus} {Kk : Ks} {K0 : PySem.W.Frag} {ns : List Int} {n : Nat} {z : Int} (hi : ns[n]? = some z) (k : Kk (Mo.d (.int z)) M) : OpV T (rIx K0) (Mo.scr K0 ns) (Mo.d (.int (n : Int))) M Kk := fun x y G H p1 p2 s Q q => by
  obtain ⟨a, h1, h2⟩ := p1
  have e : (ns.map V.int)[n]? = some (V.int z) := by rw [List.getElem?_map, hi] <;> rfl
  exact .inl ⟨a, _, _, _, h1, rep_int p2, scr_mono s.sub h2, atI_nat e, q _ _ M G H k (Rep.int _) (Po.refl s)⟩
abbrev spPoolC (T : Tb) (K : PySem.W.Frag) : Sp := SpG T (List Int × Nat) (fun a => [Mo.scr K a.1, Mo.d (.int (a.2 : Int))]) (fun _ => []) (fun a => a.2 < 8) (fun _ φ M => ∃ p s, φ = Mo.adr p ∧ M = [srcE p s])
-- slots of _law_pool: 0 _law_script, 1 _law_k, 2 _law_cell, 3 _law_big, 4 _law_mixed
theorem sc__law_pool : FnScope ["_law_script", "_law_k", "_law_cell", "_law_big", "_law_mixed"] ["_law_script", "_law_k"] (defScope s__law_pool) := ⟨rfl, rfl, rfl, by decide +kernel, rfl, by decide +kernel, by decide +kernel⟩
theorem ok_pool (c : Fc K mg) : Cal P w K mg base 1 "_law_pool" ["_law_script", "_law_k"] (spPoolC T K) := by
  obtain ⟨fd, F⟩ := c.f__law_pool
  refine fn_mk F c.g__law_pool (fn_ok F sc__law_pool (fun _ => rfl) (by decide) fun a ha cdv Ar outer s Hs Ex hr => ⟨_, (pss_cons (ps_set (i := 2) sc__law_pool.nd rfl (Or.inl rfl) pe_int)
      (pss_cons (ps_if (pt_cmpR op_lt (pv 1) (pe_callB (c_lenB (K0 := K)) rfl c.b_len boot_len (pa_cons (pv 0) pa_nil)) (nomark _)) (pss_one (ps_set (i := 2) sc__law_pool.nd rfl (Or.inl rfl) (pe_ix (ix_seqB (K0 := K)) (pv 0) (pv 1) (fun _ _ => rfl)))) pss_nil)
      (pss_cons (ps_set (i := 3) sc__law_pool.nd rfl (Or.inl rfl) (pe_callB (c_max2 rfl) rfl c.b_max boot_max (pa_cons (pe_callTy c_int rfl c.b_int boot_int (pa_cons (pv 2) pa_nil)) (pa_cons (pe_callTy c_int rfl c.b_int boot_int (pa_cons (pe_op op_sub (pe_un un_neg pe_int) (pv 2)) pa_nil)) pa_nil))))
      (pss_cons (ps_set (i := 4) sc__law_pool.nd rfl (Or.inl rfl) (pe_op op_mod (pe_callTy c_int rfl c.b_int boot_int (pa_cons (pe_op op_mul (pe_op op_add (pe_op op_add (pe_op op_add (pe_op op_mod (pe_callTy c_int rfl c.b_int boot_int (pa_cons (pv 3) pa_nil)) pe_int) (pe_op op_mul (pe_op op_mul pe_int (pv 1)) (pv 1))) (pe_op op_mul pe_int (pv 1))) pe_int) pe_int) pa_nil)) pe_int))
      (pss_one (ps_ret (pe_lst (pa_cons (pe_op op_mul (pv 3) (pe_callTy c_int rfl c.b_int boot_int (pa_cons (pe_cmpR op_ge (pv 3) (pe_op op_pow pe_int pe_int) (nomark _)) pa_nil))) (pa_cons (pv 4) pa_nil))))))))), fun G H A0 Q kQ => ?_⟩) (fun _ _ _ _ _ _ us hl => match us, hl with | [_, _], _ => rfl)
  obtain ⟨ns, k⟩ := a
  have hk : k < 8 := ha
  refine go_seq (go_set (ev_int ?_))
  with_reducible refine go_seq ?_
  refine go_join (t := tIfS _ _ _) (fun ρ M => ∃ cell : Int, ρ = [some (Mo.scr K ns), some (Mo.d (.int (k : Int))), some (Mo.d (.int cell)), none, none] ∧ M = []) (fun N hN => ?_) ?_
  · refine go_if (et_test (ev_op (ev_var rfl (ev_cb (ea_cons (ev_var rfl (ea_nil (cv_lenScr (ov_lt ⟨_, rfl, ?_⟩)))))))))
    by_cases hlt : k < ns.length
    · refine iteP (decide_eq_true (show (k : Int) < (ns.length : Int) by omega)) ?_
      refine go_set (ev_op (ev_var rfl (ev_var rfl (ov_ixScr (List.getElem?_eq_getElem hlt) (hN _ _ ⟨_, rfl, rfl⟩)))))
    · refine iteN (decide_eq_false (show ¬ (k : Int) < (ns.length : Int) by omega)) ?_
      exact hN _ _ ⟨0, rfl, rfl⟩
  rintro ρ1 M1 ⟨cell, rfl, rfl⟩
  have hbig : 0 ≤ (if -1 - cell > cell then -1 - cell else cell) := by split <;> omega
  refine go_seq (go_set (ev_cb (ea_cons (ev_cb (ea_cons (ev_var rfl (ea_nil (cv_intI (ea_cons (ev_cb (ea_cons (ev_op (ev_un (ev_int (ov_neg (ev_var rfl (ov_sub (ea_nil (cv_intI (ea_nil (cv_max2 ?_)))))))))))))))))))))
  generalize (if -1 - cell > cell then -1 - cell else cell) = big at hbig

  walk_at "lv"
  refine ov_mod (by omega) ?_
  walk_at "lv"
  refine ov_mul (.inr (by omega)) ?_
  walk_at "lv"
  refine ov_mul (.inr (by omega)) ?_
  walk_at "lv"
  refine ov_mul (.inr (by omega)) ?_
  walk_at "lv"
  refine ov_mul (.inr (by omega)) ?_
  walk_at "lv"
  refine ov_mod (by omega) ?_
  have hm := mod_src ((big % 2147483629 + 7919 * (k : Int) * (k : Int) + 31 * (k : Int) + 17) * 48271)
  generalize (big % 2147483629 + 7919 * (k : Int) * (k : Int) + 31 * (k : Int) + 17) * 48271 % 2147483647 = mx at hm
  refine go_ret (ev_lstM (ea_cons (ev_op (ev_var rfl (ev_cb (ea_cons (ev_op (ev_var rfl (ev_op (ev_int (ev_int (ov_pow ⟨by omega, by omega, by decide⟩ (ov_ge (ea_nil (cv_intB (ov_mul (.inr ?_) ?_))))))))))))))))
  · split <;> omega
  refine ea_cons (ev_var rfl (ea_nil ⟨[.int _, .int mx], rfl, sz_small (by show 2 ≤ 1000000; omega), fun p => ?_⟩))
  refine kQ _ _ [] ⟨p, ⟨_, mx, ?_, hm⟩, rfl, rfl⟩
  refine Int.mul_nonneg hbig ?_
  split <;> omega
abbrev spOne (T : Tb) : Sp := SpS T (List PyData) (fun ds => [Mo.d (.list ds)]) (fun ds => 0 < ds.length ∧ ds.length ≤ 60 ^ 30) (fun ds d => d ∈ ds)
-- slots of _law_one: 0 _law_source, 1 _law_things
theorem sc__law_one : FnScope ["_law_source", "_law_things"] ["_law_source", "_law_things"] (defScope s__law_one) := ⟨rfl, rfl, rfl, by decide +kernel, rfl, by decide +kernel, by decide +kernel⟩
theorem ok_one (c : Fc K mg) : Cal P w K mg base 2 "_law_one" ["_law_source", "_law_things"] (spOne T) := by
  have C__law_take : Cal P w K mg base 1 "_law_take" ["_law_source", "_law_top"] (spTake T) := ok_take c
  obtain ⟨fd, F⟩ := c.f__law_one
  refine fn_mk F c.g__law_one (fn_ok F sc__law_one (fun _ => rfl) (by decide) fun a ha cdv Ar outer s Hs Ex hr => ⟨_, (pss_one (ps_ret (pe_ix (ix_seqB (K0 := K)) (pv 1) (pe_fn C__law_take (hr.mono (by omega)) (pa_cons (pv 0) (pa_cons (pe_callB (c_lenB (K0 := K)) rfl c.b_len boot_len (pa_cons (pv 1) pa_nil)) pa_nil))) (fun _ _ => rfl)))), fun G H A0 Q kQ => ?_⟩) (fun _ _ _ _ _ _ us hl => match us, hl with | [_, _], _ => rfl)
  obtain ⟨p, s0, ds⟩ := a
  refine go_ret (ev_op (ev_var rfl (ev_src (ea_cons (ev_var rfl (ea_cons (ev_cb (ea_cons (ev_var rfl (ea_nil (cv_lenL (ea_nil ⟨ds.length, p, s0, 0, rfl, rfl, ha, ?_⟩))))))))))))
  rintro d s' ⟨r, hr, rfl⟩
  have e : ds[r]? = some ds[r] := List.getElem?_eq_getElem hr
  exact ov_ixL e (kQ _ _ [] ⟨_, s', List.getElem_mem hr, rfl, rfl⟩)
theorem map_erase {α β : Type} (f : α → β) : ∀ (xs : List α) (i : Nat), (xs.map f).eraseIdx i = (xs.eraseIdx i).map f
  | [], i => by cases i <;> rfl
  | x :: xs, 0 => rfl
  | x :: xs, i + 1 => by rw [List.map_cons, List.eraseIdx_cons_succ, List.eraseIdx_cons_succ, List.map_cons, map_erase f xs i]
/-- things in a drawn order -/
abbrev spTurned (T : Tb) : Sp := SpS T (List Str) (fun ss => [Mo.d (strL ss)]) (fun ss => ss.length ≤ 1000 ∧ ∀ x ∈ ss, nmB x = true) (fun ss d => ∃ ss' : List Str, ss'.Perm ss ∧ d = strL ss')
-- slots of _law_turned: 0 _law_source, 1 _law_things, 2 _law_left, 3 _law_found
theorem sc__law_turned : FnScope ["_law_source", "_law_things", "_law_left", "_law_found"] ["_law_source", "_law_things"] (defScope s__law_turned) := ⟨rfl, rfl, rfl, by decide +kernel, rfl, by decide +kernel, by decide +kernel⟩
theorem shp_strs {ss : List Str} (h : ∀ x ∈ ss, nmB x = true) : SeqAt.shaped (strL ss) = true := (shp_list (m := 0) fun d hd => by obtain ⟨x, hx, rfl⟩ := List.mem_map.mp hd; exact shp_str (strOk_nm (h x hx))).ok (by decide)
theorem ok_turned (c : Fc K mg) : Cal P w K mg base 2 "_law_turned" ["_law_source", "_law_things"] (spTurned T) := by
  have C__law_take : Cal P w K mg base 1 "_law_take" ["_law_source", "_law_top"] (spTake T) := ok_take c
  obtain ⟨fd, F⟩ := c.f__law_turned
  refine fn_mk F c.g__law_turned (fn_ok F sc__law_turned (fun _ => rfl) (by decide) fun a ha cdv Ar outer s Hs Ex hr => ⟨_, (pss_cons (ps_par (i := 2) (j := 3) (by rfl) sc__law_turned.nd rfl rfl (by decide) rfl rfl (pa_cons (pe_callTy (c_listB (K0 := K)) rfl c.b_list boot_list (pa_cons (pv 1) pa_nil)) (pa_cons (pe_lst pa_nil) pa_nil)) (by rfl))
      (pss_cons (ps_while PassesOwn.never (pt_cmpR (op_neDB (K0 := K) hr.units) (pv 2) (pe_lst pa_nil) (nomark _)) (pss_one (ps_expr (pe_bm PySem.F.plainAttrs_list PySem.F.slot_list_append PySem.F.type_list_append mt_append (pv 3) (pa_cons (pe_bm PySem.F.plainAttrs_list PySem.F.slot_list_pop PySem.F.type_list_pop mt_popAt (pv 2) (pa_cons (pe_fn C__law_take (hr.mono (by omega)) (pa_cons (pv 0) (pa_cons (pe_callB (c_lenB (K0 := K)) rfl c.b_len boot_len (pa_cons (pv 2) pa_nil)) pa_nil))) pa_nil)) pa_nil)))))
      (pss_one (ps_ret (pv 3))))), fun G H A0 Q kQ => ?_⟩) (fun _ _ _ _ _ _ us hl => match us, hl with | [_, _], _ => rfl)
  obtain ⟨p, s0, ss⟩ := a
  obtain ⟨h1, h2⟩ : ss.length ≤ 1000 ∧ ∀ x ∈ ss, nmB x = true := ha
  walk_at "lv"
  refine go_par (ea_cons (ev_cb (ea_cons (ev_var rfl (ea_nil (cv_listM (.inl rfl) fun pl => ?_))))))
  refine ea_cons (ev_lstM (ea_nil ⟨[], rfl, by simp, fun pf => ea_nil ⟨_, _, rfl, ?_⟩⟩))
  walk_at "lv"
  refine go_while (fun m ρ M => ∃ (l f : List Str) (s : Src), m = l.length ∧ (f ++ l).Perm ss ∧ M = [srcE p s, (pl, Mu.dl (l.map PyData.str)), (pf, Mu.dl (f.map PyData.str))] ∧ ρ = [some (Mo.adr p), some (Mo.d (strL ss)), some (Mo.adr pl), some (Mo.adr pf)]) ss.length ⟨ss, [], s0, rfl, List.Perm.refl _, rfl, rfl⟩ ?_
  rintro m ρ1 M1 ⟨l, f, s1, rfl, hp, rfl, rfl⟩ A hA
  have hln := hp.length_eq
  rw [List.length_append] at hln
  refine et_test (ev_op (ev_var rfl (ev_lst (ea_nil ⟨[], rfl, by simp, ov_neM (n := 1) rfl (shp_strs fun x hx => h2 x (hp.mem_iff.mp (List.mem_append_right _ hx))) shp_nil ⟨_, rfl, ?_⟩⟩))))
  rw [eqv_empty]
  cases l with
  | nil =>
    refine iteF ?_
    refine go_freeze (i := 3) (j := 2) rfl rfl ?_
    refine go_ret (ev_var rfl (kQ _ _ [(pl, Mu.dl [])] ⟨_, s1, ⟨f, ?_, rfl⟩, rfl, rfl⟩))
    rw [List.append_nil] at hp
    exact hp
  | cons x r =>
    refine iteT fun B N hB hN => ?_
    refine go_drop (ev_append (ev_var rfl ⟨pf, rfl, ⟨2, _, rfl⟩, ?_⟩))
    refine ea_cons (ev_popAt (ev_var rfl ⟨pl, rfl, ⟨1, _, rfl⟩, ?_⟩))
    refine ea_cons (ev_src (ea_cons (ev_var rfl (ea_cons (ev_cb (ea_cons (ev_var rfl (ea_nil (cv_lenM (n := 1) rfl (ea_nil ⟨_, p, s1, 0, rfl, rfl, ⟨?_, ?_⟩, ?_⟩))))))))))
    · rw [List.length_map]; exact Nat.succ_pos _
    · rw [List.length_map]
      exact Nat.le_trans (by omega) (by decide : 1000 ≤ 60 ^ 30)
    rintro d s' ⟨i, hi, rfl⟩
    rw [List.length_map] at hi
    have hi' : ((x :: r).map PyData.str)[i]? = some (.str (x :: r)[i]) := by rw [List.getElem?_map, List.getElem?_eq_getElem hi] <;> rfl
    refine ea_nil ⟨i, 1, _, _, rfl, rfl, hi', by omega, ea_nil ⟨_, 2, _, rfl, rfl, ?_, ?_⟩⟩
    · rw [List.length_map]
      exact sz_lt (by omega)
    · refine hN ((x :: r).eraseIdx i).length _ _ ?_ ⟨(x :: r).eraseIdx i, f ++ [(x :: r)[i]], s', rfl, ?_, ?_, rfl⟩
      · rw [List.length_eraseIdx_of_lt hi]
        exact Nat.sub_lt (Nat.succ_pos _) (by omega)
      · rw [List.append_assoc]
        refine (List.Perm.append_left f ?_).trans hp
        exact perm_at (List.getElem?_eq_getElem hi)
      · show [srcE p s', (pl, Mu.dl (((x :: r).map PyData.str).eraseIdx i)), (pf, Mu.dl (_ ++ [_]))] = _
        rw [List.map_append, map_erase] <;> rfl
/-! ### unlike, words, a leaf -/
abbrev spUnlikeS (T : Tb) : Sp := SpP T (List Str) (fun ss => [Mo.d (strL ss)]) (fun ss => ss.length ≤ 1000) (fun ss => Mo.d (strL (uq ss)))
-- slots of _law_unlike: 0 _law_things, 1 _law_found, 2 _law_thing
theorem sc__law_unlike : FnScope ["_law_things", "_law_found", "_law_thing"] ["_law_things"] (defScope s__law_unlike) := ⟨rfl, rfl, rfl, by decide +kernel, rfl, by decide +kernel, by decide +kernel⟩
theorem ok_unlikeS (c : Fc K mg) : Cal P w K mg base 1 "_law_unlike" ["_law_things"] (spUnlikeS T) := by
  obtain ⟨fd, F⟩ := c.f__law_unlike
  refine fn_mk F c.g__law_unlike (fn_okP F sc__law_unlike (fun _ => rfl) (by decide) fun ss hs cdv Ar outer s Hs Ex hr => ⟨_, (pss_cons (ps_set (i := 1) sc__law_unlike.nd rfl (Or.inl rfl) (pe_lst pa_nil))
      (pss_cons (ps_for PassesOwn.never rfl (pi_listB (K0 := K) (pv 0)) (tn 2 sc__law_unlike.nd) (pss_one (ps_if (pt_cmpR (op_notIn_seqB (K0 := K)) (pv 2) (pv 1) rfl) (pss_one (ps_expr (pe_bm PySem.F.plainAttrs_list PySem.F.slot_list_append PySem.F.type_list_append mt_append (pv 1) (pa_cons (pv 2) pa_nil)))) pss_nil)))
      (pss_one (ps_ret (pv 1))))), fun G H A0 Q kQ => ?_⟩) (fun _ _ _ _ _ _ us hl => match us, hl with | [_], _ => rfl)
  have hs : ss.length ≤ 1000 := hs
  walk_at "lv"
  refine ev_lstM (ea_nil ⟨[], rfl, by simp, fun p => ?_⟩)
  walk_at "lv"
  refine go_for (vs := [2]) (ei_list (ev_var rfl ⟨_, rfl, ?_⟩))
  refine loopA PyData.str ss (fun k ρ M => M = [(p, Mu.dl ((uq (ss.take k)).map PyData.str))] ∧ ∃ x2, ρ = [some (Mo.d (strL ss)), some (Mo.adr p), x2]) ⟨rfl, _, rfl⟩ ?_ ?_
  · rintro k x ρ1 M1 hk ⟨rfl, x2, rfl⟩
    refine ⟨_, tgt_name (by simp), fun A N hA hN => ?_⟩
    have hk2 := (List.getElem?_eq_some_iff.mp hk).1
    have hl := uq_len (ss.take k)
    rw [List.length_take] at hl
    refine go_if (et_test (ev_op (ev_var rfl (ev_var rfl (ov_inSM (n := 0) rfl ⟨_, rfl, ?_⟩)))))
    rw [if_pos rfl]
    have e : uq (ss.take (k + 1)) = if x ∈ uq (ss.take k) then uq (ss.take k) else uq (ss.take k) ++ [x] := by rw [take_succ' hk, uq_snoc]
    by_cases h : x ∈ uq (ss.take k)
    · refine iteN (by rw [decide_eq_true h] <;> rfl) ?_
      refine hN _ _ ⟨?_, _, rfl⟩
      rw [e, if_pos h]
    · refine iteP (by rw [decide_eq_false h] <;> rfl) ?_
      refine go_drop (ev_append (ev_var rfl ⟨p, rfl, ⟨0, _, rfl⟩, ea_cons (ev_var rfl (ea_nil ⟨.str x, 0, _, rfl, rfl, ?_, ?_⟩))⟩))
      · rw [List.length_map]
        exact sz_lt (by omega)
      · refine hN _ _ ⟨?_, _, rfl⟩
        rw [e, if_neg h, List.map_append] <;> rfl
  · rintro ρ1 M1 ⟨rfl, x2, rfl⟩
    rw [List.take_length]
    refine go_freeze (i := 1) (j := 0) rfl rfl ?_
    exact go_ret (ev_var rfl (kQ _))
abbrev spUnlikeI (T : Tb) : Sp := SpP T (List Nat) (fun ss => [Mo.d (.list (natL ss))]) (fun ss => ss.length ≤ 1000) (fun ss => Mo.d (.list (natL (uq ss))))
theorem ov_inNM {T : Tb} {M : Mus} {Kk : Ks} {K0 : PySem.W.Frag} {p : Addr} {n : Nat} {b : Bool} {x : Nat} {ss : List Nat} (hj : M[n]? = some (p, Mu.dl (natL ss))) (k : Kk (Mo.d (.bool (if b = true then !decide (x ∈ ss) else decide (x ∈ ss)))) M) : OpV T (rIn K0 b) (Mo.d (.int (x : Int))) (Mo.adr p) M Kk := by
  have e : natL ss = (ss.map fun (n : Nat) => (n : Int)).map PyData.int := by unfold natL; rw [List.map_map] <;> rfl
  rw [e] at hj
  refine ov_inIM hj ?_
  have h2 : ((x : Int) ∈ ss.map fun (n : Nat) => (n : Int)) ↔ x ∈ ss := by
    rw [List.mem_map]
    exact ⟨fun ⟨y, h1, h2⟩ => by rw [← Int.ofNat.inj h2]; exact h1, fun h => ⟨x, h, rfl⟩⟩
  rw [decide_eq_decide.mpr h2]
  exact k
theorem ok_unlikeI (c : Fc K mg) : Cal P w K mg base 1 "_law_unlike" ["_law_things"] (spUnlikeI T) := by
  obtain ⟨fd, F⟩ := c.f__law_unlike
  refine fn_mk F c.g__law_unlike (fn_okP F sc__law_unlike (fun _ => rfl) (by decide) fun ss hs cdv Ar outer s Hs Ex hr => ⟨_, (pss_cons (ps_set (i := 1) sc__law_unlike.nd rfl (Or.inl rfl) (pe_lst pa_nil))
      (pss_cons (ps_for PassesOwn.never rfl (pi_listB (K0 := K) (pv 0)) (tn 2 sc__law_unlike.nd) (pss_one (ps_if (pt_cmpR (op_notIn_seqB (K0 := K)) (pv 2) (pv 1) rfl) (pss_one (ps_expr (pe_bm PySem.F.plainAttrs_list PySem.F.slot_list_append PySem.F.type_list_append mt_append (pv 1) (pa_cons (pv 2) pa_nil)))) pss_nil)))
      (pss_one (ps_ret (pv 1))))), fun G H A0 Q kQ => ?_⟩) (fun _ _ _ _ _ _ us hl => match us, hl with | [_], _ => rfl)
  have hs : ss.length ≤ 1000 := hs
  walk_at "lv"
  refine ev_lstM (ea_nil ⟨[], rfl, by simp, fun p => ?_⟩)
  walk_at "lv"
  refine go_for (vs := [2]) (ei_list (ev_var rfl ⟨_, rfl, ?_⟩))
  refine loopA (fun (n : Nat) => PyData.int (n : Int)) ss (fun k ρ M => M = [(p, Mu.dl (natL (uq (ss.take k))))] ∧ ∃ x2, ρ = [some (Mo.d (.list (natL ss))), some (Mo.adr p), x2]) ⟨rfl, _, rfl⟩ ?_ ?_
  · rintro k x ρ1 M1 hk ⟨rfl, x2, rfl⟩
    refine ⟨_, tgt_name (by simp), fun A N hA hN => ?_⟩
    have hk2 := (List.getElem?_eq_some_iff.mp hk).1
    have hl := uq_len (ss.take k)
    rw [List.length_take] at hl
    refine go_if (et_test (ev_op (ev_var rfl (ev_var rfl (ov_inNM (n := 0) rfl ⟨_, rfl, ?_⟩)))))
    rw [if_pos rfl]
    have e : uq (ss.take (k + 1)) = if x ∈ uq (ss.take k) then uq (ss.take k) else uq (ss.take k) ++ [x] := by rw [take_succ' hk, uq_snoc]
    by_cases h : x ∈ uq (ss.take k)
    · refine iteN (by rw [decide_eq_true h] <;> rfl) ?_
      refine hN _ _ ⟨?_, _, rfl⟩
      rw [e, if_pos h]
    · refine iteP (by rw [decide_eq_false h] <;> rfl) ?_
      refine go_drop (ev_append (ev_var rfl ⟨p, rfl, ⟨0, _, rfl⟩, ea_cons (ev_var rfl (ea_nil ⟨.int (x : Int), 0, _, rfl, rfl, ?_, ?_⟩))⟩))
      · rw [natL_len]
        exact sz_lt (by omega)
      · refine hN _ _ ⟨?_, _, rfl⟩
        rw [e, if_neg h, ← natL_snoc] <;> rfl
  · rintro ρ1 M1 ⟨rfl, x2, rfl⟩
    rw [List.take_length]
    refine go_freeze (i := 1) (j := 0) rfl rfl ?_
    exact go_ret (ev_var rfl (kQ _))
/-- the drawn names of a tree: few, good ones -/
def GoodW (ws : List Str) : Prop := 0 < ws.length ∧ ws.length ≤ 6 ∧ ∀ x ∈ ws, nmB x = true
abbrev spWords (T : Tb) : Sp := SpS T Unit (fun _ => []) (fun _ => True) (fun _ d => ∃ ws, GoodW ws ∧ d = strL ws)
-- slots of _law_words: 0 _law_source, 1 _law_some
theorem sc__law_words : FnScope ["_law_source", "_law_some"] ["_law_source"] (defScope s__law_words) := ⟨rfl, rfl, rfl, by decide +kernel, rfl, by decide +kernel, by decide +kernel⟩
def wordsL : List (List Str) := [["x", "y"], ["x", "y", "z", "a"], ["a", "b", "c", "d", "e", "f"], ["x", "abcdefgh", "aa", "b", "zz"]]
theorem wordsL_ok : ∀ ws ∈ wordsL, GoodW ws := by
  have h : (wordsL.all fun ws => decide (0 < ws.length) && (decide (ws.length ≤ 6) && ws.all fun x => nmB x)) = true := by decide +kernel
  intro ws hw
  have h1 := List.all_eq_true.mp h ws hw
  rw [Bool.and_eq_true, Bool.and_eq_true, decide_eq_true_eq, decide_eq_true_eq, List.all_eq_true] at h1
  exact h1
theorem ok_words (c : Fc K mg) : Cal P w K mg base 3 "_law_words" ["_law_source"] (spWords T) := by
  have C__law_one : Cal P w K mg base 2 "_law_one" ["_law_source", "_law_things"] (spOne T) := ok_one c
  obtain ⟨fd, F⟩ := c.f__law_words
  refine fn_mk F c.g__law_words (fn_ok F sc__law_words (fun _ => rfl) (by decide) fun a ha cdv Ar outer s Hs Ex hr => ⟨_, (pss_cons (ps_set (i := 1) sc__law_words.nd rfl (Or.inl rfl) (pe_lst (pa_cons (pe_lst (pa_cons pe_str (pa_cons pe_str pa_nil))) (pa_cons (pe_lst (pa_cons pe_str (pa_cons pe_str (pa_cons pe_str (pa_cons pe_str pa_nil))))) (pa_cons (pe_lst (pa_cons pe_str (pa_cons pe_str (pa_cons pe_str (pa_cons pe_str (pa_cons pe_str (pa_cons pe_str pa_nil))))))) (pa_cons (pe_lst (pa_cons pe_str (pa_cons pe_str (pa_cons pe_str (pa_cons pe_str (pa_cons pe_str pa_nil)))))) pa_nil))))))
      (pss_one (ps_ret (pe_fn C__law_one (hr.mono (by omega)) (pa_cons (pv 0) (pa_cons (pv 1) pa_nil)))))), fun G H A0 Q kQ => ?_⟩) (fun _ _ _ _ _ _ us hl => match us, hl with | [_], _ => rfl)
  obtain ⟨p, s0, u⟩ := a
  walk_at "lv"
  have hs4 : ∀ n, n ≤ 10 → n ≤ sizeLine := fun n h => sz_small (by omega)
  refine ev_lst (ea_cons (ev_lst (ea_cons (ev_str (ea_cons (ev_str (ea_nil ⟨[.str "x", .str "y"], rfl, hs4 _ (by show 2 ≤ 10; omega), ?_⟩)))))))
  refine ea_cons (ev_lst (ea_cons (ev_str (ea_cons (ev_str (ea_cons (ev_str (ea_cons (ev_str (ea_nil ⟨[.str "x", .str "y", .str "z", .str "a"], rfl, hs4 _ (by show 4 ≤ 10; omega), ?_⟩))))))))))
  refine ea_cons (ev_lst (ea_cons (ev_str (ea_cons (ev_str (ea_cons (ev_str (ea_cons (ev_str (ea_cons (ev_str (ea_cons (ev_str (ea_nil ⟨[.str "a", .str "b", .str "c", .str "d", .str "e", .str "f"], rfl, hs4 _ (by show 6 ≤ 10; omega), ?_⟩))))))))))))))
  refine ea_cons (ev_lst (ea_cons (ev_str (ea_cons (ev_str (ea_cons (ev_str (ea_cons (ev_str (ea_cons (ev_str (ea_nil ⟨[.str "x", .str "abcdefgh", .str "aa", .str "b", .str "zz"], rfl, hs4 _ (by show 5 ≤ 10; omega), ?_⟩))))))))))))
  refine ea_nil ⟨wordsL.map strL, rfl, hs4 _ (by show 4 ≤ 10; omega), ?_⟩
  walk_at "lv"
  refine ev_src (ea_cons (ev_var rfl (ea_cons (ev_var rfl (ea_nil ⟨wordsL.map strL, p, s0, 0, rfl, rfl, ⟨by show 0 < 4; omega, by show 4 ≤ 60 ^ 30; decide⟩, ?_⟩)))))
  rintro d s' hd
  obtain ⟨ws, hw, rfl⟩ := List.mem_map.mp hd
  exact kQ _ _ [] ⟨_, s', ⟨ws, wordsL_ok ws hw, rfl⟩, rfl, rfl⟩
abbrev spLeaf (T : Tb) : Sp := SpS T (List Str) (fun ws => [Mo.d (strL ws)]) GoodW (fun ws d => ∃ x ∈ ws, d = (Tr.use x).en)
-- slots of _law_leaf: 0 _law_source, 1 _law_words_here
theorem sc__law_leaf : FnScope ["_law_source", "_law_words_here"] ["_law_source", "_law_words_here"] (defScope s__law_leaf) := ⟨rfl, rfl, rfl, by decide +kernel, rfl, by decide +kernel, by decide +kernel⟩
theorem ok_leaf (c : Fc K mg) : Cal P w K mg base 3 "_law_leaf" ["_law_source", "_law_words_here"] (spLeaf T) := by
  have C__law_one : Cal P w K mg base 2 "_law_one" ["_law_source", "_law_things"] (spOne T) := ok_one c
  obtain ⟨fd, F⟩ := c.f__law_leaf
  refine fn_mk F c.g__law_leaf (fn_ok F sc__law_leaf (fun _ => rfl) (by decide) fun a ha cdv Ar outer s Hs Ex hr => ⟨_, (pss_one (ps_ret (pe_tup (pa_cons pe_str (pa_cons (pe_fn C__law_one (hr.mono (by omega)) (pa_cons (pv 0) (pa_cons (pv 1) pa_nil))) pa_nil))))), fun G H A0 Q kQ => ?_⟩) (fun _ _ _ _ _ _ us hl => match us, hl with | [_, _], _ => rfl)
  obtain ⟨p, s0, ws⟩ := a
  obtain ⟨h1, h2, h3⟩ : GoodW ws := ha
  refine go_ret (ev_tup (ea_cons (ev_str (ea_cons (ev_src (ea_cons (ev_var rfl (ea_cons (ev_var rfl (ea_nil ⟨ws.map PyData.str, p, s0, 0, rfl, rfl, ⟨by rw [List.length_map]; exact h1, by rw [List.length_map]; exact Nat.le_trans h2 (by decide)⟩, ?_⟩))))))))))
  rintro d s' hd
  obtain ⟨x, hx, rfl⟩ := List.mem_map.mp hd
  refine ea_nil ⟨[.str "use", .str x], rfl, sz_small (by show 2 ≤ 1000000; omega), kQ _ _ [] ⟨_, s', ⟨x, hx, rfl⟩, ?_, rfl⟩⟩
  rw [en_use]
end Lv
/-! #### Or -/
namespace Lv
open PySem L2 StX PyProof.Rows
local macro_rules | `(tactic| walk_at "lv1") => `(tactic| first
  | with_reducible refine go_seq ?_
  | with_reducible refine go_set ?_
  | with_reducible refine go_ret ?_
  | with_reducible refine go_drop ?_
  | with_reducible refine go_if ?_
  | with_reducible refine ev_op ?_
  | with_reducible refine ev_cb ?_
  | with_reducible refine ea_cons ?_
  | with_reducible refine ea_nil ?_
  | refine ev_var rfl ?_
  | with_reducible refine ev_int ?_
  | with_reducible refine ev_str ?_
  | with_reducible refine ev_bl ?_
  | with_reducible refine ev_ty ?_
  | with_reducible refine ev_non ?_
  | with_reducible refine ev_cls ?_
  | with_reducible refine ev_un ?_
  | with_reducible refine ev_fld ?_
  | with_reducible refine ev_andV ?_
  | with_reducible refine ev_notV ?_
  | with_reducible refine ev_ifE ?_
  | with_reducible refine ev_chain ?_
  | with_reducible refine et_test ?_
  | with_reducible refine et_B ?_
  | with_reducible refine et_and ?_
  | with_reducible refine et_or ?_
  | with_reducible refine et_not ?_
  | with_reducible refine et_yes ?_
  | with_reducible refine ov_add ?_
  | with_reducible refine ov_sub ?_
  | with_reducible refine ov_lt ?_
  | with_reducible refine ov_le ?_
  | with_reducible refine ov_gt ?_
  | with_reducible refine ov_ge ?_
  | with_reducible refine ov_neg ?_
  | with_reducible refine ov_eqI ?_
  | with_reducible refine ov_neI ?_
  | with_reducible refine ov_eqS ?_
  | with_reducible refine ov_inSg ?_
  | with_reducible refine ov_inS ?_
  | with_reducible refine ov_inI ?_
  | with_reducible refine cv_lenL ?_
  | with_reducible refine cv_lenT ?_
  | with_reducible refine cv_max2 ?_
  | with_reducible refine cv_min2 ?_
  | with_reducible refine cv_intI ?_
  | with_reducible refine cv_intB ?_
  | with_reducible refine cv_tuple ?_
  | with_reducible refine cv_list (.inl rfl) ?_
  | with_reducible refine cv_list (.inr rfl) ?_
  | refine ov_ixT (n := 0) rfl ?_
  | refine ov_ixT (n := 1) rfl ?_
  | refine ov_ixT (n := 2) rfl ?_
  | refine ov_ixT (n := 3) rfl ?_
  | refine ov_ixL (n := 0) rfl ?_
  | refine ov_ixL (n := 1) rfl ?_
  | refine ov_ixL (n := 2) rfl ?_
  | refine iteT ?_
  | refine iteF ?_
  | with_reducible refine iteN (b := !true) rfl ?_
  | with_reducible refine iteP (b := !false) rfl ?_
  | with_reducible refine go_next ?_
  | refine ⟨_, rfl, ?_⟩)
local macro_rules | `(tactic| walk_at "lv") => `(tactic| repeat walk_at "lv1")
variable {P : Program} {w : World} {K : PySem.W.Frag} {mg : Str → Option Value} {base : Heap} {T : Tb}
/-! ### the two lambdas -/
/-- a def that makes a lambda: its code object is known -/
theorem fn_okC {x qual : Str} {pa : Arguments} {bd : List Stmt} {sc : Scope} {kws : List (Str × V)} {f : Addr} {fd : FuncData} {N ps : List Str} {k : Nat} {A : Type} {args : A → List Mo} {pre : A → Prop} {res : A → Mo}
    (F : FunD K x qual pa bd sc [] kws f fd) (S : FnScope N ps sc) (hl : ∀ a, (args a).length = ps.length) (hN : ps.length ≤ N.length)
    (body : ∀ (a : A), pre a → ∀ (c : Addr), (∀ p : He.Defn, He.fAd K p = f → He.codeOf K p = c) → ∀ (A' : Around) (outer : List Env) (s : Shared) (H : Hp) (E : XK), Room k (A'.deeper (PyProof.Rows.envOfC qual sc s.heap.objs.size f (.ref c))) →
      ∃ t, PSs (cxOf CX0 P w K mg base N qual sc f (.ref c) A' outer s H E).nox bd t ∧ ∀ (G H A0 : Hp) (Q : VK), (∀ M, GoR ⟨T, [], G, H, A0⟩ Q (res a) M) →
        Go ⟨T, [], G, H, A0⟩ (t { nx := fun _ H' => Q .non H', rt := Q }) ((args a).map some ++ List.replicate (N.length - (args a).length) none) []) :
    FnOk P w K mg base CX0 (k + 1) f fd ps (SpP T A args pre res) := by
  obtain ⟨oc, od, dV, kV, doc, pm, an, cdv, ct, osl, rfl, lk, hcd, _, _⟩ := F.ex
  obtain ⟨c, rfl⟩ := He.codeIn_ref hcd
  have hc : ∀ p : He.Defn, He.fAd K p = f → He.codeOf K p = c := fun p e => He.codeOf_eq (by rw [e]; exact lk) rfl
  refine fn_of lk hcd S (fun vs H Q E h => ?_) (fun A' outer s H vs Q E hr h => ?_)
  · obtain ⟨a, G, _, h1, _⟩ := h
    rw [h1.length, hl]
  · obtain ⟨a, G, hp, h1, h2, q⟩ := h
    obtain ⟨t, ht, hb⟩ := body a hp c hc A' outer s H E hr
    refine ⟨t, ht.nox, ?_⟩
    have hb' : Body T N.length args (fun _ => []) (fun a φ M' => φ = res a ∧ M' = []) a t := fun G H A0 Q hq => hb G H A0 Q fun M => hq _ [] M ⟨rfl, rfl⟩
    refine hb' G H G Q (fun φ M' R hres v G' H' hv z => ?_) (L2.start N vs) G H (moall_start N h1 (by rw [hl]; exact hN)) ⟨h2, Nx.refl _ _ _, fun x hx => .inl hx, Same.refl _⟩
    exact q v φ M' G' H' hres hv ⟨z.nx, z.st.left, fun e he => z.nw e.1 (List.mem_map_of_mem (List.mem_append_left _ he))⟩
abbrev dOr : He.Defn := ("ordered", none)
abbrev dLo : He.Defn := ("_law_in_order", none)
abbrev qLam (x : Str) : Str := x ++ ".<locals>." ++ "<lambda>"
/-- the tables of code that the two lambdas are laid in -/
abbrev TT (K : PySem.W.Frag) : Tb := [((He.cT K dOr).2, qLam "ordered"), ((He.cT K dLo).2, qLam "_law_in_order")]
structure Tbl (K : PySem.W.Frag) (mg : Str → Option Value) (base : Heap) : Prop where
  o : LamX.TabB base mg (He.cT K dOr).1 (He.cT K dOr).2
  l : LamX.TabB base mg (He.cT K dLo).1 (He.cT K dLo).2
  ne : (He.cT K dOr).2 ≠ (He.cT K dLo).2
theorem names_short {ss : List Str} (h : ∀ x ∈ ss, nmB x = true) : ∀ x ∈ uq ss, x.length ≤ 1000 := fun x hx => by
  have h1 := h x ((mem_uq _ _).mp hx)
  unfold nmB at h1
  have h2 := of_decide_eq_true (Bool.and_eq_true_iff.mp h1).1
  omega
-- slots of ordered: 0 names
theorem sc_ordered : FnScope ["names"] ["names"] (defScope s_ordered) := ⟨rfl, rfl, rfl, by decide +kernel, rfl, by decide +kernel, by decide +kernel⟩
theorem ok_ordered (c : Fc K mg) (tb : Tbl K mg base) : Cal P w K mg base 5 "ordered" ["names"] (spOrdered (TT K)) := by
  have C_each_once : Cal P w K mg base 1 "each_once" ["some"] (spEachOnce (TT K)) := ok_each_once c
  obtain ⟨fd, F⟩ := c.f_ordered
  refine fn_mk F c.g_ordered (fn_okC F sc_ordered (fun _ => rfl) (by decide) fun ss hss cd hcd Ar outer s Hs Ex hr => ?_) (fun _ _ _ _ _ _ us hl => match us, hl with | [_], _ => rfl)
  have hc : He.codeOf K dOr = cd := hcd dOr rfl
  have TB : LamX.TabB base mg cd (He.cT K dOr).2 := by
    have := tb.o
    rw [show (He.cT K dOr).1 = cd from hc] at this
    exact this
  refine ⟨_, pss_one (ps_ret (pe_sortKey (T := TT K) TB rfl List.mem_cons_self (fun q hq e => ?_) hr c.b_sorted c.b_len (pe_fn C_each_once (hr.mono (by omega)) (pa_cons (pv 0) pa_nil)))), fun G H A0 Q kQ => ?_⟩
  · rcases List.mem_cons.mp hq with h | h
    · rw [h] <;> rfl
    · rw [List.mem_singleton.mp h] at e
      exact absurd e.symm tb.ne
  · obtain ⟨h1, h2⟩ : ss.length ≤ 1000 ∧ ∀ x ∈ ss, nmB x = true := hss
    refine go_ret (ev_sortKey (ev_callP (ea_cons (ev_var rfl (ea_nil ⟨ss, rfl, h1, uq ss, rfl, ?_, names_short h2, kQ _⟩)))))
    have := uq_len ss
    omega
-- slots of _law_in_order: 0 _law_some
theorem sc__law_in_order : FnScope ["_law_some"] ["_law_some"] (defScope s__law_in_order) := ⟨rfl, rfl, rfl, by decide +kernel, rfl, by decide +kernel, by decide +kernel⟩
theorem ok_law_in_order (c : Fc K mg) (tb : Tbl K mg base) : Cal P w K mg base 5 "_law_in_order" ["_law_some"] (spOrdered (TT K)) := by
  have C__law_unlike : Cal P w K mg base 1 "_law_unlike" ["_law_things"] (spUnlikeS (TT K)) := ok_unlikeS c
  obtain ⟨fd, F⟩ := c.f__law_in_order
  refine fn_mk F c.g__law_in_order (fn_okC F sc__law_in_order (fun _ => rfl) (by decide) fun ss hss cd hcd Ar outer s Hs Ex hr => ?_) (fun _ _ _ _ _ _ us hl => match us, hl with | [_], _ => rfl)
  have hc : He.codeOf K dLo = cd := hcd dLo rfl
  have TB : LamX.TabB base mg cd (He.cT K dLo).2 := by
    have := tb.l
    rw [show (He.cT K dLo).1 = cd from hc] at this
    exact this
  refine ⟨_, pss_one (ps_ret (pe_sortKey (T := TT K) TB rfl (List.mem_cons_of_mem _ List.mem_cons_self) (fun q hq e => ?_) hr c.b_sorted c.b_len (pe_fn C__law_unlike (hr.mono (by omega)) (pa_cons (pv 0) pa_nil)))), fun G H A0 Q kQ => ?_⟩
  · rcases List.mem_cons.mp hq with h | h
    · rw [h] at e
      exact absurd e tb.ne
    · rw [List.mem_singleton.mp h] <;> rfl
  · obtain ⟨h1, h2⟩ : ss.length ≤ 1000 ∧ ∀ x ∈ ss, nmB x = true := hss
    refine go_ret (ev_sortKey (ev_callP (ea_cons (ev_var rfl (ea_nil ⟨ss, rfl, h1, uq ss, rfl, ?_, names_short h2, kQ _⟩)))))
    have := uq_len ss
    omega
end Lv
/-! #### L2 -/
namespace Lv
open PySem L2 StX PyProof.Rows
local macro_rules | `(tactic| walk_at "lv1") => `(tactic| first
  | with_reducible refine go_seq ?_
  | with_reducible refine go_set ?_
  | with_reducible refine go_ret ?_
  | with_reducible refine go_drop ?_
  | with_reducible refine go_if ?_
  | with_reducible refine ev_op ?_
  | with_reducible refine ev_cb ?_
  | with_reducible refine ea_cons ?_
  | with_reducible refine ea_nil ?_
  | refine ev_var rfl ?_
  | with_reducible refine ev_int ?_
  | with_reducible refine ev_str ?_
  | with_reducible refine ev_bl ?_
  | with_reducible refine ev_ty ?_
  | with_reducible refine ev_non ?_
  | with_reducible refine ev_cls ?_
  | with_reducible refine ev_un ?_
  | with_reducible refine ev_fld ?_
  | with_reducible refine ev_andV ?_
  | with_reducible refine ev_notV ?_
  | with_reducible refine ev_ifE ?_
  | with_reducible refine ev_chain ?_
  | with_reducible refine et_test ?_
  | with_reducible refine et_B ?_
  | with_reducible refine et_and ?_
  | with_reducible refine et_or ?_
  | with_reducible refine et_not ?_
  | with_reducible refine et_yes ?_
  | with_reducible refine ov_add ?_
  | with_reducible refine ov_sub ?_
  | with_reducible refine ov_lt ?_
  | with_reducible refine ov_le ?_
  | with_reducible refine ov_gt ?_
  | with_reducible refine ov_ge ?_
  | with_reducible refine ov_neg ?_
  | with_reducible refine ov_eqI ?_
  | with_reducible refine ov_neI ?_
  | with_reducible refine ov_eqS ?_
  | with_reducible refine ov_inSg ?_
  | with_reducible refine ov_inS ?_
  | with_reducible refine ov_inI ?_
  | with_reducible refine cv_lenL ?_
  | with_reducible refine cv_lenT ?_
  | with_reducible refine cv_max2 ?_
  | with_reducible refine cv_min2 ?_
  | with_reducible refine cv_intI ?_
  | with_reducible refine cv_intB ?_
  | with_reducible refine cv_tuple ?_
  | with_reducible refine cv_list (.inl rfl) ?_
  | with_reducible refine cv_list (.inr rfl) ?_
  | refine ov_ixT (n := 0) rfl ?_
  | refine ov_ixT (n := 1) rfl ?_
  | refine ov_ixT (n := 2) rfl ?_
  | refine ov_ixT (n := 3) rfl ?_
  | refine ov_ixL (n := 0) rfl ?_
  | refine ov_ixL (n := 1) rfl ?_
  | refine ov_ixL (n := 2) rfl ?_
  | refine iteT ?_
  | refine iteF ?_
  | with_reducible refine iteN (b := !true) rfl ?_
  | with_reducible refine iteP (b := !false) rfl ?_
  | with_reducible refine go_next ?_
  | refine ⟨_, rfl, ?_⟩)
local macro_rules | `(tactic| walk_at "lv") => `(tactic| repeat walk_at "lv1")
variable {P : Program} {w : World} {K : PySem.W.Frag} {mg : Str → Option Value} {base : Heap} {T : Tb}
/-! ### drawn trees -/
mutual
def Tr.okW (ws : List Str) : Tr → Prop
  | .use n => n ∈ ws
  | .join l ps => nmB l = true ∧ Tr.okWL ws ps
  | .bind n ah b => n ∈ ws ∧ Tr.okWL ws ah ∧ b.okW ws
def Tr.okWL (ws : List Str) : List Tr → Prop
  | [] => True
  | t :: ts => t.okW ws ∧ Tr.okWL ws ts
end
theorem Tr.okWL_app {ws : List Str} : ∀ {a b : List Tr}, Tr.okWL ws a → Tr.okWL ws b → Tr.okWL ws (a ++ b)
  | [], b, _, h => h
  | t :: a, b, g, h => by
    rw [Tr.okWL] at g
    rw [List.cons_append, Tr.okWL]
    exact ⟨g.1, Tr.okWL_app g.2 h⟩
theorem Tr.okWL_one {ws : List Str} {t : Tr} (h : t.okW ws) : Tr.okWL ws [t] := by rw [Tr.okWL, Tr.okWL]; exact ⟨h, trivial⟩
theorem Tr.mem_okWL {ws : List Str} {t : Tr} : ∀ {ts : List Tr}, t ∈ ts → Tr.okWL ws ts → t.okW ws
  | a :: ts, h, g => by
    rw [Tr.okWL] at g
    rcases List.mem_cons.mp h with h | h
    · rw [h]; exact g.1
    · exact Tr.mem_okWL h g.2
theorem Tr.okWL_of {ws : List Str} : ∀ {ts : List Tr}, (∀ t ∈ ts, t.okW ws) → Tr.okWL ws ts
  | [], _ => by rw [Tr.okWL]; trivial
  | a :: ts, h => by
    rw [Tr.okWL]
    exact ⟨h a (by simp), Tr.okWL_of fun t ht => h t (List.mem_cons_of_mem _ ht)⟩
abbrev roomD (a b : Nat) : PyData := .list [.int (a : Int), .int (b : Int)]
abbrev spGrown (T : Tb) (n : Nat) : Sp := SpS T (List Str × Nat × Nat) (fun a => [Mo.d (strL a.1), Mo.d (roomD a.2.1 a.2.2)]) (fun a => GoodW a.1 ∧ 1 ≤ a.2.1 ∧ a.2.1 ≤ n ∧ n ≤ 30)
  (fun a d => ∃ (t : Tr) (l0 l1 : Nat), d = .list [t.en, roomD l0 l1] ∧ t.okW a.1 ∧ t.size + l0 ≤ a.2.1 ∧ t.nb + l1 ≤ a.2.2)
abbrev spBound (T : Tb) (n : Nat) : Sp := SpS T (List Str × Nat × Nat) (fun a => [Mo.d (strL a.1), Mo.d (roomD a.2.1 a.2.2)]) (fun a => GoodW a.1 ∧ 3 ≤ a.2.1 ∧ a.2.1 ≤ n ∧ n ≤ 30 ∧ 1 ≤ a.2.2)
  (fun a d => ∃ (t : Tr) (l0 l1 : Nat), d = .list [t.en, roomD l0 l1] ∧ t.okW a.1 ∧ t.size + l0 ≤ a.2.1 ∧ t.nb + l1 ≤ a.2.2)
theorem sz10 {n : Nat} (h : n ≤ 10) : n ≤ sizeLine := sz_small (by omega)
/-- what is grown so far -/
def Grown (ws : List Str) (R0 R1 : Nat) (ps : List Tr) (l0 l1 : Nat) : Prop := Tr.okWL ws ps ∧ Tr.sizeL ps + l0 ≤ R0 ∧ Tr.nbL ps + l1 ≤ R1 ∧ (ps = [] → l0 = R0)
theorem grow_loop {Z : Zo} {D : Ends} {n th m R0 R1 : Nat} {p pp : Addr} {ws : List Str} {E : XK} {s0 : Src} {x2 x5 x6 : Option Mo} (hZ : Z.T = T) (hw : GoodW ws) (hn : R0 ≤ n) (hn2 : n ≤ 30)
    (fin : ∀ ps l0 l1 s y5 y6, Grown ws R0 R1 ps l0 l1 → Go Z D.nx [some (Mo.adr p), some (Mo.d (strL ws)), x2, some (Mo.adr pp), some (Mo.d (roomD l0 l1)), y5, y6] [srcE p s, (pp, Mu.dl (ps.map Tr.en))]) :
    LoopD Z [5] (gName 5) (tIfS (tTest (tOp (rI0 fun i j => .bl (decide (j < i))) (tOp (rIx K) (tVar 4) (tC (.int 0))) (tC (.int (th : Int))))) (tSeq (tAsg (tCall (spGrown T n) [] E (tCons (tVar 0) (tCons (tVar 1) (tCons (tVar 4) tNil)))) (gUnl K 2 (gCons (gName 6) (gCons (gName 4) gNil)))) (tDrop (tBM K "list" rAppend (tVar 3) (tCons (tVar 6) tNil)))) tNext) D ((upto m).map Mo.d)
      [some (Mo.adr p), some (Mo.d (strL ws)), x2, some (Mo.adr pp), some (Mo.d (roomD R0 R1)), x5, x6] [srcE p s0, (pp, Mu.dl [])] := by
  subst hZ
  refine ⟨fun k ρ M => ∃ ps l0 l1 s y5 y6, Grown ws R0 R1 ps l0 l1 ∧ ρ = [some (Mo.adr p), some (Mo.d (strL ws)), x2, some (Mo.adr pp), some (Mo.d (roomD l0 l1)), y5, y6] ∧ M = [srcE p s, (pp, Mu.dl (ps.map Tr.en))], ⟨[], R0, R1, s0, x5, x6, ⟨by rw [Tr.okWL]; trivial, by rw [Tr.sizeL]; omega, by rw [Tr.nbL]; omega, fun _ => rfl⟩, rfl, rfl⟩, ?_, ?_⟩
  · rintro k φ ρ1 M1 hk ⟨ps, l0, l1, s, y5, y6, ⟨g1, g2, g3, g4⟩, rfl, rfl⟩
    refine ⟨_, tgt_name (by simp), fun A N hA hN => ?_⟩
    refine go_if (et_test (ev_op (ev_op (ev_var rfl (ev_int (ov_ixL (n := 0) rfl (ev_int (ov_gt ⟨_, rfl, ?_⟩))))))))
    by_cases hl : th < l0
    · refine iteP (decide_eq_true (by omega)) ?_
      refine go_seq (go_asg (vs := [6, 4]) (ev_src (ea_cons (ev_var rfl (ea_cons (ev_var rfl (ea_cons (ev_var rfl (ea_nil ⟨(ws, l0, l1), p, s, 0, rfl, rfl, ⟨hw, ?_, ?_, hn2⟩, ?_⟩)))))))))
      · show 1 ≤ l0
        omega
      · show l0 ≤ n
        omega
      rintro d s' ⟨t, a0, a1, rfl, ht, e1, e2⟩
      have e1 : t.size + a0 ≤ l0 := e1
      have e2 : t.nb + a1 ≤ l1 := e2
      have hp := t.size_pos
      have hpl := Tr.len_sizeL ps
      refine ⟨_, tgt_unl rfl (tgts_cons (tgt_name (by simp)) (tgts_cons (tgt_name (by simp)) tgts_nil)), ?_⟩
      refine go_drop (ev_append (ev_var rfl ⟨pp, rfl, ⟨1, _, rfl⟩, ea_cons (ev_var rfl (ea_nil ⟨t.en, 1, _, rfl, rfl, sz_lt (by rw [List.length_map]; omega), ?_⟩))⟩))
      refine hN _ _ ⟨ps ++ [t], a0, a1, s', _, _, ⟨Tr.okWL_app g1 (Tr.okWL_one ht), ?_, ?_, fun z => by simp at z⟩, rfl, ?_⟩
      · rw [Tr.sizeL_app, Tr.sizeL, Tr.sizeL]; omega
      · rw [Tr.nbL_app, Tr.nbL, Tr.nbL]; omega
      · show [srcE p s', (pp, Mu.dl (_ ++ [_]))] = _
        rw [List.map_append] <;> rfl
    · refine iteN (decide_eq_false (by omega)) ?_
      exact hN _ _ ⟨ps, l0, l1, s, _, _, ⟨g1, g2, g3, g4⟩, rfl, rfl⟩
  · rintro ρ1 M1 ⟨ps, l0, l1, s, y5, y6, g, rfl, rfl⟩
    exact fin ps l0 l1 s y5 y6 g
-- slots of _law_grown: 0 _law_source, 1 _law_words_here, 2 _law_room, 3 _law_parts, 4 _law_left, 5 _law_turn, 6 _law_tree_here
theorem sc__law_grown : FnScope ["_law_source", "_law_words_here", "_law_room", "_law_parts", "_law_left", "_law_turn", "_law_tree_here"] ["_law_source", "_law_words_here", "_law_room"] (defScope s__law_grown) := ⟨rfl, rfl, rfl, by decide +kernel, rfl, by decide +kernel, by decide +kernel⟩
-- slots of _law_bound: 0 _law_source, 1 _law_words_here, 2 _law_room, 3 _law_ahead, 4 _law_left, 5 _law_turn, 6 _law_tree_here
theorem sc__law_bound : FnScope ["_law_source", "_law_words_here", "_law_room", "_law_ahead", "_law_left", "_law_turn", "_law_tree_here"] ["_law_source", "_law_words_here", "_law_room"] (defScope s__law_bound) := ⟨rfl, rfl, rfl, by decide +kernel, rfl, by decide +kernel, by decide +kernel⟩
theorem ok_grown (c : Fc K mg) {n : Nat} (C__law_grown : Cal P w K mg base (2 * n + 5) "_law_grown" ["_law_source", "_law_words_here", "_law_room"] (spGrown T n)) (C__law_bound : Cal P w K mg base (2 * n + 6) "_law_bound" ["_law_source", "_law_words_here", "_law_room"] (spBound T (n + 1))) :
    Cal P w K mg base (2 * (n + 1) + 5) "_law_grown" ["_law_source", "_law_words_here", "_law_room"] (spGrown T (n + 1)) := by
  have C__law_take : Cal P w K mg base 1 "_law_take" ["_law_source", "_law_top"] (spTake T) := ok_take c
  have C__law_one : Cal P w K mg base 2 "_law_one" ["_law_source", "_law_things"] (spOne T) := ok_one c
  have C__law_leaf : Cal P w K mg base 3 "_law_leaf" ["_law_source", "_law_words_here"] (spLeaf T) := ok_leaf c
  obtain ⟨fd, F⟩ := c.f__law_grown
  refine fn_mk F c.g__law_grown (fn_ok F sc__law_grown (fun _ => rfl) (by decide) fun a ha cdv Ar outer s Hs Ex hr => ⟨_, (pss_cons (ps_if (PW.pt (pw_or (pt_cmpR op_lt (pe_ix (ix_seqB (K0 := K)) (pv 2) pe_int (fun _ _ => rfl)) pe_int (nomark _)) (pw_or1 (pt_cmpR op_eq (pe_fn C__law_take (hr.mono (by omega)) (pa_cons (pv 0) (pa_cons pe_int pa_nil))) pe_int (nomark _))))) (pss_one (ps_ret (pe_lst (pa_cons (pe_fn C__law_leaf (hr.mono (by omega)) (pa_cons (pv 0) (pa_cons (pv 1) pa_nil))) (pa_cons (pe_lst (pa_cons (pe_op op_sub (pe_ix (ix_seqB (K0 := K)) (pv 2) pe_int (fun _ _ => rfl)) pe_int) (pa_cons (pe_ix (ix_seqB (K0 := K)) (pv 2) pe_int (fun _ _ => rfl)) pa_nil))) pa_nil))))) pss_nil)
      (pss_cons (ps_if (PW.pt (pw_and (pt_cmpR op_gt (pe_ix (ix_seqB (K0 := K)) (pv 2) pe_int (fun _ _ => rfl)) pe_int (nomark _)) (pw_and1 (pt_cmpR op_gt (pe_fn C__law_take (hr.mono (by omega)) (pa_cons (pv 0) (pa_cons pe_int pa_nil))) pe_int (nomark _))))) (pss_one (ps_ret (pe_fn C__law_bound (hr.mono (by omega)) (pa_cons (pv 0) (pa_cons (pv 1) (pa_cons (pv 2) pa_nil)))))) pss_nil)
      (pss_cons (ps_par (i := 3) (j := 4) (by rfl) sc__law_grown.nd rfl rfl (by decide) rfl rfl (pa_cons (pe_lst pa_nil) (pa_cons (pe_lst (pa_cons (pe_op op_sub (pe_ix (ix_seqB (K0 := K)) (pv 2) pe_int (fun _ _ => rfl)) pe_int) (pa_cons (pe_ix (ix_seqB (K0 := K)) (pv 2) pe_int (fun _ _ => rfl)) pa_nil))) pa_nil)) (by rfl))
      (pss_cons (ps_for PassesOwn.never rfl (pi_range1 rfl c.b_range (pa_cons (pe_fn C__law_one (hr.mono (by omega)) (pa_cons (pv 0) (pa_cons (pe_lst (pa_cons pe_int (pa_cons pe_int (pa_cons pe_int (pa_cons pe_int (pa_cons pe_int pa_nil)))))) pa_nil))) pa_nil)) (tn 5 sc__law_grown.nd) (pss_one (ps_if (pt_cmpR op_gt (pe_ix (ix_seqB (K0 := K)) (pv 4) pe_int (fun _ _ => rfl)) pe_int (nomark _)) (pss_cons (ps_asg (pe_fn C__law_grown (hr.mono (by omega)) (pa_cons (pv 0) (pa_cons (pv 1) (pa_cons (pv 4) pa_nil)))) (pg_unlB (K0 := K) (n := 2) rfl (pgs_cons (tn 6 sc__law_grown.nd) (pgs_cons (tn 4 sc__law_grown.nd) pgs_nil))))
      (pss_one (ps_expr (pe_bm PySem.F.plainAttrs_list PySem.F.slot_list_append PySem.F.type_list_append mt_append (pv 3) (pa_cons (pv 6) pa_nil))))) pss_nil)))
      (pss_one (ps_ret (pe_lst (pa_cons (pe_tup (pa_cons pe_str (pa_cons (pe_fn C__law_one (hr.mono (by omega)) (pa_cons (pv 0) (pa_cons (pe_lst (pa_cons pe_str (pa_cons pe_str (pa_cons pe_str pa_nil)))) pa_nil))) (pa_cons (pe_callTy (c_tupleB (K0 := K)) rfl c.b_tuple boot_tuple (pa_cons (pv 3) pa_nil)) pa_nil)))) (pa_cons (pv 4) pa_nil))))))))), fun G H A0 Q kQ => ?_⟩) (fun _ _ _ _ _ _ us hl => match us, hl with | [_, _, _], _ => rfl)
  obtain ⟨p, s0, ws, r0, r1⟩ := a
  obtain ⟨h1, h2, h3, h4⟩ : GoodW ws ∧ 1 ≤ r0 ∧ r0 ≤ n + 1 ∧ n + 1 ≤ 30 := ha
  have e0 : ((r0 : Int) - 1) = ((r0 - 1 : Nat) : Int) := by omega
  have leaf : ∀ (s : Src) (D : Ends) (ρ : Rho), D.rt = Q → Go ⟨T, [p], G, H, A0⟩ (tRet (tLst (tCons (tCall (spLeaf T) [] E0 (tCons (tVar 0) (tCons (tVar 1) tNil))) (tCons (tLst (tCons (tOp (rI0 fun i j => .int (i - j)) (tOp (rIx K) (tVar 2) (tC (.int 0))) (tC (.int 1))) (tCons (tOp (rIx K) (tVar 2) (tC (.int 1))) tNil))) tNil))) D) [some (Mo.adr p), some (Mo.d (strL ws)), some (Mo.d (roomD r0 r1)), none, none, none, none] [srcE p s] := by
    intro s D ρ hD
    refine go_ret (ev_lst (ea_cons (ev_src (ea_cons (ev_var rfl (ea_cons (ev_var rfl (ea_nil ⟨ws, p, s, 0, rfl, rfl, h1, ?_⟩))))))))
    rintro d s' ⟨x, hx, rfl⟩
    refine ea_cons (ev_lst (ea_cons (ev_op (ev_op (ev_var rfl (ev_int (ov_ixL (n := 0) rfl (ev_int (ov_sub ?_)))))))))
    rw [e0]
    refine ea_cons (ev_op (ev_var rfl (ev_int (ov_ixL (n := 1) rfl (ea_nil ⟨[.int ((r0 - 1 : Nat) : Int), .int (r1 : Int)], rfl, sz10 (by show 2 ≤ 10; omega), ?_⟩)))))
    refine ea_nil ⟨[(Tr.use x).en, roomD (r0 - 1) r1], rfl, sz10 (by show 2 ≤ 10; omega), ?_⟩
    rw [hD]
    exact kQ _ _ [] ⟨_, s', ⟨.use x, r0 - 1, r1, rfl, by rw [Tr.okW]; exact hx, by show (Tr.use x).size + (r0 - 1) ≤ r0; rw [Tr.size]; omega, by show (Tr.use x).nb + r1 ≤ r1; rw [Tr.nb]; omega⟩, rfl, rfl⟩
  with_reducible refine go_seq ?_
  refine go_join (t := tIfS _ _ _) (fun ρ M => 3 ≤ r0 ∧ (∃ s, M = [srcE p s]) ∧ ρ = [some (Mo.adr p), some (Mo.d (strL ws)), some (Mo.d (roomD r0 r1)), none, none, none, none]) (fun N hN => ?_) ?_
  · refine go_if (et_or (et_test (ev_op (ev_op (ev_var rfl (ev_int (ov_ixL (n := 0) rfl (ev_int (ov_lt ⟨_, rfl, ?_⟩)))))))))
    by_cases hl : r0 < 3
    · refine iteP (decide_eq_true (show (r0 : Int) < 3 by omega)) (iteT (leaf s0 _ [] rfl))
    · refine iteN (decide_eq_false (show ¬ (r0 : Int) < 3 by omega)) ?_
      refine et_test (ev_op (ev_src (ea_cons (ev_var rfl (ea_cons (ev_int (ea_nil ⟨7, p, s0, 0, rfl, rfl, ⟨by omega, by decide⟩, ?_⟩)))))))
      rintro d s' ⟨r, hr, rfl⟩
      refine ev_int (ov_eqI ⟨_, rfl, ?_⟩)
      by_cases hr0 : r = 0
      · exact iteP (decide_eq_true (by omega)) (leaf s' _ [] rfl)
      · exact iteN (decide_eq_false (by omega)) (hN _ _ ⟨by omega, ⟨s', rfl⟩, rfl⟩)
  rintro ρ1 M1 ⟨hr3, ⟨s1, rfl⟩, rfl⟩
  with_reducible refine go_seq ?_
  refine go_join (t := tIfS _ _ _) (fun ρ M => (∃ s, M = [srcE p s]) ∧ ρ = [some (Mo.adr p), some (Mo.d (strL ws)), some (Mo.d (roomD r0 r1)), none, none, none, none]) (fun N hN => ?_) ?_
  · refine go_if (et_and (et_test (ev_op (ev_op (ev_var rfl (ev_int (ov_ixL (n := 1) rfl (ev_int (ov_gt ⟨_, rfl, ?_⟩)))))))))
    by_cases hl : 0 < r1
    · refine iteP (decide_eq_true (show (0 : Int) < (r1 : Int) by omega)) ?_
      refine et_test (ev_op (ev_src (ea_cons (ev_var rfl (ea_cons (ev_int (ea_nil ⟨3, p, s1, 0, rfl, rfl, ⟨by omega, by decide⟩, ?_⟩)))))))
      rintro d s' ⟨r, hr, rfl⟩
      refine ev_int (ov_gt ⟨_, rfl, ?_⟩)
      by_cases hr0 : 0 < r
      · refine iteP (decide_eq_true (by omega)) ?_
        refine go_ret (ev_src (ea_cons (ev_var rfl (ea_cons (ev_var rfl (ea_cons (ev_var rfl (ea_nil ⟨(ws, r0, r1), p, s', 0, rfl, rfl, ⟨h1, hr3, h3, h4, hl⟩, ?_⟩))))))))
        intro d s2 hR
        exact kQ _ _ [] ⟨d, s2, hR, rfl, rfl⟩
      · exact iteN (decide_eq_false (by omega)) (hN _ _ ⟨⟨s', rfl⟩, rfl⟩)
    · exact iteN (decide_eq_false (show ¬ (0 : Int) < (r1 : Int) by omega)) (iteF (hN _ _ ⟨⟨s1, rfl⟩, rfl⟩))
  rintro ρ1 M1 ⟨⟨s2, rfl⟩, rfl⟩
  with_reducible refine go_seq ?_
  refine go_par (ea_cons (ev_lstM (ea_nil ⟨[], rfl, by simp, fun pp => ?_⟩)))
  refine ea_cons (ev_lst (ea_cons (ev_op (ev_op (ev_var rfl (ev_int (ov_ixL (n := 0) rfl (ev_int (ov_sub ?_)))))))))
  rw [e0]
  refine ea_cons (ev_op (ev_var rfl (ev_int (ov_ixL (n := 1) rfl (ea_nil ⟨[.int ((r0 - 1 : Nat) : Int), .int (r1 : Int)], rfl, sz10 (by show 2 ≤ 10; omega), ea_nil ⟨_, _, rfl, ?_⟩⟩)))))
  with_reducible refine go_seq ?_
  refine go_for (vs := [5]) (ei_range (ev_src (ea_cons (ev_var rfl (ea_cons (ev_lst (ea_cons (ev_int (ea_cons (ev_int (ea_cons (ev_int (ea_cons (ev_int (ea_cons (ev_int (ea_nil ⟨[.int 0, .int 1, .int 2, .int 2, .int 3], rfl, sz10 (by show 5 ≤ 10; omega), ea_nil ⟨_, p, s2, 0, rfl, rfl, ⟨by show 0 < 5; omega, by show 5 ≤ 60 ^ 30; decide⟩, ?_⟩⟩)))))))))))))))))
  rintro d s3 hd
  obtain ⟨m, rfl, hm⟩ : ∃ m : Nat, d = .int (m : Int) ∧ m ≤ 3 := by
    simp only [List.mem_cons, List.not_mem_nil, or_false] at hd
    rcases hd with h | h | h | h | h
    · exact ⟨0, h, by omega⟩
    · exact ⟨1, h, by omega⟩
    · exact ⟨2, h, by omega⟩
    · exact ⟨2, h, by omega⟩
    · exact ⟨3, h, by omega⟩
  refine ⟨m, rfl, by omega, ?_⟩
  refine grow_loop (th := 0) (R0 := r0 - 1) (R1 := r1) rfl h1 (by omega) (by omega) ?_
  rintro ps l0 l1 s4 y5 y6 ⟨g1, g2, g3, _⟩
  have hpl := Tr.len_sizeL ps
  with_reducible refine go_ret ?_
  refine ev_lst (ea_cons ?_)
  refine ev_tup (ea_cons (ev_str (ea_cons ?_)))
  refine ev_src (ea_cons (ev_var rfl (ea_cons (ev_lst (ea_cons (ev_str (ea_cons (ev_str (ea_cons (ev_str (ea_nil ⟨[.str "f", .str "x", .str "join"], rfl, sz10 (by show 3 ≤ 10; omega), ea_nil ⟨_, p, s4, 0, rfl, rfl, ⟨by show 0 < 3; omega, by show 3 ≤ 60 ^ 30; decide⟩, ?_⟩⟩)))))))))))
  rintro d s5 hd
  obtain ⟨l, rfl, hl⟩ : ∃ l : Str, d = .str l ∧ nmB l = true := by
    simp only [List.mem_cons, List.not_mem_nil, or_false] at hd
    rcases hd with h | h | h
    · exact ⟨_, h, by decide +kernel⟩
    · exact ⟨_, h, by decide +kernel⟩
    · exact ⟨_, h, by decide +kernel⟩
  refine ea_cons (ev_cb (ea_cons (ev_var rfl (ea_nil (cv_tupleM (n := 1) rfl (ea_nil ⟨[.str "join", .str l, .tuple (ps.map Tr.en)], rfl, sz10 (by show 3 ≤ 10; omega), ?_⟩))))))
  refine ea_cons (ev_var rfl (ea_nil ⟨[(Tr.join l ps).en, roomD l0 l1], ?_, sz10 (by show 2 ≤ 10; omega), ?_⟩))
  · rw [en_join] <;> rfl
  · refine kQ _ _ [(pp, Mu.dl (ps.map Tr.en))] ⟨_, s5, ⟨.join l ps, l0, l1, rfl, ?_, ?_, ?_⟩, rfl, rfl⟩
    · rw [Tr.okW]; exact ⟨hl, g1⟩
    · show (Tr.join l ps).size + l0 ≤ r0
      rw [Tr.size]; omega
    · show (Tr.join l ps).nb + l1 ≤ r1
      rw [Tr.nb]; omega
theorem ok_bound (c : Fc K mg) {n : Nat} (C__law_grown : Cal P w K mg base (2 * n + 5) "_law_grown" ["_law_source", "_law_words_here", "_law_room"] (spGrown T n)) :
    Cal P w K mg base (2 * n + 6) "_law_bound" ["_law_source", "_law_words_here", "_law_room"] (spBound T (n + 1)) := by
  have C__law_one : Cal P w K mg base 2 "_law_one" ["_law_source", "_law_things"] (spOne T) := ok_one c
  obtain ⟨fd, F⟩ := c.f__law_bound
  refine fn_mk F c.g__law_bound (fn_ok F sc__law_bound (fun _ => rfl) (by decide) fun a ha cdv Ar outer s Hs Ex hr => ⟨_, (pss_cons (ps_par (i := 3) (j := 4) (by rfl) sc__law_bound.nd rfl rfl (by decide) rfl rfl (pa_cons (pe_lst pa_nil) (pa_cons (pe_lst (pa_cons (pe_op op_sub (pe_ix (ix_seqB (K0 := K)) (pv 2) pe_int (fun _ _ => rfl)) pe_int) (pa_cons (pe_op op_sub (pe_ix (ix_seqB (K0 := K)) (pv 2) pe_int (fun _ _ => rfl)) pe_int) pa_nil))) pa_nil)) (by rfl))
      (pss_cons (ps_for PassesOwn.never rfl (pi_range1 rfl c.b_range (pa_cons (pe_fn C__law_one (hr.mono (by omega)) (pa_cons (pv 0) (pa_cons (pe_lst (pa_cons pe_int (pa_cons pe_int (pa_cons pe_int (pa_cons pe_int (pa_cons pe_int (pa_cons pe_int pa_nil))))))) pa_nil))) pa_nil)) (tn 5 sc__law_bound.nd) (pss_one (ps_if (pt_cmpR op_gt (pe_ix (ix_seqB (K0 := K)) (pv 4) pe_int (fun _ _ => rfl)) pe_int (nomark _)) (pss_cons (ps_asg (pe_fn C__law_grown (hr.mono (by omega)) (pa_cons (pv 0) (pa_cons (pv 1) (pa_cons (pv 4) pa_nil)))) (pg_unlB (K0 := K) (n := 2) rfl (pgs_cons (tn 6 sc__law_bound.nd) (pgs_cons (tn 4 sc__law_bound.nd) pgs_nil))))
      (pss_one (ps_expr (pe_bm PySem.F.plainAttrs_list PySem.F.slot_list_append PySem.F.type_list_append mt_append (pv 3) (pa_cons (pv 6) pa_nil))))) pss_nil)))
      (pss_cons (ps_if (pt_cmpR op_lt (pe_ix (ix_seqB (K0 := K)) (pv 4) pe_int (fun _ _ => rfl)) pe_int (nomark _)) (pss_one (ps_ret (pe_lst (pa_cons (pe_tup (pa_cons pe_str (pa_cons (pe_fn C__law_one (hr.mono (by omega)) (pa_cons (pv 0) (pa_cons (pv 1) pa_nil))) (pa_cons (pe_tup pa_nil) (pa_cons (pe_ix (ix_seqB (K0 := K)) (pv 3) pe_int (fun _ _ => rfl)) pa_nil))))) (pa_cons (pv 4) pa_nil))))) pss_nil)
      (pss_cons (ps_asg (pe_fn C__law_grown (hr.mono (by omega)) (pa_cons (pv 0) (pa_cons (pv 1) (pa_cons (pv 4) pa_nil)))) (pg_unlB (K0 := K) (n := 2) rfl (pgs_cons (tn 6 sc__law_bound.nd) (pgs_cons (tn 4 sc__law_bound.nd) pgs_nil))))
      (pss_one (ps_ret (pe_lst (pa_cons (pe_tup (pa_cons pe_str (pa_cons (pe_fn C__law_one (hr.mono (by omega)) (pa_cons (pv 0) (pa_cons (pv 1) pa_nil))) (pa_cons (pe_callTy (c_tupleB (K0 := K)) rfl c.b_tuple boot_tuple (pa_cons (pv 3) pa_nil)) (pa_cons (pv 6) pa_nil))))) (pa_cons (pv 4) pa_nil))))))))), fun G H A0 Q kQ => ?_⟩) (fun _ _ _ _ _ _ us hl => match us, hl with | [_, _, _], _ => rfl)
  obtain ⟨p, s0, ws, r0, r1⟩ := a
  obtain ⟨h1, h2, h3, h4, h5⟩ : GoodW ws ∧ 3 ≤ r0 ∧ r0 ≤ n + 1 ∧ n + 1 ≤ 30 ∧ 1 ≤ r1 := ha
  have e0 : ((r0 : Int) - 1) = ((r0 - 1 : Nat) : Int) := by omega
  have e1 : ((r1 : Int) - 1) = ((r1 - 1 : Nat) : Int) := by omega
  have onePre : 0 < (ws.map PyData.str).length ∧ (ws.map PyData.str).length ≤ 60 ^ 30 := by
    rw [List.length_map]
    exact ⟨h1.1, Nat.le_trans h1.2.1 (by decide)⟩
  with_reducible refine go_seq ?_
  refine go_par (ea_cons (ev_lstM (ea_nil ⟨[], rfl, by simp, fun pp => ?_⟩)))
  refine ea_cons (ev_lst (ea_cons (ev_op (ev_op (ev_var rfl (ev_int (ov_ixL (n := 0) rfl (ev_int (ov_sub ?_)))))))))
  refine ea_cons (ev_op (ev_op (ev_var rfl (ev_int (ov_ixL (n := 1) rfl (ev_int (ov_sub ?_)))))))
  rw [e0, e1]
  refine ea_nil ⟨[.int ((r0 - 1 : Nat) : Int), .int ((r1 - 1 : Nat) : Int)], rfl, sz10 (by show 2 ≤ 10; omega), ea_nil ⟨_, _, rfl, ?_⟩⟩
  with_reducible refine go_seq ?_
  refine go_for (vs := [5]) (ei_range (ev_src (ea_cons (ev_var rfl (ea_cons (ev_lst (ea_cons (ev_int (ea_cons (ev_int (ea_cons (ev_int (ea_cons (ev_int (ea_cons (ev_int (ea_cons (ev_int (ea_nil ⟨[.int 0, .int 0, .int 0, .int 1, .int 1, .int 2], rfl, sz10 (by show 6 ≤ 10; omega), ea_nil ⟨_, p, s0, 0, rfl, rfl, ⟨by show 0 < 6; omega, by show 6 ≤ 60 ^ 30; decide⟩, ?_⟩⟩)))))))))))))))))))
  rintro d s3 hd
  obtain ⟨m, rfl, hm⟩ : ∃ m : Nat, d = .int (m : Int) ∧ m ≤ 3 := by
    simp only [List.mem_cons, List.not_mem_nil, or_false] at hd
    rcases hd with h | h | h | h | h | h
    · exact ⟨0, h, by omega⟩
    · exact ⟨0, h, by omega⟩
    · exact ⟨0, h, by omega⟩
    · exact ⟨1, h, by omega⟩
    · exact ⟨1, h, by omega⟩
    · exact ⟨2, h, by omega⟩
  refine ⟨m, rfl, by omega, ?_⟩
  refine grow_loop (th := 3) (R0 := r0 - 1) (R1 := r1 - 1) rfl h1 (by omega) (by omega) ?_
  rintro ps l0 l1 s4 y5 y6 ⟨g1, g2, g3, g4⟩
  have hpl := Tr.len_sizeL ps
  with_reducible refine go_seq ?_
  refine go_if (et_test (ev_op (ev_op (ev_var rfl (ev_int (ov_ixL (n := 0) rfl (ev_int (ov_lt ⟨_, rfl, ?_⟩))))))))
  by_cases hl : l0 < 1
  · refine iteP (decide_eq_true (show (l0 : Int) < 1 by omega)) ?_
    cases ps with
    | nil => have := g4 rfl; omega
    | cons x r =>
      with_reducible refine go_ret ?_
      refine ev_lst (ea_cons ?_)
      refine ev_tup (ea_cons (ev_str (ea_cons ?_)))
      refine ev_src (ea_cons (ev_var rfl (ea_cons (ev_var rfl (ea_nil ⟨_, p, s4, 0, rfl, rfl, onePre, ?_⟩)))))
      rintro d s5 hd
      obtain ⟨nm, hnm, rfl⟩ := List.mem_map.mp hd
      refine ea_cons (ev_tup (ea_nil ⟨[], rfl, by simp, ea_cons (ev_op (ev_var rfl (ev_int (ov_ixM (m := 1) (n := 0) rfl rfl (ea_nil ⟨[.str "bind", .str nm, .tuple ([].map Tr.en), x.en], rfl, sz10 (by show 4 ≤ 10; omega), ?_⟩)))))⟩))
      refine ea_cons (ev_var rfl (ea_nil ⟨[(Tr.bind nm [] x).en, roomD l0 l1], ?_, sz10 (by show 2 ≤ 10; omega), ?_⟩))
      · rw [en_bind] <;> rfl
      · rw [Tr.okWL] at g1
        rw [Tr.sizeL] at g2
        rw [Tr.nbL] at g3
        refine kQ _ _ [(pp, Mu.dl ((x :: r).map Tr.en))] ⟨_, s5, ⟨.bind nm [] x, l0, l1, rfl, ?_, ?_, ?_⟩, rfl, rfl⟩
        · rw [Tr.okW, Tr.okWL]; exact ⟨hnm, trivial, g1.1⟩
        · show (Tr.bind nm [] x).size + l0 ≤ r0
          rw [Tr.size, Tr.sizeL]; omega
        · show (Tr.bind nm [] x).nb + l1 ≤ r1
          rw [Tr.nb, Tr.nbL]; omega
  · refine iteN (decide_eq_false (show ¬ (l0 : Int) < 1 by omega)) ?_
    walk_at "lv"
    refine go_asg (vs := [6, 4]) (ev_src (ea_cons (ev_var rfl (ea_cons (ev_var rfl (ea_cons (ev_var rfl (ea_nil ⟨(ws, l0, l1), p, s4, 0, rfl, rfl, ⟨h1, ?_, ?_, ?_⟩, ?_⟩))))))))
    · show 1 ≤ l0
      omega
    · show l0 ≤ n
      omega
    · show n ≤ 30
      omega
    rintro d s5 ⟨t, a0, a1, rfl, ht, q1, q2⟩
    have q1 : t.size + a0 ≤ l0 := q1
    have q2 : t.nb + a1 ≤ l1 := q2
    refine ⟨_, tgt_unl rfl (tgts_cons (tgt_name (by simp)) (tgts_cons (tgt_name (by simp)) tgts_nil)), ?_⟩
    with_reducible refine go_ret ?_
    refine ev_lst (ea_cons ?_)
    refine ev_tup (ea_cons (ev_str (ea_cons ?_)))
    refine ev_src (ea_cons (ev_var rfl (ea_cons (ev_var rfl (ea_nil ⟨_, p, s5, 0, rfl, rfl, onePre, ?_⟩)))))
    rintro d s6 hd
    obtain ⟨nm, hnm, rfl⟩ := List.mem_map.mp hd
    refine ea_cons (ev_cb (ea_cons (ev_var rfl (ea_nil (cv_tupleM (n := 1) rfl ?_)))))
    refine ea_cons (ev_var rfl (ea_nil ⟨[.str "bind", .str nm, .tuple (ps.map Tr.en), t.en], rfl, sz10 (by show 4 ≤ 10; omega), ?_⟩))
    refine ea_cons (ev_var rfl (ea_nil ⟨[(Tr.bind nm ps t).en, roomD a0 a1], ?_, sz10 (by show 2 ≤ 10; omega), ?_⟩))
    · rw [en_bind] <;> rfl
    · refine kQ _ _ [(pp, Mu.dl (ps.map Tr.en))] ⟨_, s6, ⟨.bind nm ps t, a0, a1, rfl, ?_, ?_, ?_⟩, rfl, rfl⟩
      · rw [Tr.okW]; exact ⟨hnm, g1, ht⟩
      · show (Tr.bind nm ps t).size + a0 ≤ r0
        rw [Tr.size]; omega
      · show (Tr.bind nm ps t).nb + a1 ≤ r1
        rw [Tr.nb]; omega
theorem grown_ok (c : Fc K mg) : ∀ n : Nat, Cal P w K mg base (2 * n + 5) "_law_grown" ["_law_source", "_law_words_here", "_law_room"] (spGrown T n)
  | 0 => by
    obtain ⟨fd, F⟩ := c.f__law_grown
    exact fn_mk F c.g__law_grown (fn_vac fun a h => by obtain ⟨_, h1, h2, _⟩ := h; omega) (fun _ _ _ _ _ _ us hl => match us, hl with | [_, _, _], _ => rfl)
  | n + 1 => ok_grown c (grown_ok c n) (ok_bound c (grown_ok c n))
end Lv
/-! #### L3 -/
namespace Lv
open PySem L2 StX PyProof.Rows
local macro_rules | `(tactic| walk_at "lv1") => `(tactic| first
  | with_reducible refine go_seq ?_
  | with_reducible refine go_set ?_
  | with_reducible refine go_ret ?_
  | with_reducible refine go_drop ?_
  | with_reducible refine go_if ?_
  | with_reducible refine ev_op ?_
  | with_reducible refine ev_cb ?_
  | with_reducible refine ea_cons ?_
  | with_reducible refine ea_nil ?_
  | refine ev_var rfl ?_
  | with_reducible refine ev_int ?_
  | with_reducible refine ev_str ?_
  | with_reducible refine ev_bl ?_
  | with_reducible refine ev_ty ?_
  | with_reducible refine ev_non ?_
  | with_reducible refine ev_cls ?_
  | with_reducible refine ev_un ?_
  | with_reducible refine ev_fld ?_
  | with_reducible refine ev_andV ?_
  | with_reducible refine ev_notV ?_
  | with_reducible refine ev_ifE ?_
  | with_reducible refine ev_chain ?_
  | with_reducible refine et_test ?_
  | with_reducible refine et_B ?_
  | with_reducible refine et_and ?_
  | with_reducible refine et_or ?_
  | with_reducible refine et_not ?_
  | with_reducible refine et_yes ?_
  | with_reducible refine ov_add ?_
  | with_reducible refine ov_sub ?_
  | with_reducible refine ov_lt ?_
  | with_reducible refine ov_le ?_
  | with_reducible refine ov_gt ?_
  | with_reducible refine ov_ge ?_
  | with_reducible refine ov_neg ?_
  | with_reducible refine ov_eqI ?_
  | with_reducible refine ov_neI ?_
  | with_reducible refine ov_eqS ?_
  | with_reducible refine ov_inSg ?_
  | with_reducible refine ov_inS ?_
  | with_reducible refine ov_inI ?_
  | with_reducible refine cv_lenL ?_
  | with_reducible refine cv_lenT ?_
  | with_reducible refine cv_max2 ?_
  | with_reducible refine cv_min2 ?_
  | with_reducible refine cv_intI ?_
  | with_reducible refine cv_intB ?_
  | with_reducible refine cv_tuple ?_
  | with_reducible refine cv_list (.inl rfl) ?_
  | with_reducible refine cv_list (.inr rfl) ?_
  | refine ov_ixT (n := 0) rfl ?_
  | refine ov_ixT (n := 1) rfl ?_
  | refine ov_ixT (n := 2) rfl ?_
  | refine ov_ixT (n := 3) rfl ?_
  | refine ov_ixL (n := 0) rfl ?_
  | refine ov_ixL (n := 1) rfl ?_
  | refine ov_ixL (n := 2) rfl ?_
  | refine iteT ?_
  | refine iteF ?_
  | with_reducible refine iteN (b := !true) rfl ?_
  | with_reducible refine iteP (b := !false) rfl ?_
  | with_reducible refine go_next ?_
  | refine ⟨_, rfl, ?_⟩)
local macro_rules | `(tactic| walk_at "lv") => `(tactic| repeat walk_at "lv1")
variable {P : Program} {w : World} {K : PySem.W.Frag} {mg : Str → Option Value} {base : Heap} {T : Tb}
/-- drawn leaves -/
theorem ev_leaves {ρ : Rho} {M : Mus} {Kk : Ks} {E : XK} {wi : TI} {i : Nat} {vs : List Nat} {p : Addr} {ws : List Str} (hw : GoodW ws) (hi : i ∈ vs) (h0 : ∀ x, ((wipeR ρ vs).set i x)[0]? = some (some (Mo.adr p))) (h1 : ∀ x, ((wipeR ρ vs).set i x)[1]? = some (some (Mo.d (strL ws))))
    (h : EvI T wi ρ M fun φs M1 => ∃ (m : Nat) (s : Src), φs = (upto m).map Mo.d ∧ M1 = [srcE p s] ∧ m ≤ 5 ∧ ∀ (xs : List Str) (s' : Src), xs.length = m → (∀ x ∈ xs, x ∈ ws) → Kk (Mo.d (.list ((xs.map Tr.use).map Tr.en))) [srcE p s']) :
    Ev T (tLc wi (gName i) tYes (tCall (spLeaf T) [] E (tCons (tVar 0) (tCons (tVar 1) tNil))) vs) ρ M Kk := by
  refine Ev.conv (ev_lc fun σ G H e s R q => h σ G H e s R fun J φs M1 G1 H1 k n wk => ?_)
  obtain ⟨m, s0, rfl, rfl, hm, fin⟩ := k
  refine q J _ [srcE p s0] G1 H1 ⟨fun k acc M2 => k ≤ m ∧ ∃ (xs : List Str) (s : Src), xs.length = k ∧ (∀ x ∈ xs, x ∈ ws) ∧ acc = ((xs.map Tr.use).map Tr.en).map Mo.d ∧ M2 = [srcE p s], ⟨Nat.zero_le _, [], s0, rfl, fun x hx => (by cases hx), rfl, rfl⟩, ?_, ?_⟩ n wk
  · rintro k φ acc M2 hk ⟨_, xs, s1, e1, e2, rfl, rfl⟩
    have hk2 := (List.getElem?_eq_some_iff.mp hk).1
    rw [List.length_map, upto_len] at hk2
    refine ⟨_, tgt_name hi, et_yes (iteT (ev_src (ea_cons (ev_var (h0 _) (ea_cons (ev_var (h1 _) (ea_nil ⟨ws, p, s1, 0, rfl, rfl, hw, ?_⟩)))))))⟩
    rintro d s2 ⟨x, hx, rfl⟩
    refine ⟨?_, hk2, xs ++ [x], s2, ?_, ?_, ?_, rfl⟩
    · rw [List.length_map, List.length_map, List.length_map]
      exact sz_lt (by omega)
    · rw [List.length_append, e1] <;> rfl
    · intro y hy
      rcases List.mem_append.mp hy with hy | hy
      · exact e2 y hy
      · rw [List.mem_singleton.mp hy]; exact hx
    · rw [List.map_append, List.map_append, List.map_append] <;> rfl
  · rintro acc M2 ⟨_, xs, s1, e1, e2, rfl, rfl⟩
    rw [List.length_map, upto_len] at e1
    exact ⟨_, fun v G h => ls_d h, fin xs s1 e1 e2⟩
theorem uses_okW {ws xs : List Str} (h : ∀ x ∈ xs, x ∈ ws) : Tr.okWL ws (xs.map Tr.use) := Tr.okWL_of fun t ht => by
  obtain ⟨x, hx, rfl⟩ := List.mem_map.mp ht
  rw [Tr.okW]
  exact h x hx
theorem uses_size : ∀ xs : List Str, Tr.sizeL (xs.map Tr.use) = xs.length
  | [] => by rw [List.map_nil, Tr.sizeL] <;> rfl
  | x :: r => by rw [List.map_cons, Tr.sizeL, uses_size r, Tr.size, List.length_cons]; omega
theorem uses_nb : ∀ xs : List Str, Tr.nbL (xs.map Tr.use) = 0
  | [] => by rw [List.map_nil, Tr.nbL]
  | x :: r => by rw [List.map_cons, Tr.nbL, uses_nb r, Tr.nb]
theorem shp_uses {ws xs : List Str} (hw : GoodW ws) (h : ∀ x ∈ xs, x ∈ ws) : SeqAt.shaped (.list ((xs.map Tr.use).map Tr.en)) = true :=
  (shp_list (m := 1) fun d hd => by
    obtain ⟨t, ht, rfl⟩ := List.mem_map.mp hd
    obtain ⟨x, hx, rfl⟩ := List.mem_map.mp ht
    rw [en_use]
    refine shp_tup fun e he => ?_
    rcases List.mem_cons.mp he with he | he
    · rw [he]; exact shp_str (by decide +kernel)
    · rw [List.mem_singleton.mp he]; exact shp_str (strOk_nm (hw.2.2 x (h x hx)))).ok (by decide)
theorem nmB_f : nmB "f" = true := by decide +kernel
theorem nmB_g : nmB "g" = true := by decide +kernel
abbrev spNested (T : Tb) : Sp := SpS T (List Str × Nat) (fun a => [Mo.d (strL a.1), Mo.d (.int (a.2 : Int))]) (fun a => GoodW a.1 ∧ a.2 ≤ 4) (fun a d => ∃ t : Tr, d = t.en ∧ t.okW a.1 ∧ t.size ≤ 25 ∧ t.nb ≤ 7)
-- slots of _law_nested: 0 _law_source, 1 _law_words_here, 2 _law_deep, 3 _law_tree_here, 4 _law_turn, 5 _law_beside, 6 _law_core, 7 _law_ahead, 8 _law_one_here
theorem sc__law_nested : FnScope ["_law_source", "_law_words_here", "_law_deep", "_law_tree_here", "_law_turn", "_law_beside", "_law_core", "_law_ahead", "_law_one_here"] ["_law_source", "_law_words_here", "_law_deep"] (defScope s__law_nested) := ⟨rfl, rfl, rfl, by decide +kernel, rfl, by decide +kernel, by decide +kernel⟩
theorem ok_nested (c : Fc K mg) : Cal P w K mg base 4 "_law_nested" ["_law_source", "_law_words_here", "_law_deep"] (spNested T) := by
  have C__law_take : Cal P w K mg base 1 "_law_take" ["_law_source", "_law_top"] (spTake T) := ok_take c
  have C__law_one : Cal P w K mg base 2 "_law_one" ["_law_source", "_law_things"] (spOne T) := ok_one c
  have C__law_leaf : Cal P w K mg base 3 "_law_leaf" ["_law_source", "_law_words_here"] (spLeaf T) := ok_leaf c
  obtain ⟨fd, F⟩ := c.f__law_nested
  refine fn_mk F c.g__law_nested (fn_ok F sc__law_nested (fun _ => rfl) (by decide) fun a ha cdv Ar outer s Hs Ex hr => ⟨_, (pss_cons (ps_set (i := 3) sc__law_nested.nd rfl (Or.inl rfl) (pe_tup (pa_cons pe_str (pa_cons pe_str (pa_cons (pe_callTy (c_tupleB (K0 := K)) rfl c.b_tuple boot_tuple (pa_cons (pe_lc (own := [("_law_turn", 4)]) rfl sc__law_nested.nd (pi_range1 rfl c.b_range (pa_cons (pe_op op_add pe_int (pe_fn C__law_take (hr.mono (by omega)) (pa_cons (pv 0) (pa_cons pe_int pa_nil)))) pa_nil)) (blkOk_by (N := ["_law_source", "_law_words_here", "_law_deep", "_law_tree_here", "_law_turn", "_law_beside", "_law_core", "_law_ahead", "_law_one_here"]) (sc := defScope s__law_nested) (by decide +kernel)) (fun _ _ _ _ _ => (tn 4 sc__law_nested.nd)) (fun _ _ _ _ _ => pts_nil) (fun _ _ _ _ _ => (pe_fn C__law_leaf (hr.mono (by omega)) (pa_cons (pv 0) (pa_cons (pv 1) pa_nil))))) pa_nil)) pa_nil)))))
      (pss_cons (ps_for PassesOwn.never rfl (pi_range1 rfl c.b_range (pa_cons (pv 2) pa_nil)) (tn 4 sc__law_nested.nd) (pss_cons (ps_setLc (i := 5) (own := [("_law_one_here", 8)]) rfl sc__law_nested.nd rfl rfl (sw_true rfl rfl rfl (by decide +kernel)) (pi_range1 rfl c.b_range (pa_cons (pe_fn C__law_take (hr.mono (by omega)) (pa_cons (pv 0) (pa_cons pe_int pa_nil))) pa_nil)) (blkOk_by (N := ["_law_source", "_law_words_here", "_law_deep", "_law_tree_here", "_law_turn", "_law_beside", "_law_core", "_law_ahead", "_law_one_here"]) (sc := defScope s__law_nested) (by decide +kernel)) (fun _ _ _ _ _ => (tn 8 sc__law_nested.nd)) (fun _ _ _ _ _ => pts_nil) (fun _ _ _ _ _ => (pe_fn C__law_leaf (hr.mono (by omega)) (pa_cons (pv 0) (pa_cons (pv 1) pa_nil)))))
      (pss_cons (ps_set (i := 6) sc__law_nested.nd rfl (Or.inl rfl) (pe_ifExp (pt_cmpR (op_eqDB (K0 := K) hr.units) (pv 5) (pe_lst pa_nil) (nomark _)) (pv 3) (pe_tup (pa_cons pe_str (pa_cons pe_str (pa_cons (pe_callTy (c_tupleB (K0 := K)) rfl c.b_tuple boot_tuple (pa_cons (pe_op op_cat (pv 5) (pe_lst (pa_cons (pv 3) pa_nil))) pa_nil)) pa_nil))))))
      (pss_cons (ps_set (i := 7) sc__law_nested.nd rfl (Or.inl rfl) (pe_ifExp (pt_cmpR op_eq (pe_fn C__law_take (hr.mono (by omega)) (pa_cons (pv 0) (pa_cons pe_int pa_nil))) pe_int (nomark _)) (pe_lst (pa_cons (pe_fn C__law_leaf (hr.mono (by omega)) (pa_cons (pv 0) (pa_cons (pv 1) pa_nil))) pa_nil)) (pe_lst pa_nil)))
      (pss_one (ps_set (i := 3) sc__law_nested.nd rfl (Or.inl rfl) (pe_tup (pa_cons pe_str (pa_cons (pe_fn C__law_one (hr.mono (by omega)) (pa_cons (pv 0) (pa_cons (pv 1) pa_nil))) (pa_cons (pe_callTy (c_tupleB (K0 := K)) rfl c.b_tuple boot_tuple (pa_cons (pv 7) pa_nil)) (pa_cons (pv 6) pa_nil)))))))))))
      (pss_one (ps_ret (pv 3))))), fun G H A0 Q kQ => ?_⟩) (fun _ _ _ _ _ _ us hl => match us, hl with | [_, _, _], _ => rfl)
  obtain ⟨p, s0, ws, deep⟩ := a
  obtain ⟨h1, h2⟩ : GoodW ws ∧ deep ≤ 4 := ha
  have onePre : 0 < (ws.map PyData.str).length ∧ (ws.map PyData.str).length ≤ 60 ^ 30 := by
    rw [List.length_map]
    exact ⟨h1.1, Nat.le_trans h1.2.1 (by decide)⟩
  with_reducible refine go_seq ?_
  with_reducible refine go_set ?_
  refine ev_tup (ea_cons (ev_str (ea_cons (ev_str (ea_cons (ev_cb (ea_cons ?_)))))))
  refine ev_leaves h1 (by simp) (fun _ => rfl) (fun _ => rfl) (ei_range (ev_op (ev_int (ev_src (ea_cons (ev_var rfl (ea_cons (ev_int (ea_nil ⟨4, p, s0, 0, rfl, rfl, ⟨by omega, by decide⟩, ?_⟩)))))))))
  rintro d s1 ⟨r, hr, rfl⟩
  refine ov_add ⟨1 + r, by rw [Int.natCast_add] <;> rfl, by omega, 1 + r, s1, rfl, rfl, by omega, fun xs s2 e1 e2 => ?_⟩
  refine ea_nil (cv_tuple (ea_nil ⟨[.str "join", .str "f", .tuple ((xs.map Tr.use).map Tr.en)], rfl, sz10 (by show 3 ≤ 10; omega), ?_⟩))
  rw [← en_join]
  with_reducible refine go_seq ?_
  refine go_for (vs := [4]) (ei_range (ev_var rfl ⟨deep, rfl, by omega, ?_⟩))
  refine ⟨fun k ρ M => k ≤ deep ∧ ∃ (t : Tr) (s : Src) (y4 y5 y6 y7 y8 : Option Mo), t.okW ws ∧ t.size ≤ 5 + 4 * k ∧ t.nb ≤ k ∧ M = [srcE p s] ∧ ρ = [some (Mo.adr p), some (Mo.d (strL ws)), some (Mo.d (.int (deep : Int))), some (Mo.d t.en), y4, y5, y6, y7, y8], ⟨Nat.zero_le _, .join "f" (xs.map Tr.use), s2, _, _, _, _, _, ?_, ?_, ?_, rfl, rfl⟩, ?_, ?_⟩
  · rw [Tr.okW]; exact ⟨nmB_f, uses_okW e2⟩
  · rw [Tr.size, uses_size]; omega
  · rw [Tr.nb, uses_nb]; omega
  · rintro k φ ρ1 M1 hk ⟨_, t, s3, y4, y5, y6, y7, y8, g1, g2, g3, rfl, rfl⟩
    have hk2 := (List.getElem?_eq_some_iff.mp hk).1
    rw [List.length_map, upto_len] at hk2
    refine ⟨_, tgt_name (by simp), fun A N hA hN => ?_⟩
    with_reducible refine go_seq ?_
    with_reducible refine go_set ?_
    refine ev_leaves h1 (by simp) (fun _ => rfl) (fun _ => rfl) (ei_range (ev_src (ea_cons (ev_var rfl (ea_cons (ev_int (ea_nil ⟨2, p, s3, 0, rfl, rfl, ⟨by omega, by decide⟩, ?_⟩)))))))
    rintro d s4 ⟨r2, hr2, rfl⟩
    refine ⟨r2, rfl, by omega, r2, s4, rfl, rfl, by omega, fun ys s5 q1 q2 => ?_⟩
    with_reducible refine go_seq ?_
    -- the core
    refine go_join (t := tAsg _ _) (fun ρ M => ∃ t2 : Tr, t2.okW ws ∧ t2.size ≤ t.size + 2 ∧ t2.nb = t.nb ∧ M = [srcE p s5] ∧ ρ = [some (Mo.adr p), some (Mo.d (strL ws)), some (Mo.d (.int (deep : Int))), some (Mo.d t.en), some φ, some (Mo.d (.list ((ys.map Tr.use).map Tr.en))), some (Mo.d t2.en), y7, y8]) (fun N2 hN2 => ?_) ?_
    · refine go_set (ev_ifE (et_test (ev_op (ev_var rfl (ev_lst (ea_nil ⟨[], rfl, by simp, ov_eqD (shp_uses h1 q2) shp_nil ⟨_, rfl, ?_⟩⟩))))))
      rw [eqv_empty]
      cases ys with
      | nil => exact iteT (ev_var rfl (hN2 _ _ ⟨t, g1, by omega, rfl, rfl, rfl⟩))
      | cons y r =>
        refine iteF (ev_tup (ea_cons (ev_str (ea_cons (ev_str (ea_cons (ev_cb (ea_cons (ev_op (ev_var rfl (ev_lst (ea_cons (ev_var rfl (ea_nil ⟨[t.en], rfl, sz10 (by show 1 ≤ 10; omega), ?_⟩))))))))))))))
        refine ov_cat ?_ (ea_nil (cv_tuple (ea_nil ⟨[.str "join", .str "g", .tuple (((y :: r).map Tr.use).map Tr.en ++ [t.en])], rfl, sz10 (by show 3 ≤ 10; omega), ?_⟩)))
        · rw [List.length_map, List.length_map, q1]
          exact sz_small (by show r2 + 1 ≤ 1000000; omega)
        · have et : (Tr.join "g" ((y :: r).map Tr.use ++ [t])).en = .tuple [.str "join", .str "g", .tuple (((y :: r).map Tr.use).map Tr.en ++ [t.en])] := by rw [en_join, List.map_append] <;> rfl
          rw [← et]
          refine hN2 _ _ ⟨_, ?_, ?_, ?_, rfl, rfl⟩
          · rw [Tr.okW]; exact ⟨nmB_g, Tr.okWL_app (uses_okW q2) (Tr.okWL_one g1)⟩
          · rw [Tr.size, Tr.sizeL_app, uses_size, Tr.sizeL, Tr.sizeL, q1]; omega
          · rw [Tr.nb, Tr.nbL_app, uses_nb, Tr.nbL, Tr.nbL]; omega
    rintro ρ2 M2 ⟨t2, c1, c2, c3, rfl, rfl⟩
    with_reducible refine go_seq ?_
    refine go_join (t := tAsg _ _) (fun ρ M => ∃ (zs : List Str) (s6 : Src), zs.length ≤ 1 ∧ (∀ x ∈ zs, x ∈ ws) ∧ M = [srcE p s6] ∧ ρ = [some (Mo.adr p), some (Mo.d (strL ws)), some (Mo.d (.int (deep : Int))), some (Mo.d t.en), some φ, some (Mo.d (.list ((ys.map Tr.use).map Tr.en))), some (Mo.d t2.en), some (Mo.d (.list ((zs.map Tr.use).map Tr.en))), y8]) (fun N2 hN2 => ?_) ?_
    · refine go_set (ev_ifE (et_test (ev_op (ev_src (ea_cons (ev_var rfl (ea_cons (ev_int (ea_nil ⟨4, p, s5, 0, rfl, rfl, ⟨by omega, by decide⟩, ?_⟩)))))))))
      rintro d s6 ⟨r3, hr3, rfl⟩
      refine ev_int (ov_eqI ⟨_, rfl, ?_⟩)
      by_cases hz : r3 = 0
      · refine iteP (decide_eq_true (by omega)) ?_
        refine ev_lst (ea_cons (ev_src (ea_cons (ev_var rfl (ea_cons (ev_var rfl (ea_nil ⟨ws, p, s6, 0, rfl, rfl, h1, ?_⟩)))))))
        rintro d s7 ⟨x, hx, rfl⟩
        exact ea_nil ⟨[(Tr.use x).en], rfl, sz10 (by show 1 ≤ 10; omega), hN2 _ _ ⟨[x], s7, by show 1 ≤ 1; omega, fun y hy => by rw [List.mem_singleton.mp hy]; exact hx, rfl, rfl⟩⟩
      · refine iteN (decide_eq_false (by omega)) ?_
        exact ev_lst (ea_nil ⟨[], rfl, by simp, hN2 _ _ ⟨[], s6, by show 0 ≤ 1; omega, fun y hy => (by cases hy), rfl, rfl⟩⟩)
    rintro ρ3 M3 ⟨zs, s6, z1, z2, rfl, rfl⟩
    with_reducible refine go_set ?_
    refine ev_tup (ea_cons (ev_str (ea_cons ?_)))
    refine ev_src (ea_cons (ev_var rfl (ea_cons (ev_var rfl (ea_nil ⟨_, p, s6, 0, rfl, rfl, onePre, ?_⟩)))))
    rintro d s7 hd
    obtain ⟨nm, hnm, rfl⟩ := List.mem_map.mp hd
    refine ea_cons (ev_cb (ea_cons (ev_var rfl (ea_nil (cv_tuple (ea_cons (ev_var rfl (ea_nil ⟨[.str "bind", .str nm, .tuple ((zs.map Tr.use).map Tr.en), t2.en], rfl, sz10 (by show 4 ≤ 10; omega), ?_⟩))))))))
    rw [← en_bind]
    refine hN _ _ ⟨hk2, .bind nm (zs.map Tr.use) t2, s7, _, _, _, _, _, ?_, ?_, ?_, rfl, rfl⟩
    · rw [Tr.okW]; exact ⟨hnm, uses_okW z2, c1⟩
    · rw [Tr.size, uses_size]; omega
    · rw [Tr.nb, uses_nb]; omega
  · rintro ρ1 M1 ⟨_, t, s3, y4, y5, y6, y7, y8, g1, g2, g3, rfl, rfl⟩
    rw [List.length_map, upto_len] at g2 g3
    exact go_ret (ev_var rfl (kQ _ _ [] ⟨_, s3, ⟨t, rfl, g1, by omega, by omega⟩, rfl, rfl⟩))
abbrev spTree (T : Tb) : Sp := SpS T Unit (fun _ => [Mo.d (.int 24), Mo.d (.int 7)]) (fun _ => True) (fun _ d => ∃ (ws : List Str) (t : Tr), GoodW ws ∧ d = t.en ∧ t.okW ws ∧ t.size ≤ 25 ∧ t.nb ≤ 7)
-- slots of _law_tree: 0 _law_source, 1 _law_most_nodes, 2 _law_most_binders, 3 _law_words_here, 4 _law_way, 5 _law_half, 6 _law_one_here, 7 _law_other
theorem sc__law_tree : FnScope ["_law_source", "_law_most_nodes", "_law_most_binders", "_law_words_here", "_law_way", "_law_half", "_law_one_here", "_law_other"] ["_law_source", "_law_most_nodes", "_law_most_binders"] (defScope s__law_tree) := ⟨rfl, rfl, rfl, by decide +kernel, rfl, by decide +kernel, by decide +kernel⟩
theorem ok_tree (c : Fc K mg) : Cal P w K mg base 54 "_law_tree" ["_law_source", "_law_most_nodes", "_law_most_binders"] (spTree T) := by
  have C__law_take : Cal P w K mg base 1 "_law_take" ["_law_source", "_law_top"] (spTake T) := ok_take c
  have C__law_words : Cal P w K mg base 3 "_law_words" ["_law_source"] (spWords T) := ok_words c
  have C__law_nested : Cal P w K mg base 4 "_law_nested" ["_law_source", "_law_words_here", "_law_deep"] (spNested T) := ok_nested c
  have C__law_grown : Cal P w K mg base 53 "_law_grown" ["_law_source", "_law_words_here", "_law_room"] (spGrown T 24) := grown_ok c 24
  obtain ⟨fd, F⟩ := c.f__law_tree
  refine fn_mk F c.g__law_tree (fn_ok F sc__law_tree (fun _ => rfl) (by decide) fun a ha cdv Ar outer s Hs Ex hr => ⟨_, (pss_cons (ps_par (i := 3) (j := 4) (by rfl) sc__law_tree.nd rfl rfl (by decide) rfl rfl (pa_cons (pe_fn C__law_words (hr.mono (by omega)) (pa_cons (pv 0) pa_nil)) (pa_cons (pe_fn C__law_take (hr.mono (by omega)) (pa_cons (pv 0) (pa_cons pe_int pa_nil))) pa_nil)) (by rfl))
      (pss_cons (ps_if (pt_cmpR op_eq (pv 4) pe_int (nomark _)) (pss_one (ps_ret (pe_fn C__law_nested (hr.mono (by omega)) (pa_cons (pv 0) (pa_cons (pv 3) (pa_cons (pe_fn C__law_take (hr.mono (by omega)) (pa_cons (pv 0) (pa_cons (pe_op op_add (pe_callB (c_min2 rfl) rfl c.b_min boot_min (pa_cons (pv 2) (pa_cons (pe_op op_fdivW (pv 1) pe_int) pa_nil))) pe_int) pa_nil))) pa_nil)))))) pss_nil)
      (pss_cons (ps_if (pt_cmpR op_eq (pv 4) pe_int (nomark _)) (pss_cons (ps_set (i := 5) sc__law_tree.nd rfl (Or.inl rfl) (pe_lst (pa_cons (pe_op op_fdivW (pv 1) pe_int) (pa_cons (pe_op op_fdivW (pv 2) pe_int) pa_nil))))
      (pss_cons (ps_par (i := 6) (j := 7) (by rfl) sc__law_tree.nd rfl rfl (by decide) rfl rfl (pa_cons (pe_ix (ix_seqB (K0 := K)) (pe_fn C__law_grown (hr.mono (by omega)) (pa_cons (pv 0) (pa_cons (pv 3) (pa_cons (pv 5) pa_nil)))) pe_int (fun _ _ => rfl)) (pa_cons (pe_ix (ix_seqB (K0 := K)) (pe_fn C__law_grown (hr.mono (by omega)) (pa_cons (pv 0) (pa_cons (pv 3) (pa_cons (pv 5) pa_nil)))) pe_int (fun _ _ => rfl)) pa_nil)) (by rfl))
      (pss_one (ps_ret (pe_tup (pa_cons pe_str (pa_cons pe_str (pa_cons (pe_tup (pa_cons (pv 6) (pa_cons (pv 7) pa_nil))) pa_nil)))))))) pss_nil)
      (pss_one (ps_ret (pe_ix (ix_seqB (K0 := K)) (pe_fn C__law_grown (hr.mono (by omega)) (pa_cons (pv 0) (pa_cons (pv 3) (pa_cons (pe_lst (pa_cons (pv 1) (pa_cons (pv 2) pa_nil))) pa_nil)))) pe_int (fun _ _ => rfl))))))), fun G H A0 Q kQ => ?_⟩) (fun _ _ _ _ _ _ us hl => match us, hl with | [_, _, _], _ => rfl)
  obtain ⟨p, s0, u⟩ := a
  with_reducible refine go_seq ?_
  refine go_par (ea_cons (ev_src (ea_cons (ev_var rfl (ea_nil ⟨(), p, s0, 0, rfl, rfl, trivial, ?_⟩)))))
  rintro d s1 ⟨ws, hw, rfl⟩
  refine ea_cons (ev_src (ea_cons (ev_var rfl (ea_cons (ev_int (ea_nil ⟨4, p, s1, 0, rfl, rfl, ⟨by omega, by decide⟩, ?_⟩))))))
  rintro d s2 ⟨way, hway, rfl⟩
  refine ea_nil ⟨_, _, rfl, ?_⟩
  with_reducible refine go_seq ?_
  refine go_if (et_test (ev_op (ev_var rfl (ev_int (ov_eqI ⟨_, rfl, ?_⟩)))))
  by_cases w0 : way = 0
  · refine iteP (decide_eq_true (by omega)) ?_
    with_reducible refine go_ret ?_
    refine ev_src (ea_cons (ev_var rfl (ea_cons (ev_var rfl (ea_cons ?_)))))
    refine ev_src (ea_cons (ev_var rfl (ea_cons (ev_op (ev_cb (ea_cons (ev_var rfl (ea_cons (ev_op (ev_var rfl (ev_int (ov_div ⟨by omega, by decide⟩ (ea_nil (cv_min2 (ev_int (ov_add (ea_nil ⟨5, p, s2, 0, rfl, rfl, ⟨by omega, by decide⟩, ?_⟩)))))))))))))))))
    rintro d s3 ⟨r, hr, rfl⟩
    refine ea_nil ⟨(ws, r), p, s3, 0, rfl, rfl, ⟨hw, by show r ≤ 4; omega⟩, ?_⟩
    rintro d s4 ⟨t, rfl, g1, g2, g3⟩
    exact kQ _ _ [] ⟨_, s4, ⟨ws, t, hw, rfl, g1, g2, g3⟩, rfl, rfl⟩
  · refine iteN (decide_eq_false (by omega)) ?_
    have grown : ∀ (r0 r1 : Nat) (s3 : Src) (ρ : Rho) (Kk : Ks) (te : TE) (R : Mus), 1 ≤ r0 → r0 ≤ 24 → ρ[0]? = some (some (Mo.adr p)) → ρ[3]? = some (some (Mo.d (strL ws))) → (∀ Kk2 : Ks, Kk2 (Mo.d (roomD r0 r1)) (srcE p s3 :: R) → Ev T te ρ (srcE p s3 :: R) Kk2) →
        (∀ (t : Tr) (s4 : Src), t.okW ws → t.size ≤ r0 → t.nb ≤ r1 → Kk (Mo.d t.en) (srcE p s4 :: R)) → Ev T (tOp (rIx K) (tCall (spGrown T 24) [] E0 (tCons (tVar 0) (tCons (tVar 3) (tCons te tNil)))) (tC (.int 0))) ρ (srcE p s3 :: R) Kk := by
      intro r0 r1 s3 ρ Kk te R q1 q2 q3 q4 q5 fin
      refine ev_op (ev_src (ea_cons (ev_var q3 (ea_cons (ev_var q4 (ea_cons (q5 _ (ea_nil ⟨(ws, r0, r1), p, s3, 0, rfl, rfl, ⟨hw, q1, q2, by omega⟩, ?_⟩))))))))
      rintro d s4 ⟨t, l0, l1, rfl, g1, g2, g3⟩
      have g2 : t.size + l0 ≤ r0 := g2
      have g3 : t.nb + l1 ≤ r1 := g3
      exact ev_int (ov_ixL (n := 0) rfl (fin t s4 g1 (by omega) (by omega)))
    with_reducible refine go_next ?_
    with_reducible refine go_seq ?_
    refine go_if (et_test (ev_op (ev_var rfl (ev_int (ov_eqI ⟨_, rfl, ?_⟩)))))
    by_cases w1 : way = 1
    · refine iteP (decide_eq_true (by omega)) ?_
      with_reducible refine go_seq ?_
      with_reducible refine go_set ?_
      refine ev_lst (ea_cons (ev_op (ev_var rfl (ev_int (ov_div ⟨by omega, by decide⟩ ?_)))))
      refine ea_cons (ev_op (ev_var rfl (ev_int (ov_div ⟨by omega, by decide⟩ (ea_nil ⟨[.int 12, .int 3], rfl, sz10 (by show 2 ≤ 10; omega), ?_⟩)))))
      with_reducible refine go_seq ?_
      refine go_par (ea_cons (grown 12 3 s2 _ _ _ [] (by omega) (by omega) rfl rfl (fun Kk2 h => ev_var rfl h) fun t1 s3 a1 a2 a3 => ?_))
      refine ea_cons (grown 12 3 s3 _ _ _ [] (by omega) (by omega) rfl rfl (fun Kk2 h => ev_var rfl h) fun t2 s4 b1 b2 b3 => ea_nil ⟨_, _, rfl, ?_⟩)
      with_reducible refine go_ret ?_
      refine ev_tup (ea_cons (ev_str (ea_cons (ev_str (ea_cons (ev_tup (ea_cons (ev_var rfl (ea_cons (ev_var rfl (ea_nil ⟨[t1.en, t2.en], rfl, sz10 (by show 2 ≤ 10; omega), ea_nil ⟨[.str "join", .str "f", .tuple ([t1, t2].map Tr.en)], rfl, sz10 (by show 3 ≤ 10; omega), ?_⟩⟩)))))))))))
      rw [← en_join]
      refine kQ _ _ [] ⟨_, s4, ⟨ws, .join "f" [t1, t2], hw, rfl, ?_, ?_, ?_⟩, rfl, rfl⟩
      · rw [Tr.okW, Tr.okWL, Tr.okWL, Tr.okWL]; exact ⟨nmB_f, a1, b1, trivial⟩
      · rw [Tr.size, Tr.sizeL, Tr.sizeL, Tr.sizeL]; omega
      · rw [Tr.nb, Tr.nbL, Tr.nbL, Tr.nbL]; omega
    · refine iteN (decide_eq_false (by omega)) ?_
      with_reducible refine go_next ?_
      with_reducible refine go_ret ?_
      refine grown 24 7 s2 _ _ _ [] (by omega) (by omega) rfl rfl ?_ fun t1 s3 a1 a2 a3 => ?_
      · intro Kk2 h
        exact ev_lst (ea_cons (ev_var (i := 1) rfl (ea_cons (ev_var (i := 2) rfl (ea_nil ⟨[.int 24, .int 7], rfl, sz10 (by show 2 ≤ 10; omega), h⟩)))))
      exact kQ _ _ [] ⟨_, s3, ⟨ws, t1, hw, rfl, a1, by omega, by omega⟩, rfl, rfl⟩
end Lv
/-! #### L4 -/
namespace Lv
open PySem L2 StX PyProof.Rows
local macro_rules | `(tactic| walk_at "lv1") => `(tactic| first
  | with_reducible refine go_seq ?_
  | with_reducible refine go_set ?_
  | with_reducible refine go_ret ?_
  | with_reducible refine go_drop ?_
  | with_reducible refine go_if ?_
  | with_reducible refine ev_op ?_
  | with_reducible refine ev_cb ?_
  | with_reducible refine ea_cons ?_
  | with_reducible refine ea_nil ?_
  | refine ev_var rfl ?_
  | with_reducible refine ev_int ?_
  | with_reducible refine ev_str ?_
  | with_reducible refine ev_bl ?_
  | with_reducible refine ev_ty ?_
  | with_reducible refine ev_non ?_
  | with_reducible refine ev_cls ?_
  | with_reducible refine ev_un ?_
  | with_reducible refine ev_fld ?_
  | with_reducible refine ev_andV ?_
  | with_reducible refine ev_notV ?_
  | with_reducible refine ev_ifE ?_
  | with_reducible refine ev_chain ?_
  | with_reducible refine et_test ?_
  | with_reducible refine et_B ?_
  | with_reducible refine et_and ?_
  | with_reducible refine et_or ?_
  | with_reducible refine et_not ?_
  | with_reducible refine et_yes ?_
  | with_reducible refine ov_add ?_
  | with_reducible refine ov_sub ?_
  | with_reducible refine ov_lt ?_
  | with_reducible refine ov_le ?_
  | with_reducible refine ov_gt ?_
  | with_reducible refine ov_ge ?_
  | with_reducible refine ov_neg ?_
  | with_reducible refine ov_eqI ?_
  | with_reducible refine ov_neI ?_
  | with_reducible refine ov_eqS ?_
  | with_reducible refine ov_inSg ?_
  | with_reducible refine ov_inS ?_
  | with_reducible refine ov_inI ?_
  | with_reducible refine cv_lenL ?_
  | with_reducible refine cv_lenT ?_
  | with_reducible refine cv_max2 ?_
  | with_reducible refine cv_min2 ?_
  | with_reducible refine cv_intI ?_
  | with_reducible refine cv_intB ?_
  | with_reducible refine cv_tuple ?_
  | with_reducible refine cv_list (.inl rfl) ?_
  | with_reducible refine cv_list (.inr rfl) ?_
  | refine ov_ixT (n := 0) rfl ?_
  | refine ov_ixT (n := 1) rfl ?_
  | refine ov_ixT (n := 2) rfl ?_
  | refine ov_ixT (n := 3) rfl ?_
  | refine ov_ixL (n := 0) rfl ?_
  | refine ov_ixL (n := 1) rfl ?_
  | refine ov_ixL (n := 2) rfl ?_
  | refine iteT ?_
  | refine iteF ?_
  | with_reducible refine iteN (b := !true) rfl ?_
  | with_reducible refine iteP (b := !false) rfl ?_
  | with_reducible refine go_next ?_
  | refine ⟨_, rfl, ?_⟩)
local macro_rules | `(tactic| walk_at "lv") => `(tactic| repeat walk_at "lv1")
variable {P : Program} {w : World} {K : PySem.W.Frag} {mg : Str → Option Value} {base : Heap} {T : Tb}
/-! ### spots: number, tree, the nodes of the binders around -/
abbrev Sp3 := Nat × Tr × List Nat
mutual
def spT : Tr → List Nat → Nat → List Sp3
  | .use n, ar, k => [(k, .use n, ar)]
  | .join l ps, ar, k => (k, .join l ps, ar) :: spL ps ar (k + 1)
  | .bind n ah b, ar, k => (k, .bind n ah b, ar) :: (spL ah ar (k + 1) ++ spT b (ar ++ [k]) (k + 1 + Tr.sizeL ah))
def spL : List Tr → List Nat → Nat → List Sp3
  | [], _, _ => []
  | t :: ts, ar, k => spT t ar k ++ spL ts ar (k + t.size)
end
mutual
theorem spT_len : ∀ (t : Tr) (ar : List Nat) (k : Nat), (spT t ar k).length = t.size
  | .use n, ar, k => by rw [spT, Tr.size] <;> rfl
  | .join l ps, ar, k => by rw [spT, Tr.size, List.length_cons, spL_len ps, Nat.add_comm]
  | .bind n ah b, ar, k => by rw [spT, Tr.size, List.length_cons, List.length_append, spL_len ah, spT_len b]; omega
theorem spL_len : ∀ (ts : List Tr) (ar : List Nat) (k : Nat), (spL ts ar k).length = Tr.sizeL ts
  | [], ar, k => by rw [spL, Tr.sizeL] <;> rfl
  | t :: ts, ar, k => by rw [spL, Tr.sizeL, List.length_append, spT_len t, spL_len ts]
end
theorem spL_app : ∀ (a b : List Tr) (ar : List Nat) (k : Nat), spL (a ++ b) ar k = spL a ar k ++ spL b ar (k + Tr.sizeL a)
  | [], b, ar, k => by rw [List.nil_append, spL, List.nil_append, Tr.sizeL, Nat.add_zero]
  | t :: a, b, ar, k => by rw [List.cons_append, spL, spL, spL_app a b, Tr.sizeL, List.append_assoc, Nat.add_assoc]
theorem spL_one (t : Tr) (ar : List Nat) (k : Nat) : spL [t] ar k = spT t ar k := by rw [spL, spL, List.append_nil]
/-- the nodes numbered, what is around told by g -/
def numb (g : Nat → Nat) : List Nd → Nat → List Sp3
  | [], _ => []
  | q :: r, k => (k, q.1, q.2.map g) :: numb g r (k + 1)
theorem numb_app (g : Nat → Nat) : ∀ (a b : List Nd) (k : Nat), numb g (a ++ b) k = numb g a k ++ numb g b (k + a.length)
  | [], b, k => by rw [List.nil_append, numb, List.nil_append, List.length_nil, Nat.add_zero]
  | q :: a, b, k => by rw [List.cons_append, numb, numb, numb_app g a b, List.length_cons, List.cons_append, show k + 1 + a.length = k + (a.length + 1) by omega]
theorem ixsB_len (l : List Nd) (k : Nat) : (ixs Tr.isB l k).length = (bnd l).length := by
  rw [ixs_len]
  unfold bnd
  rw [List.length_map]
mutual
theorem spT_numb (g : Nat → Nat) : ∀ (t : Tr) (ar : List Nat) (kb k : Nat), (∀ j x, (ixs Tr.isB (fl t ar kb) k)[j]? = some x → g (kb + j) = x) → spT t (ar.map g) k = numb g (fl t ar kb) k
  | .use n, ar, kb, k, h => by rw [spT, fl] <;> rfl
  | .join l ps, ar, kb, k, h => by
    rw [fl] at h ⊢
    rw [spT, numb, spL_numb g ps ar kb (k + 1) h]
  | .bind n ah b, ar, kb, k, h => by
    rw [fl] at h ⊢
    rw [spT, numb, numb_app, flL_len]
    have h : ∀ j x, (k :: ixs Tr.isB (flL ah ar (kb + 1) ++ fl b (ar ++ [kb]) (kb + 1 + Tr.nbL ah)) (k + 1))[j]? = some x → g (kb + j) = x := h
    have h0 : g kb = k := h 0 k rfl
    have hl : (ixs Tr.isB (flL ah ar (kb + 1)) (k + 1)).length = Tr.nbL ah := by rw [ixsB_len, bndL_len]
    have h1 : ∀ j x, (ixs Tr.isB (flL ah ar (kb + 1)) (k + 1))[j]? = some x → g (kb + 1 + j) = x := fun j x hj => by
      have hlt := (List.getElem?_eq_some_iff.mp hj).1
      have := h (j + 1) x (by rw [List.getElem?_cons_succ, ixs_app, List.getElem?_append_left hlt]; exact hj)
      rw [show kb + 1 + j = kb + (j + 1) by omega]
      exact this
    have h2 : ∀ j x, (ixs Tr.isB (fl b (ar ++ [kb]) (kb + 1 + Tr.nbL ah)) (k + 1 + Tr.sizeL ah))[j]? = some x → g (kb + 1 + Tr.nbL ah + j) = x := fun j x hj => by
      have := h (Tr.nbL ah + j + 1) x (by
        rw [List.getElem?_cons_succ, ixs_app, List.getElem?_append_right (by omega), hl, flL_len, show Tr.nbL ah + j - Tr.nbL ah = j by omega]
        exact hj)
      rw [show kb + 1 + Tr.nbL ah + j = kb + (Tr.nbL ah + j + 1) by omega]
      exact this
    rw [spL_numb g ah ar (kb + 1) (k + 1) h1]
    have e := spT_numb g b (ar ++ [kb]) (kb + 1 + Tr.nbL ah) (k + 1 + Tr.sizeL ah) h2
    rw [List.map_append, show [kb].map g = [k] by rw [List.map_cons, h0] <;> rfl] at e
    rw [e]
theorem spL_numb (g : Nat → Nat) : ∀ (ts : List Tr) (ar : List Nat) (kb k : Nat), (∀ j x, (ixs Tr.isB (flL ts ar kb) k)[j]? = some x → g (kb + j) = x) → spL ts (ar.map g) k = numb g (flL ts ar kb) k
  | [], ar, kb, k, h => by rw [spL, flL, numb]
  | t :: ts, ar, kb, k, h => by
    rw [flL] at h ⊢
    rw [spL, numb_app, fl_len]
    have hl : (ixs Tr.isB (fl t ar kb) k).length = t.nb := by rw [ixsB_len, bnd_len]
    rw [spT_numb g t ar kb k fun j x hj => h j x (by rw [ixs_app, List.getElem?_append_left (List.getElem?_eq_some_iff.mp hj).1]; exact hj)]
    rw [spL_numb g ts ar (kb + t.nb) (k + t.size) fun j x hj => by
      have := h (t.nb + j) x (by rw [ixs_app, List.getElem?_append_right (by omega), hl, fl_len, show t.nb + j - t.nb = j by omega]; exact hj)
      rw [show kb + t.nb + j = kb + (t.nb + j) by omega]
      exact this]
end
/-- the nodes of binders -/
def Tr.nodes (t : Tr) : List Nat := ixs Tr.isB t.fl0 0
theorem spots_numb (t : Tr) : spT t [] 0 = numb (fun j => t.nodes.getD j 0) t.fl0 0 := by
  have := spT_numb (fun j => t.nodes.getD j 0) t [] 0 0 fun j x hj => by
    rw [Nat.zero_add]
    exact getD_of hj
  rw [List.map_nil] at this
  exact this
def sp3D (q : Sp3) : PyData := .list [.int (q.1 : Int), q.2.1.en, .list (natL q.2.2)]
/-! ### below, spots -/
abbrev spBelow (T : Tb) : Sp := SpP T Tr (fun t => [Mo.d t.en]) (fun t => t.size ≤ 999) (fun t => Mo.d (.list (t.kids.map Tr.en)))
-- slots of _law_below: 0 _law_tree_here
theorem sc__law_below : FnScope ["_law_tree_here"] ["_law_tree_here"] (defScope s__law_below) := ⟨rfl, rfl, rfl, by decide +kernel, rfl, by decide +kernel, by decide +kernel⟩
theorem ok_below (c : Fc K mg) : Cal P w K mg base 1 "_law_below" ["_law_tree_here"] (spBelow T) := by
  obtain ⟨fd, F⟩ := c.f__law_below
  refine fn_mk F c.g__law_below (fn_okP F sc__law_below (fun _ => rfl) (by decide) fun t ht cdv Ar outer s Hs Ex hr => ⟨_, (pss_cons (ps_if (pt_cmpR op_eq (pe_ix (ix_seqB (K0 := K)) (pv 0) pe_int (fun _ _ => rfl)) pe_str (nomark _)) (pss_one (ps_ret (pe_lst pa_nil))) pss_nil)
      (pss_one (ps_ret (pe_ifExp (pt_cmpR op_eq (pe_ix (ix_seqB (K0 := K)) (pv 0) pe_int (fun _ _ => rfl)) pe_str (nomark _)) (pe_callTy (c_listB (K0 := K)) rfl c.b_list boot_list (pa_cons (pe_ix (ix_seqB (K0 := K)) (pv 0) pe_int (fun _ _ => rfl)) pa_nil)) (pe_op op_cat (pe_callTy (c_listB (K0 := K)) rfl c.b_list boot_list (pa_cons (pe_ix (ix_seqB (K0 := K)) (pv 0) pe_int (fun _ _ => rfl)) pa_nil)) (pe_lst (pa_cons (pe_ix (ix_seqB (K0 := K)) (pv 0) pe_int (fun _ _ => rfl)) pa_nil))))))), fun G H A0 Q kQ => ?_⟩) (fun _ _ _ _ _ _ us hl => match us, hl with | [_], _ => rfl)
  have ht : t.size ≤ 999 := ht
  cases t with
  | use x =>
    rw [en_use]
    walk_at "lv"
    refine ev_lst (ea_nil ⟨[], rfl, by simp, ?_⟩)
    exact kQ _
  | join l ps =>
    rw [en_join]
    walk_at "lv"
    exact kQ _
  | bind l ps b =>
    rw [en_bind]
    walk_at "lv"
    refine ev_lst (ea_cons (ev_op (ev_var rfl (ev_int (ov_ixT (n := 3) rfl (ea_nil ⟨[b.en], rfl, sz10 (by show 1 ≤ 10; omega), ?_⟩))))))
    refine ov_cat ?_ ?_
    · have h1 := Tr.len_sizeL ps
      rw [Tr.size] at ht
      rw [List.length_map]
      exact sz_small (by show ps.length + 1 ≤ 1000000; omega)
    · have e : (Tr.bind l ps b).kids.map Tr.en = ps.map Tr.en ++ [b.en] := by show (ps ++ [b]).map Tr.en = _; rw [List.map_append] <;> rfl
      rw [← e]
      exact kQ _
def Tr.tag : Tr → Str
  | .use _ => "use"
  | .join _ _ => "join"
  | .bind _ _ _ => "bind"
theorem tag_B (t : Tr) : decide (t.tag = "bind") = t.isB := by cases t <;> rfl
theorem tag_U (t : Tr) : decide (t.tag = "use") = t.isU := by cases t <;> rfl
theorem ov_tag {T : Tb} {M : Mus} {Kk : Ks} {K0 : PySem.W.Frag} {t : Tr} (k : Kk (Mo.d (.str t.tag)) M) : OpV T (rIx K0) (Mo.d t.en) (Mo.d (.int 0)) M Kk := by
  cases t with
  | use n => rw [en_use]; exact ov_ixT (n := 0) rfl k
  | join l ps => rw [en_join]; exact ov_ixT (n := 0) rfl k
  | bind n ps b => rw [en_bind]; exact ov_ixT (n := 0) rfl k
theorem ov_name {T : Tb} {M : Mus} {Kk : Ks} {K0 : PySem.W.Frag} {t : Tr} (k : Kk (Mo.d (.str t.name)) M) : OpV T (rIx K0) (Mo.d t.en) (Mo.d (.int 1)) M Kk := by
  cases t with
  | use n => rw [en_use]; exact ov_ixT (n := 1) rfl k
  | join l ps => rw [en_join]; exact ov_ixT (n := 1) rfl k
  | bind n ps b => rw [en_bind]; exact ov_ixT (n := 1) rfl k
theorem ov_parts {T : Tb} {M : Mus} {Kk : Ks} {K0 : PySem.W.Frag} {l : Str} {ps : List Tr} {b : Tr} (k : Kk (Mo.d (.tuple (ps.map Tr.en))) M) : OpV T (rIx K0) (Mo.d (Tr.bind l ps b).en) (Mo.d (.int 2)) M Kk := by
  rw [en_bind]; exact ov_ixT (n := 2) rfl k
theorem natL_app (a b : List Nat) : natL (a ++ b) = natL a ++ natL b := by unfold natL; rw [List.map_append]
/-- what is found ahead of the j-th part -/
theorem spots_ahead (t : Tr) (ar : List Nat) (k : Nat) : ∃ F : Nat → List Sp3, F 0 = [(k, t, ar)] ∧ F t.kids.length = spT t ar k ∧ (∀ j, j ≤ t.kids.length → (F j).length = 1 + Tr.sizeL (t.kids.take j)) ∧ ∀ j u, t.kids[j]? = some u → F (j + 1) = F j ++ spT u (if t.isB = true ∧ j + 1 = t.kids.length then ar ++ [k] else ar) (k + (F j).length) := by
  cases t with
  | use x => exact ⟨fun _ => [(k, .use x, ar)], rfl, by rw [spT], fun j hj => by rw [List.length_singleton, show j = 0 from Nat.le_zero.mp hj, List.take_zero, Tr.sizeL], fun j u hu => by cases hu⟩
  | join l ps =>
    refine ⟨fun j => (k, .join l ps, ar) :: spL (ps.take j) ar (k + 1), by show _ :: spL (ps.take 0) ar (k + 1) = _; rw [List.take_zero, spL], by show _ :: spL (ps.take ps.length) ar (k + 1) = _; rw [List.take_length, spT], fun j hj => by rw [List.length_cons, spL_len, Nat.add_comm] <;> rfl, fun j u hu => ?_⟩
    have hu : ps[j]? = some u := hu
    dsimp only
    rw [take_succ' hu, spL_app, spL_one, List.length_cons, spL_len, if_neg (fun z => by cases z.1), List.cons_append, show k + 1 + Tr.sizeL (ps.take j) = k + (Tr.sizeL (ps.take j) + 1) by omega]
  | bind l ps b =>
    have hk : (Tr.bind l ps b).kids.length = ps.length + 1 := by show (ps ++ [b]).length = _; rw [List.length_append] <;> rfl
    refine ⟨fun j => (k, .bind l ps b, ar) :: (spL (ps.take j) ar (k + 1) ++ if j = ps.length + 1 then spT b (ar ++ [k]) (k + 1 + Tr.sizeL ps) else []), ?_, ?_, ?_, ?_⟩
    · dsimp only
      rw [List.take_zero, spL, if_neg (by omega)] <;> rfl
    · dsimp only
      rw [hk, if_pos rfl, List.take_of_length_le (by omega), spT]
    · intro j hj
      rw [hk] at hj
      dsimp only
      rw [List.length_cons, List.length_append, spL_len]
      show _ = 1 + Tr.sizeL ((ps ++ [b]).take j)
      by_cases hj2 : j = ps.length + 1
      · rw [if_pos hj2, spT_len, hj2, List.take_of_length_le (by omega), List.take_of_length_le (by rw [List.length_append, List.length_singleton]; omega), Tr.sizeL_app, Tr.sizeL, Tr.sizeL]
        omega
      · rw [if_neg hj2, List.take_append_of_le_length (by omega)]
        show _ + 0 + 1 = _
        omega
    · intro j u hu
      have hu : (ps ++ [b])[j]? = some u := hu
      have hjl := (List.getElem?_eq_some_iff.mp hu).1
      rw [List.length_append, List.length_singleton] at hjl
      dsimp only
      by_cases hj : j < ps.length
      · rw [List.getElem?_append_left hj] at hu
        rw [if_neg (by omega), if_neg (by omega), if_neg (fun z => by have := z.2; rw [hk] at this; omega), take_succ' hu, spL_app, spL_one, List.append_nil, List.append_nil, List.length_cons, spL_len, List.cons_append, show k + 1 + Tr.sizeL (ps.take j) = k + (Tr.sizeL (ps.take j) + 1) by omega]
      · have ej : j = ps.length := by omega
        subst ej
        rw [List.getElem?_append_right (Nat.le_refl _), Nat.sub_self] at hu
        have hu : b = u := Option.some.inj hu
        subst hu
        rw [if_pos rfl, if_neg (by omega), if_pos ⟨rfl, by rw [hk]⟩, List.append_nil, List.take_length, List.take_of_length_le (Nat.le_succ _), List.length_cons, spL_len, List.cons_append, show k + 1 + Tr.sizeL ps = k + (Tr.sizeL ps + 1) by omega]
abbrev spSpots (T : Tb) (n : Nat) : Sp := SpP T (Tr × List Nat × Nat) (fun a => [Mo.d a.1.en, Mo.d (.list (natL a.2.1)), Mo.d (.int (a.2.2 : Int))]) (fun a => a.1.size ≤ n ∧ n ≤ 30 ∧ a.2.1.length + a.1.size ≤ 100) (fun a => Mo.d (.list ((spT a.1 a.2.1 a.2.2).map sp3D)))
-- slots of _law_spots: 0 _law_tree_here, 1 _law_around, 2 _law_first_here, 3 _law_found, 4 _law_spot, 5 _law_one_here, 6 _law_inside_here
theorem sc__law_spots : FnScope ["_law_tree_here", "_law_around", "_law_first_here", "_law_found", "_law_spot", "_law_one_here", "_law_inside_here"] ["_law_tree_here", "_law_around", "_law_first_here"] (defScope s__law_spots) := ⟨rfl, rfl, rfl, by decide +kernel, rfl, by decide +kernel, by decide +kernel⟩
theorem ok_spots (c : Fc K mg) {n : Nat} (C__law_spots : Cal P w K mg base (n + 2) "_law_spots" ["_law_tree_here", "_law_around", "_law_first_here"] (spSpots T n)) : Cal P w K mg base (n + 3) "_law_spots" ["_law_tree_here", "_law_around", "_law_first_here"] (spSpots T (n + 1)) := by
  have C__law_below : Cal P w K mg base 1 "_law_below" ["_law_tree_here"] (spBelow T) := ok_below c
  obtain ⟨fd, F⟩ := c.f__law_spots
  refine fn_mk F c.g__law_spots (fn_okP F sc__law_spots (fun _ => rfl) (by decide) fun a ha cdv Ar outer s Hs Ex hr => ⟨_, (pss_cons (ps_set (i := 3) sc__law_spots.nd rfl (Or.inl rfl) (pe_lst (pa_cons (pe_lst (pa_cons (pv 2) (pa_cons (pv 0) (pa_cons (pv 1) pa_nil)))) pa_nil)))
      (pss_cons (ps_for PassesOwn.never rfl (pi_enum rfl c.b_enumerate (pa_cons (pe_fn C__law_below (hr.mono (by omega)) (pa_cons (pv 0) pa_nil)) pa_nil)) (pg_tupB (K0 := K) (n := 2) rfl (pgs_cons (tn 4 sc__law_spots.nd) (pgs_cons (tn 5 sc__law_spots.nd) pgs_nil))) (pss_cons (ps_set (i := 6) sc__law_spots.nd rfl (Or.inl rfl) (pv 1))
      (pss_cons (ps_if (PW.pt (pw_and (pt_cmpR op_eq (pe_ix (ix_seqB (K0 := K)) (pv 0) pe_int (fun _ _ => rfl)) pe_str (nomark _)) (pw_and1 (pt_cmpR op_eq (pv 4) (pe_callB (c_lenB (K0 := K)) rfl c.b_len boot_len (pa_cons (pe_ix (ix_seqB (K0 := K)) (pv 0) pe_int (fun _ _ => rfl)) pa_nil)) (nomark _))))) (pss_one (ps_set (i := 6) sc__law_spots.nd rfl (Or.inl rfl) (pe_op op_cat (pv 1) (pe_lst (pa_cons (pv 2) pa_nil))))) pss_nil)
      (pss_one (ps_set (i := 3) sc__law_spots.nd rfl (Or.inl rfl) (pe_op op_cat (pv 3) (pe_fn C__law_spots (hr.mono (by omega)) (pa_cons (pv 5) (pa_cons (pv 6) (pa_cons (pe_op op_add (pv 2) (pe_callB (c_lenB (K0 := K)) rfl c.b_len boot_len (pa_cons (pv 3) pa_nil))) pa_nil))))))))))
      (pss_one (ps_ret (pv 3))))), fun G H A0 Q kQ => ?_⟩) (fun _ _ _ _ _ _ us hl => match us, hl with | [_, _, _], _ => rfl)
  obtain ⟨t, ar, k⟩ := a
  obtain ⟨h1, h2, h3⟩ : t.size ≤ n + 1 ∧ n + 1 ≤ 30 ∧ ar.length + t.size ≤ 100 := ha
  have hkl := t.kids_len
  with_reducible refine go_seq ?_
  with_reducible refine go_set ?_
  refine ev_lst (ea_cons (ev_lst (ea_cons (ev_var rfl (ea_cons (ev_var rfl (ea_cons (ev_var rfl (ea_nil ⟨[.int (k : Int), t.en, .list (natL ar)], rfl, sz10 (by show 3 ≤ 10; omega), ea_nil ⟨[sp3D (k, t, ar)], rfl, sz10 (by show 1 ≤ 10; omega), ?_⟩⟩)))))))))
  with_reducible refine go_seq ?_
  refine go_for (vs := [4, 5]) (ei_enum (ea_cons (ev_callP (ea_cons (ev_var rfl (ea_nil ⟨t, rfl, by show t.size ≤ 999; omega, ea_nil ⟨_, rfl, ?_⟩⟩))))))
  have ahead := spots_ahead t ar k
  obtain ⟨F, f0, f1, f2, f3⟩ := ahead
  refine ⟨fun j ρ M => M = [] ∧ ∃ x4 x5 x6, ρ = [some (Mo.d t.en), some (Mo.d (.list (natL ar))), some (Mo.d (.int (k : Int))), some (Mo.d (.list ((F j).map sp3D))), x4, x5, x6], ⟨rfl, none, none, none, by rw [f0] <;> rfl⟩, ?_, ?_⟩
  · rintro j φ ρ1 M1 hj ⟨rfl, x4, x5, x6, rfl⟩
    obtain ⟨d, hd, rfl⟩ := map_d_get hj
    obtain ⟨m, hm, rfl⟩ := enumD_get hd
    rw [List.getElem?_map] at hm
    cases hu : t.kids[j]? with
    | none => rw [hu] at hm; cases hm
    | some u =>
      rw [hu] at hm
      cases hm
      have hjl := (List.getElem?_eq_some_iff.mp hu).1
      have hus := Tr.kids_size (List.mem_of_getElem? hu)
      have hF := f2 j (by omega)
      have hsz : Tr.sizeL (t.kids.take j) ≤ t.size := by
        have a1 := sizeL_take t.kids j
        have a2 : Tr.sizeL t.kids + 1 = t.size := by
          cases t with
          | use x => show Tr.sizeL [] + 1 = _; rw [Tr.sizeL, Tr.size]
          | join l ps => show Tr.sizeL ps + 1 = _; rw [Tr.size]; omega
          | bind l ps b => show Tr.sizeL (ps ++ [b]) + 1 = _; rw [Tr.size, Tr.sizeL_app, Tr.sizeL, Tr.sizeL]; omega
        omega
      refine ⟨_, tgt_tup rfl (tgts_cons (tgt_name (by simp)) (tgts_cons (tgt_name (by simp)) tgts_nil)), fun A N hA hN => ?_⟩
      with_reducible refine go_seq ?_
      with_reducible refine go_set ?_
      refine ev_var rfl ?_
      with_reducible refine go_seq ?_
      refine go_join (t := tIfS _ _ _) (fun ρ M => M = [] ∧ ρ = [some (Mo.d t.en), some (Mo.d (.list (natL ar))), some (Mo.d (.int (k : Int))), some (Mo.d (.list ((F j).map sp3D))), some (Mo.d (.int (j : Int))), some (Mo.d u.en), some (Mo.d (.list (natL (if t.isB = true ∧ j + 1 = t.kids.length then ar ++ [k] else ar))))]) (fun N2 hN2 => ?_) ?_
      · refine go_if (et_and (et_test (ev_op (ev_op (ev_var rfl (ev_int (ov_tag (ev_str (ov_eqS ⟨_, rfl, ?_⟩)))))))))
        rw [tag_B]
        cases t with
        | use x => cases hu
        | join l ps => exact iteF (iteF (hN2 _ _ ⟨rfl, rfl⟩))
        | bind l ps b =>
          have hk : (Tr.bind l ps b).kids.length = ps.length + 1 := by show (ps ++ [b]).length = _; rw [List.length_append] <;> rfl
          refine iteT (et_test (ev_op (ev_var rfl (ev_cb (ea_cons (ev_op (ev_var rfl (ev_int (ov_parts (ea_nil (cv_lenT (ov_eqI ⟨_, rfl, ?_⟩))))))))))))
          rw [List.length_map]
          by_cases hj2 : j = ps.length
          · refine iteP (decide_eq_true (show (j : Int) = (ps.length : Int) by omega)) ?_
            refine go_set (ev_op (ev_var rfl (ev_lst (ea_cons (ev_var rfl (ea_nil ⟨natL [k], rfl, sz10 (by show 1 ≤ 10; omega), ov_cat (by rw [natL_len]; exact sz_small (by show ar.length + 1 ≤ 1000000; omega)) ?_⟩))))))
            rw [← natL_app]
            refine hN2 _ _ ⟨rfl, ?_⟩
            rw [if_pos ⟨rfl, by rw [hk]; omega⟩] <;> rfl
          · refine iteN (decide_eq_false (show ¬ (j : Int) = (ps.length : Int) by omega)) ?_
            refine hN2 _ _ ⟨rfl, ?_⟩
            rw [if_neg fun z => by have := z.2; rw [hk] at this; omega] <;> rfl
      rintro ρ2 M2 ⟨rfl, rfl⟩
      have f3 := f3 j u hu
      have hal : (if t.isB = true ∧ j + 1 = t.kids.length then ar ++ [k] else ar).length ≤ ar.length + 1 := by
        split
        · rw [List.length_append, List.length_singleton]; omega
        · omega
      generalize (if t.isB = true ∧ j + 1 = t.kids.length then ar ++ [k] else ar) = ar2 at f3 hal
      have hpre : u.size ≤ n ∧ n ≤ 30 ∧ ar2.length + u.size ≤ 100 := ⟨by omega, by omega, by omega⟩
      refine go_set (ev_op (ev_var rfl (ev_callP (ea_cons (ev_var rfl (ea_cons (ev_var rfl (ea_cons (ev_op (ev_var rfl (ev_cb (ea_cons (ev_var rfl (ea_nil (cv_lenL (ov_add (ea_nil ⟨(u, ar2, k + (F j).length), ?_, hpre, ?_⟩)))))))))))))))))
      · rw [List.length_map, ← Int.natCast_add]
      · refine ov_cat ?_ ?_
        · rw [List.length_map, List.length_map, spT_len]
          refine sz_small ?_
          show (F j).length + u.size ≤ 1000000
          omega
        · rw [← List.map_append]
          refine hN _ _ ⟨rfl, some (Mo.d (.int (j : Int))), some (Mo.d u.en), some (Mo.d (.list (natL ar2))), ?_⟩
          rw [f3] <;> rfl
  · rintro ρ1 M1 ⟨rfl, x4, x5, x6, rfl⟩
    rw [List.length_map, enumD_len, List.length_map, f1]
    exact go_ret (ev_var rfl (kQ _))
theorem spots_ok (c : Fc K mg) : ∀ n : Nat, Cal P w K mg base (n + 2) "_law_spots" ["_law_tree_here", "_law_around", "_law_first_here"] (spSpots T n)
  | 0 => by
    obtain ⟨fd, F⟩ := c.f__law_spots
    exact fn_mk F c.g__law_spots (fn_vac fun a h => by have h : a.1.size ≤ 0 := h.1; have := a.1.size_pos; omega) (fun _ _ _ _ _ _ us hl => match us, hl with | [_, _, _], _ => rfl)
  | n + 1 => ok_spots c (spots_ok c n)
end Lv
/-! #### L5 -/
namespace Lv
open PySem L2 StX PyProof.Rows
local macro_rules | `(tactic| walk_at "lv1") => `(tactic| first
  | with_reducible refine go_seq ?_
  | with_reducible refine go_set ?_
  | with_reducible refine go_ret ?_
  | with_reducible refine go_drop ?_
  | with_reducible refine go_if ?_
  | with_reducible refine ev_op ?_
  | with_reducible refine ev_cb ?_
  | with_reducible refine ea_cons ?_
  | with_reducible refine ea_nil ?_
  | refine ev_var rfl ?_
  | with_reducible refine ev_int ?_
  | with_reducible refine ev_str ?_
  | with_reducible refine ev_bl ?_
  | with_reducible refine ev_ty ?_
  | with_reducible refine ev_non ?_
  | with_reducible refine ev_cls ?_
  | with_reducible refine ev_un ?_
  | with_reducible refine ev_fld ?_
  | with_reducible refine ev_andV ?_
  | with_reducible refine ev_notV ?_
  | with_reducible refine ev_ifE ?_
  | with_reducible refine ev_chain ?_
  | with_reducible refine et_test ?_
  | with_reducible refine et_B ?_
  | with_reducible refine et_and ?_
  | with_reducible refine et_or ?_
  | with_reducible refine et_not ?_
  | with_reducible refine et_yes ?_
  | with_reducible refine ov_add ?_
  | with_reducible refine ov_sub ?_
  | with_reducible refine ov_lt ?_
  | with_reducible refine ov_le ?_
  | with_reducible refine ov_gt ?_
  | with_reducible refine ov_ge ?_
  | with_reducible refine ov_neg ?_
  | with_reducible refine ov_eqI ?_
  | with_reducible refine ov_neI ?_
  | with_reducible refine ov_eqS ?_
  | with_reducible refine ov_inSg ?_
  | with_reducible refine ov_inS ?_
  | with_reducible refine ov_inI ?_
  | with_reducible refine cv_lenL ?_
  | with_reducible refine cv_lenT ?_
  | with_reducible refine cv_max2 ?_
  | with_reducible refine cv_min2 ?_
  | with_reducible refine cv_intI ?_
  | with_reducible refine cv_intB ?_
  | with_reducible refine cv_tuple ?_
  | with_reducible refine cv_list (.inl rfl) ?_
  | with_reducible refine cv_list (.inr rfl) ?_
  | refine ov_ixT (n := 0) rfl ?_
  | refine ov_ixT (n := 1) rfl ?_
  | refine ov_ixT (n := 2) rfl ?_
  | refine ov_ixT (n := 3) rfl ?_
  | refine ov_ixL (n := 0) rfl ?_
  | refine ov_ixL (n := 1) rfl ?_
  | refine ov_ixL (n := 2) rfl ?_
  | refine iteT ?_
  | refine iteF ?_
  | with_reducible refine iteN (b := !true) rfl ?_
  | with_reducible refine iteP (b := !false) rfl ?_
  | with_reducible refine go_next ?_
  | refine ⟨_, rfl, ?_⟩)
local macro_rules | `(tactic| walk_at "lv") => `(tactic| repeat walk_at "lv1")
variable {P : Program} {w : World} {K : PySem.W.Frag} {mg : Str → Option Value} {base : Heap} {T : Tb}
theorem pe_bmB {X : Cx} {K0 : PySem.W.Frag} {o e : Expr} {es : List Expr} {to : TE} {t : TA} {name : Str} {apos cpos : Pos} {T id : String} {r : V → List V → Hp → VK → Prop} (pa : PlainAttrs T) (slot : Slot T name id) (hty : typeOf (.builtin id) = pure (.type "method_descriptor")) (hm : MtR X id r) (ho : PE X o to) (ha : PA X (e :: es) t)
    (hbase : attributeBase o name X.env (eval o X.env) = eval o X.env := by rfl)
    (hfew : ((backTo cpos (starEach (e :: es) X.env)).all (fun x => !x.1) && (backToKw cpos (keywordEach [] X.env)).all (fun x => x.1.isSome)
      && decide ((e :: es).length + ([] : List Keyword).length + (if ([] : List Keyword).isEmpty then 0 else 1) < 30)) = true := by rfl)
    (hline : (apos.endLine == cpos.line) = true := by rfl) (hs : starEach (e :: es) X.env = (false, eval e X.env) :: starEach es X.env := by rfl) (hplain : (backTo cpos (starEach es X.env)).any (·.1) = false := by rfl) (hK : X.K = K0 := by rfl) :
    PE X (.Call (.Attribute o name apos) (e :: es) [] cpos) (tBM K0 T r to t) := by
  subst hK
  exact pe_bm pa slot hty hm ho ha hbase hfew hline hs hplain
theorem mt_indexB {X : Cx} {K0 : PySem.W.Frag} (hK : X.K = K0 := by rfl) : MtR X "list.index" (rIndex K0) := by
  subst hK
  exact mt_index
/-! ### more of the nodes -/
theorem ixs_up (q : Tr → Bool) : ∀ (l : List Nd) (i : Nat), (ixs q l i).Pairwise (· < ·)
  | [], i => List.Pairwise.nil
  | p :: r, i => by
    rw [ixs]
    split
    · rw [List.pairwise_cons]
      exact ⟨fun j hj => by have := ixs_lt q r (i + 1) j hj; omega, ixs_up q r (i + 1)⟩
    · exact ixs_up q r (i + 1)
mutual
theorem fl_ar : ∀ (t : Tr) (ar : List Nat) (k : Nat), ∀ q ∈ fl t ar k, ∀ m ∈ q.2, m ∈ ar ∨ (k ≤ m ∧ m < k + t.nb)
  | .use n, ar, k, q, hq, m, hm => by
    rw [fl, List.mem_singleton] at hq
    subst hq
    exact .inl hm
  | .join l ps, ar, k, q, hq, m, hm => by
    rw [fl, List.mem_cons] at hq
    rcases hq with rfl | hq
    · exact .inl hm
    · rw [Tr.nb]
      exact flL_ar ps ar k q hq m hm
  | .bind n ah b, ar, k, q, hq, m, hm => by
    rw [fl, List.mem_cons, List.mem_append] at hq
    rw [Tr.nb]
    rcases hq with rfl | hq | hq
    · exact .inl hm
    · rcases flL_ar ah ar (k + 1) q hq m hm with h | h
      · exact .inl h
      · exact .inr (by omega)
    · rcases fl_ar b (ar ++ [k]) (k + 1 + Tr.nbL ah) q hq m hm with h | h
      · rcases List.mem_append.mp h with h | h
        · exact .inl h
        · rw [List.mem_singleton.mp h]; exact .inr (by omega)
      · exact .inr (by omega)
theorem flL_ar : ∀ (ts : List Tr) (ar : List Nat) (k : Nat), ∀ q ∈ flL ts ar k, ∀ m ∈ q.2, m ∈ ar ∨ (k ≤ m ∧ m < k + Tr.nbL ts)
  | [], ar, k, q, hq, m, hm => by
    rw [flL] at hq
    cases hq
  | t :: ts, ar, k, q, hq, m, hm => by
    rw [flL, List.mem_append] at hq
    rw [Tr.nbL]
    rcases hq with hq | hq
    · rcases fl_ar t ar k q hq m hm with h | h
      · exact .inl h
      · exact .inr (by omega)
    · rcases flL_ar ts ar (k + t.nb) q hq m hm with h | h
      · exact .inl h
      · exact .inr (by omega)
end
mutual
theorem fl_arlen : ∀ (t : Tr) (ar : List Nat) (k : Nat), ∀ q ∈ fl t ar k, q.2.length ≤ ar.length + t.nb
  | .use n, ar, k, q, hq => by
    rw [fl, List.mem_singleton] at hq
    subst hq
    exact Nat.le_add_right _ _
  | .join l ps, ar, k, q, hq => by
    rw [fl, List.mem_cons] at hq
    rcases hq with rfl | hq
    · exact Nat.le_add_right _ _
    · rw [Tr.nb]
      exact flL_arlen ps ar k q hq
  | .bind n ah b, ar, k, q, hq => by
    rw [fl, List.mem_cons, List.mem_append] at hq
    rw [Tr.nb]
    rcases hq with rfl | hq | hq
    · exact Nat.le_add_right _ _
    · have := flL_arlen ah ar (k + 1) q hq
      omega
    · have := fl_arlen b (ar ++ [k]) (k + 1 + Tr.nbL ah) q hq
      rw [List.length_append, List.length_singleton] at this
      omega
theorem flL_arlen : ∀ (ts : List Tr) (ar : List Nat) (k : Nat), ∀ q ∈ flL ts ar k, q.2.length ≤ ar.length + Tr.nbL ts
  | [], ar, k, q, hq => by
    rw [flL] at hq
    cases hq
  | t :: ts, ar, k, q, hq => by
    rw [flL, List.mem_append] at hq
    rw [Tr.nbL]
    rcases hq with hq | hq
    · have := fl_arlen t ar k q hq
      omega
    · have := flL_arlen ts ar (k + t.nb) q hq
      omega
end
theorem idxOf_nodup {α : Type} [BEq α] [LawfulBEq α] {xs : List α} (hn : xs.Nodup) {i : Nat} {a : α} (h : xs[i]? = some a) : xs.idxOf a = i := by
  obtain ⟨hi, e⟩ := List.getElem?_eq_some_iff.mp h
  have h1 : xs.idxOf a < xs.length := List.idxOf_lt_length_of_mem (e ▸ List.getElem_mem hi)
  have h2 : xs[xs.idxOf a] = a := List.getElem_idxOf h1
  exact (List.getElem_inj hn).mp (h2.trans e.symm)
theorem idxOf_cast (xs : List Nat) (x : Nat) : (xs.map fun (n : Nat) => (n : Int)).idxOf (x : Int) = xs.idxOf x := by
  induction xs with
  | nil => rfl
  | cons y r ih =>
    rw [List.map_cons, List.idxOf_cons, List.idxOf_cons, ih]
    by_cases h : y = x
    · subst h; simp
    · have h2 : ((y : Int) == (x : Int)) = false := by
        rw [beq_eq_false_iff_ne]
        exact fun z => h (Int.ofNat.inj z)
      have h3 : (y == x) = false := by rw [beq_eq_false_iff_ne]; exact h
      rw [h2, h3]
theorem natL_int (ns : List Nat) : (PyData.list (natL ns)) = intL (ns.map fun (n : Nat) => (n : Int)) := by
  show PyData.list _ = PyData.list _
  unfold natL
  rw [List.map_map] <;> rfl
theorem ev_indexN {T : Tb} {ρ : Rho} {M : Mus} {Kk : Ks} {K0 : PySem.W.Frag} {to : TE} {tr : TA} (h : Ev T to ρ M fun φ M1 => ∃ ss : List Nat, φ = Mo.d (.list (natL ss)) ∧ EvA T tr ρ M1 fun φs M2 => ∃ x : Nat, φs = [Mo.d (.int (x : Int))] ∧ x ∈ ss ∧ Kk (Mo.d (.int ((ss.idxOf x : Nat) : Int))) M2) :
    Ev T (tBM K0 "list" (rIndex K0) to tr) ρ M Kk := by
  refine ev_indexI (h.imp fun φ M1 ⟨ss, e, k⟩ => ⟨ss.map fun (n : Nat) => (n : Int), by rw [e, natL_int], fun σ G H e2 s Q q => k σ G H e2 s Q fun vs φs M2 G2 H2 ⟨x, e3, hx, k2⟩ p n => q vs φs M2 G2 H2 ⟨(x : Int), e3, List.mem_map_of_mem hx, ?_⟩ p n⟩)
  rw [idxOf_cast]
  exact k2
theorem Tr.nodes_len (t : Tr) : t.nodes.length = t.pg.names.length := by
  rw [t.pg_nb, ← bnd_len t [] 0]
  exact ixsB_len _ _
theorem Tr.nodes_nodup (t : Tr) : t.nodes.Nodup := (ixs_up Tr.isB t.fl0 0).imp fun h e => by omega
/-- the numbers of the binders around, from their nodes -/
theorem within_eq {t : Tr} {ar : List Nat} (h : ∀ m ∈ ar, m < t.pg.names.length) : (ar.map fun j => t.nodes.getD j 0).map (fun x => t.nodes.idxOf x) = ar := by
  rw [List.map_map]
  refine (List.map_congr_left fun j hj => ?_).trans (List.map_id ar)
  have hj2 : j < t.nodes.length := by rw [t.nodes_len]; exact h j hj
  exact idxOf_nodup t.nodes_nodup (getD_some hj2)
theorem within_mem {t : Tr} {ar : List Nat} (h : ∀ m ∈ ar, m < t.pg.names.length) : ∀ x ∈ ar.map (fun j => t.nodes.getD j 0), x ∈ t.nodes := fun x hx => by
  obtain ⟨j, hj, rfl⟩ := List.mem_map.mp hx
  have hj2 : j < t.nodes.length := by rw [t.nodes_len]; exact h j hj
  exact List.mem_of_getElem? (getD_some hj2)
theorem fl0_ar {t : Tr} {q : Nd} (hq : q ∈ t.fl0) : (∀ m ∈ q.2, m < t.pg.names.length) ∧ q.2.length ≤ t.size := by
  constructor
  · intro m hm
    rcases fl_ar t [] 0 q hq m hm with h | h
    · cases h
    · rw [t.pg_nb]; omega
  · have := fl_arlen t [] 0 q hq
    have h2 := nb_le t
    show q.2.length ≤ _
    rw [List.length_nil] at this
    omega
theorem numb_nodes (g : Nat → Nat) : ∀ (l : List Nd) (k : Nat), ((numb g l k).filter fun q => q.2.1.isB).map (fun q => PyData.int (q.1 : Int)) = natL (ixs Tr.isB l k)
  | [], k => rfl
  | q :: r, k => by
    rw [numb, List.filter_cons, ixs]
    split
    · rw [List.map_cons, numb_nodes g r (k + 1)] <;> rfl
    · exact numb_nodes g r (k + 1)
theorem numb_names (g : Nat → Nat) : ∀ (l : List Nd) (k : Nat), ((numb g l k).filter fun q => q.2.1.isB).map (fun q => PyData.str q.2.1.name) = ((bnd l).map (·.1)).map PyData.str
  | [], k => rfl
  | q :: r, k => by
    unfold bnd
    rw [numb, List.filter_cons, List.filter_cons]
    have ih := numb_names g r (k + 1)
    unfold bnd at ih
    split
    · rw [List.map_cons, List.map_cons, List.map_cons, List.map_cons, ih]
    · exact ih
theorem numb_get (g : Nat → Nat) : ∀ (l : List Nd) (k i : Nat) (s : Sp3), (numb g l k)[i]? = some s → ∃ q, l[i]? = some q ∧ s = (k + i, q.1, q.2.map g)
  | [], k, i, s, h => by rw [numb] at h; simp at h
  | q :: r, k, 0, s, h => by
    rw [numb, List.getElem?_cons_zero] at h
    exact ⟨q, rfl, (Option.some.inj h).symm⟩
  | q :: r, k, i + 1, s, h => by
    rw [numb, List.getElem?_cons_succ] at h
    obtain ⟨q', h1, h2⟩ := numb_get g r (k + 1) i s h
    exact ⟨q', h1, by rw [h2, show k + 1 + i = k + (i + 1) by omega]⟩
theorem numb_len (g : Nat → Nat) : ∀ (l : List Nd) (k : Nat), (numb g l k).length = l.length
  | [], k => rfl
  | q :: r, k => by rw [numb, List.length_cons, List.length_cons, numb_len g r]
/-! ### two entries of a dict at once -/
theorem go_dset2 {Z : Zo} {D : Ends} {ρ : Rho} {M : Mus} {K0 : PySem.W.Frag} {te : TE} {i : Nat} {k1 k2 : Str} (h : Ev Z.T te ρ M fun φ M1 => ∃ (d1 d2 : PyData) (p : Addr) (n : Nat) (kvs : List (Key × Mo)), φ = Mo.d (.tuple [d1, d2]) ∧ ρ[i]? = some (some (Mo.adr p)) ∧ M1[n]? = some (p, Mu.dk kvs) ∧ kvs.length + 1 < sizeLine ∧
      Go Z D.nx ρ (M1.set n (p, Mu.dk (putKM (putKM kvs (.inr k1) (Mo.d d1)) (.inr k2) (Mo.d d2))))) :
    Go Z (tAsg te (gTup K0 2 (gCons (gSub (tVar i) (tC (.str k1)) rSetD) (gCons (gSub (tVar i) (tC (.str k2)) rSetD) gNil))) D) ρ M := fun σ G H e z =>
  h.run e z.st fun v φ M1 G1 H1 ⟨d1, d2, p, n, kvs, e1, hi, hn, hl, g⟩ p1 n1 => by
    subst e1
    obtain ⟨a, xs, rfl, h2, h3⟩ := rep_tup p1
    obtain ⟨v0, hv1, hv2⟩ := (e.mono n1.g).2 i _ hi
    obtain rfl : v0 = .ref p := hv2
    obtain ⟨_, o, ho, ys, rfl, hy⟩ := n1.st.at hn
    obtain ⟨x1, x2, rfl, r1, r2⟩ : ∃ x1 x2, xs = [x1, x2] ∧ Rep G1 x1 d1 ∧ Rep G1 x2 d2 := by
      cases h3 with
      | cons a b => cases b with
        | cons c d =>
          cases d
          exact ⟨_, _, rfl, a, c⟩
    have hlen := KvOk.length hy
    have n2 := Po.wrote n1.st hn (m' := Mu.dk (putKM kvs (.inr k1) (Mo.d d1))) (o' := .dK (putK ys (.inr k1) x1)) ⟨_, rfl, hy.put r1⟩
    have hn2 : (M1.set n (p, Mu.dk (putKM kvs (.inr k1) (Mo.d d1))))[n]? = some (p, Mu.dk (putKM kvs (.inr k1) (Mo.d d1))) := List.getElem?_set_self (List.getElem?_eq_some_iff.mp hn).1
    obtain ⟨_, o2, ho2, ys2, rfl, hy2⟩ := n2.st.at hn2
    have eo : HO.dK ys2 = .dK (putK ys (.inr k1) x1) := by rw [upd_same] at ho2; exact (Option.some.inj ho2).symm
    have ey : ys2 = putK ys (.inr k1) x1 := by injection eo
    have hl2 : (putK ys (.inr k1) x1).length ≤ kvs.length + 1 := by
      rw [← ey, KvOk.length hy2]
      unfold putKM
      split
      · rw [List.length_map]; omega
      · rw [List.length_append, List.length_singleton]; omega
    have n3 := Po.wrote n2.st hn2 (m' := Mu.dk (putKM (putKM kvs (.inr k1) (Mo.d d1)) (.inr k2) (Mo.d d2))) (o' := .dK (putK (putK ys (.inr k1) x1) (.inr k2) x2)) ⟨_, rfl, (ey ▸ hy2).put r2⟩
    rw [List.set_set] at n3
    have n4 := n1.trans (n2.trans n3)
    exact ⟨a, [x1, x2], rfl, SqT.of (n1.st.sub _ _ h2), rfl, x1, [x2], rfl, ⟨.ref p, hv1, p, _, rfl, (show DPut H1 p (kV (.inr k1)) x1 _ from DPut.k ho (by rw [hlen]; omega)), x2, [], rfl, ⟨.ref p, hv1, p, _, rfl, (show DPut (upd H1 p (.dK (putK ys (.inr k1) x1))) p (kV (.inr k2)) x2 _ from DPut.k upd_same (by omega)), rfl, g σ G1 _ (e.mono n1.g) (z.to n4)⟩⟩⟩
/-- what may change is frozen, and told -/
theorem go_fin {Z : Zo} {N : VK} {φ ψ : Mo} {M : Mus} (c : ∀ v G', φ.p v G' → (∀ e ∈ M, ∃ o, G' e.1 = some o ∧ e.2.p o G') → ψ.p v G') (h : GoR Z N ψ []) : GoR Z N φ M := fun v G H hv z => by
  obtain ⟨G2, z2, sg, hmu⟩ := z.all
  exact h v G2 H (c v G2 (φ.mono sg hv) hmu) z2
end Lv
/-! #### L6 -/
namespace Lv
open PySem L2 StX PyProof.Rows
local macro_rules | `(tactic| walk_at "lv1") => `(tactic| first
  | with_reducible refine go_seq ?_
  | with_reducible refine go_set ?_
  | with_reducible refine go_ret ?_
  | with_reducible refine go_drop ?_
  | with_reducible refine go_if ?_
  | with_reducible refine ev_op ?_
  | with_reducible refine ev_cb ?_
  | with_reducible refine ea_cons ?_
  | with_reducible refine ea_nil ?_
  | refine ev_var rfl ?_
  | with_reducible refine ev_int ?_
  | with_reducible refine ev_str ?_
  | with_reducible refine ev_bl ?_
  | with_reducible refine ev_ty ?_
  | with_reducible refine ev_non ?_
  | with_reducible refine ev_cls ?_
  | with_reducible refine ev_un ?_
  | with_reducible refine ev_fld ?_
  | with_reducible refine ev_andV ?_
  | with_reducible refine ev_notV ?_
  | with_reducible refine ev_ifE ?_
  | with_reducible refine ev_chain ?_
  | with_reducible refine et_test ?_
  | with_reducible refine et_B ?_
  | with_reducible refine et_and ?_
  | with_reducible refine et_or ?_
  | with_reducible refine et_not ?_
  | with_reducible refine et_yes ?_
  | with_reducible refine ov_add ?_
  | with_reducible refine ov_sub ?_
  | with_reducible refine ov_lt ?_
  | with_reducible refine ov_le ?_
  | with_reducible refine ov_gt ?_
  | with_reducible refine ov_ge ?_
  | with_reducible refine ov_neg ?_
  | with_reducible refine ov_eqI ?_
  | with_reducible refine ov_neI ?_
  | with_reducible refine ov_eqS ?_
  | with_reducible refine ov_inSg ?_
  | with_reducible refine ov_inS ?_
  | with_reducible refine ov_inI ?_
  | with_reducible refine cv_lenL ?_
  | with_reducible refine cv_lenT ?_
  | with_reducible refine cv_max2 ?_
  | with_reducible refine cv_min2 ?_
  | with_reducible refine cv_intI ?_
  | with_reducible refine cv_intB ?_
  | with_reducible refine cv_tuple ?_
  | with_reducible refine cv_list (.inl rfl) ?_
  | with_reducible refine cv_list (.inr rfl) ?_
  | refine ov_ixT (n := 0) rfl ?_
  | refine ov_ixT (n := 1) rfl ?_
  | refine ov_ixT (n := 2) rfl ?_
  | refine ov_ixT (n := 3) rfl ?_
  | refine ov_ixL (n := 0) rfl ?_
  | refine ov_ixL (n := 1) rfl ?_
  | refine ov_ixL (n := 2) rfl ?_
  | refine iteT ?_
  | refine iteF ?_
  | with_reducible refine iteN (b := !true) rfl ?_
  | with_reducible refine iteP (b := !false) rfl ?_
  | with_reducible refine go_next ?_
  | refine ⟨_, rfl, ?_⟩)
local macro_rules | `(tactic| walk_at "lv") => `(tactic| repeat walk_at "lv1")
variable {P : Program} {w : World} {K : PySem.W.Frag} {mg : Str → Option Value} {base : Heap} {T : Tb}
/-! ### the page -/
def useRow (p : Pg) (u : Str × List Nat) : PyData := .list [.str u.1, .list (natL u.2), (p.meant u).en]
abbrev pageKvs (n u a l m : Mo) : List (Key × Mo) := [(.inr "names", n), (.inr "uses", u), (.inr "around", a), (.inr "all", l), (.inr "nodes", m)]
def allD (t : Tr) : PyData := .list ((spT t [] 0).map fun q => .list (natL (q.2.2.map fun x => t.nodes.idxOf x)))
abbrev pageV (t : Tr) : Mo := Mo.dk (pageKvs (Mo.d (strL t.pg.names)) (Mo.d (.list (t.pg.uses.map (useRow t.pg)))) (Mo.d (.list (t.pg.ars.map fun a => .list (natL a)))) (Mo.d (allD t)) (Mo.d (.list (natL t.nodes))))
theorem put1 {n u a x : Mo} : putKM [(.inr "names", n), (.inr "uses", u), (.inr "around", a)] (.inr "all") x = [(.inr "names", n), (.inr "uses", u), (.inr "around", a), (.inr "all", x)] := rfl
theorem put2 {n u a x y : Mo} : putKM [(.inr "names", n), (.inr "uses", u), (.inr "around", a), (.inr "all", x)] (.inr "nodes") y = pageKvs n u a x y := rfl
theorem merge3 {n u a : Mo} : mergeKM [] [(.inr "names", n), (.inr "uses", u), (.inr "around", a)] = [(.inr "names", n), (.inr "uses", u), (.inr "around", a)] := rfl
abbrev spPage (T : Tb) : Sp := SpP T Tr (fun t => [Mo.d t.en]) (fun t => t.size ≤ 30) (fun t => pageV t)
theorem fin_page {p pu pa : Addr} {n l m : Mo} {us as : List PyData} : ∀ v (G' : Hp), (Mo.adr p).p v G' → (∀ e ∈ ([(pu, Mu.dl us), (pa, Mu.dl as), (p, Mu.dk (pageKvs n (Mo.adr pu) (Mo.adr pa) l m))] : Mus), ∃ o, G' e.1 = some o ∧ e.2.p o G') → (Mo.dk (pageKvs n (Mo.d (.list us)) (Mo.d (.list as)) l m)).p v G' := fun v G' hv h => by
  obtain ⟨_, e1, x1, rfl, r1⟩ := h _ (List.mem_cons_self ..)
  obtain ⟨_, e2, x2, rfl, r2⟩ := h _ (List.mem_cons_of_mem _ (List.mem_cons_self ..))
  obtain ⟨_, e0, xs, rfl, hx⟩ := h _ (List.mem_cons_of_mem _ (List.mem_cons_of_mem _ (List.mem_cons_self ..)))
  refine ⟨p, xs, hv, e0, ?_⟩
  cases hx with
  | cons q1 hx => cases hx with
    | cons q2 hx => cases hx with
      | cons q3 hx =>
        obtain ⟨n2, q2⟩ := q2
        obtain ⟨n3, q3⟩ := q3
        refine .cons q1 (.cons ⟨n2, ?_⟩ (.cons ⟨n3, ?_⟩ hx))
        · rw [show _ = V.ref pu from q2]; exact Rep.lst e1 r1
        · rw [show _ = V.ref pa from q3]; exact Rep.lst e2 r2
-- slots of _law_page: 0 _law_tree_here, 1 _law_spots_here, 2 _law_nodes, 3 _law_spot, 4 _law_one_here, 5 _law_around, 6 _law_page_here, 7 _law_within, 8 _law_meant, 9 _law_place, 10 _law_binder
theorem sc__law_page : FnScope ["_law_tree_here", "_law_spots_here", "_law_nodes", "_law_spot", "_law_one_here", "_law_around", "_law_page_here", "_law_within", "_law_meant", "_law_place", "_law_binder"] ["_law_tree_here"] (defScope s__law_page) := ⟨rfl, rfl, rfl, by decide +kernel, rfl, by decide +kernel, by decide +kernel⟩
theorem ok_page (c : Fc K mg) : Cal P w K mg base 33 "_law_page" ["_law_tree_here"] (spPage T) := by
  have C__law_spots : Cal P w K mg base 32 "_law_spots" ["_law_tree_here", "_law_around", "_law_first_here"] (spSpots T 30) := spots_ok c 30
  obtain ⟨fd, F⟩ := c.f__law_page
  refine fn_mk F c.g__law_page (fn_okP F sc__law_page (fun _ => rfl) (by decide) fun t ht cdv Ar outer s Hs Ex hr => ⟨_, (pss_cons (ps_set (i := 1) sc__law_page.nd rfl (Or.inl rfl) (pe_fn C__law_spots (hr.mono (by omega)) (pa_cons (pv 0) (pa_cons (pe_lst pa_nil) (pa_cons pe_int pa_nil)))))
      (pss_cons (ps_set (i := 2) sc__law_page.nd rfl (Or.inr rfl) (pe_lc (own := [("_law_spot", 3), ("_law_one_here", 4), ("_law_around", 5)]) rfl sc__law_page.nd (pi_listB (K0 := K) (pv 1)) (blkOk_by (N := ["_law_tree_here", "_law_spots_here", "_law_nodes", "_law_spot", "_law_one_here", "_law_around", "_law_page_here", "_law_within", "_law_meant", "_law_place", "_law_binder"]) (sc := defScope s__law_page) (by decide +kernel)) (fun _ _ _ _ _ => (pg_unlB (K0 := K) (n := 3) rfl (pgs_cons (tn 3 sc__law_page.nd) (pgs_cons (tn 4 sc__law_page.nd) (pgs_cons (tn 5 sc__law_page.nd) pgs_nil))))) (fun _ _ _ _ _ => (pts_one (pt_cmpR op_eq (pe_ix (ix_seqB (K0 := K)) (pv 4) pe_int (fun _ _ => rfl)) pe_str (nomark _)))) (fun _ _ _ _ _ => (pv 3))))
      (pss_cons (ps_set (i := 6) sc__law_page.nd rfl (Or.inr rfl) (pe_disp (pps_cons pe_str (pe_lc (own := [("_law_spot", 3), ("_law_one_here", 4), ("_law_around", 5)]) rfl sc__law_page.nd (pi_listB (K0 := K) (pv 1)) (blkOk_by (N := ["_law_tree_here", "_law_spots_here", "_law_nodes", "_law_spot", "_law_one_here", "_law_around", "_law_page_here", "_law_within", "_law_meant", "_law_place", "_law_binder"]) (sc := defScope s__law_page) (by decide +kernel)) (fun _ _ _ _ _ => (pg_unlB (K0 := K) (n := 3) rfl (pgs_cons (tn 3 sc__law_page.nd) (pgs_cons (tn 4 sc__law_page.nd) (pgs_cons (tn 5 sc__law_page.nd) pgs_nil))))) (fun _ _ _ _ _ => (pts_one (pt_cmpR op_eq (pe_ix (ix_seqB (K0 := K)) (pv 4) pe_int (fun _ _ => rfl)) pe_str (nomark _)))) (fun _ _ _ _ _ => (pe_ix (ix_seqB (K0 := K)) (pv 4) pe_int (fun _ _ => rfl)))) (pps_cons pe_str (pe_lst pa_nil) (pps_cons pe_str (pe_lst pa_nil) pps_nil))) (by rfl) (by rfl) (fun z => by cases z) (by decide)))
      (pss_cons (ps_asg (pe_tup (pa_cons (pe_lc (own := [("_law_spot", 3), ("_law_one_here", 4), ("_law_around", 5)]) rfl sc__law_page.nd (pi_listB (K0 := K) (pv 1)) (blkOk_by (N := ["_law_tree_here", "_law_spots_here", "_law_nodes", "_law_spot", "_law_one_here", "_law_around", "_law_page_here", "_law_within", "_law_meant", "_law_place", "_law_binder"]) (sc := defScope s__law_page) (by decide +kernel)) (fun _ _ _ _ _ => (pg_unlB (K0 := K) (n := 3) rfl (pgs_cons (tn 3 sc__law_page.nd) (pgs_cons (tn 4 sc__law_page.nd) (pgs_cons (tn 5 sc__law_page.nd) pgs_nil))))) (fun _ _ _ _ _ => pts_nil) (fun _ _ _ _ _ => (pe_lc (own := [("_law_place", 9)]) rfl sc__law_page.nd (pi_listB (K0 := K) (pv 5)) (blkOk_by (by with_unfolding_all rfl)) (fun _ _ _ _ _ => (tn 9 sc__law_page.nd)) (fun _ _ _ _ _ => pts_nil) (fun _ _ _ _ _ => (pe_bmB (K0 := K) PySem.F.plainAttrs_list PySem.F.slot_list_index PySem.F.type_list_index (mt_indexB (K0 := K)) (pv 2) (pa_cons (pv 9) pa_nil)))))) (pa_cons (pv 2) pa_nil))) (pg_tupB (K0 := K) (n := 2) rfl (pgs_cons (pg_sub (pv 6) pe_str (set_dict (hu_of hr))) (pgs_cons (pg_sub (pv 6) pe_str (set_dict (hu_of hr))) pgs_nil))))
      (pss_cons (ps_for PassesOwn.never rfl (pi_listB (K0 := K) (pv 1)) (pg_unlB (K0 := K) (n := 3) rfl (pgs_cons (tn 3 sc__law_page.nd) (pgs_cons (tn 4 sc__law_page.nd) (pgs_cons (tn 5 sc__law_page.nd) pgs_nil)))) (pss_cons (ps_setLc (i := 7) (own := [("_law_place", 9)]) rfl sc__law_page.nd rfl rfl (sw_true rfl rfl rfl (by decide +kernel)) (pi_listB (K0 := K) (pv 5)) (blkOk_by (N := ["_law_tree_here", "_law_spots_here", "_law_nodes", "_law_spot", "_law_one_here", "_law_around", "_law_page_here", "_law_within", "_law_meant", "_law_place", "_law_binder"]) (sc := defScope s__law_page) (by decide +kernel)) (fun _ _ _ _ _ => (tn 9 sc__law_page.nd)) (fun _ _ _ _ _ => pts_nil) (fun _ _ _ _ _ => (pe_bmB (K0 := K) PySem.F.plainAttrs_list PySem.F.slot_list_index PySem.F.type_list_index (mt_indexB (K0 := K)) (pv 2) (pa_cons (pv 9) pa_nil))))
      (pss_cons (ps_if (pt_cmpR op_eq (pe_ix (ix_seqB (K0 := K)) (pv 4) pe_int (fun _ _ => rfl)) pe_str (nomark _)) (pss_one (ps_expr (pe_bmB (K0 := K) PySem.F.plainAttrs_list PySem.F.slot_list_append PySem.F.type_list_append mt_append (pe_dget (hu_of hr) (pv 6) pe_str (fun _ _ => rfl)) (pa_cons (pv 7) pa_nil)))) pss_nil)
      (pss_one (ps_if (pt_cmpR op_eq (pe_ix (ix_seqB (K0 := K)) (pv 4) pe_int (fun _ _ => rfl)) pe_str (nomark _)) (pss_cons (ps_setLc (i := 8) (own := [("_law_binder", 10)]) rfl sc__law_page.nd rfl rfl (sw_true rfl rfl rfl (by decide +kernel)) (pi_listB (K0 := K) (pv 7)) (blkOk_by (N := ["_law_tree_here", "_law_spots_here", "_law_nodes", "_law_spot", "_law_one_here", "_law_around", "_law_page_here", "_law_within", "_law_meant", "_law_place", "_law_binder"]) (sc := defScope s__law_page) (by decide +kernel)) (fun _ _ _ _ _ => (tn 10 sc__law_page.nd)) (fun _ _ _ _ _ => (pts_one (pt_cmpR op_eq (pe_ix (ix_seqB (K0 := K)) (pe_dget (hu_of hr) (pv 6) pe_str (fun _ _ => rfl)) (pv 10) (fun _ _ => rfl)) (pe_ix (ix_seqB (K0 := K)) (pv 4) pe_int (fun _ _ => rfl)) (nomark _)))) (fun _ _ _ _ _ => (pv 10)))
      (pss_one (ps_expr (pe_bmB (K0 := K) PySem.F.plainAttrs_list PySem.F.slot_list_append PySem.F.type_list_append mt_append (pe_dget (hu_of hr) (pv 6) pe_str (fun _ _ => rfl)) (pa_cons (pe_lst (pa_cons (pe_ix (ix_seqB (K0 := K)) (pv 4) pe_int (fun _ _ => rfl)) (pa_cons (pv 7) (pa_cons (pe_ifExp (pt_cmpR (op_neDB (K0 := K) hr.units) (pv 8) (pe_lst pa_nil) (nomark _)) (pe_ix (ix_seqB (K0 := K)) (pv 8) (pe_un un_neg pe_int) (fun _ _ => rfl)) (pe_ix (ix_seqB (K0 := K)) (pv 4) pe_int (fun _ _ => rfl))) pa_nil)))) pa_nil))))) pss_nil)))))
      (pss_one (ps_ret (pv 6)))))))), fun G H A0 Q kQ => ?_⟩) (fun _ _ _ _ _ _ us hl => match us, hl with | [_], _ => rfl)
  have ht : t.size ≤ 30 := ht
  have hS := spots_numb t
  have hSl : (spT t [] 0).length = t.size := spT_len t [] 0
  have hfl : t.fl0.length = t.size := fl_len t [] 0
  have hnb := nb_le t
  have hpn := t.pg_nb
  have hnod := t.nodes_len
  have hitem : ∀ (i : Nat) (q : Sp3), (spT t [] 0)[i]? = some q → ∃ nd, t.fl0[i]? = some nd ∧ q = (0 + i, nd.1, nd.2.map fun j => t.nodes.getD j 0) := fun i q h => by
    rw [hS] at h
    exact numb_get _ _ _ _ _ h
  have tgt3 : ∀ (ρ : Rho) (q : Sp3), Tgt [3, 4, 5] (gUnl K 3 (gCons (gName 3) (gCons (gName 4) (gCons (gName 5) gNil)))) (Mo.d (sp3D q)) ρ (((ρ.set 3 (some (Mo.d (.int (q.1 : Int))))).set 4 (some (Mo.d q.2.1.en))).set 5 (some (Mo.d (.list (natL q.2.2))))) := fun ρ q => tgt_unl rfl (tgts_cons (tgt_name (by simp)) (tgts_cons (tgt_name (by simp)) (tgts_cons (tgt_name (by simp)) tgts_nil)))
  with_reducible refine go_seq ?_
  with_reducible refine go_set ?_
  refine ev_callP (ea_cons (ev_var rfl (ea_cons (ev_lst (ea_nil ⟨[], rfl, by simp, ?_⟩)))))
  refine ea_cons (ev_int (ea_nil ⟨(t, [], 0), rfl, ⟨ht, by omega, by show 0 + t.size ≤ 100; omega⟩, ?_⟩))
  with_reducible refine go_seq ?_
  with_reducible refine go_set ?_
  refine ev_lcA sp3D (fun q => q.2.1.isB) (fun q => .int (q.1 : Int)) (ei_list (ev_var rfl ⟨_, rfl, spT t [] 0, rfl, sz_small (by omega), fun q hq => ⟨_, tgt3 _ q, ?_⟩, ?_⟩))
  · exact et_test (ev_op (ev_op (ev_var rfl (ev_int (ov_tag (ev_str (ov_eqS ⟨_, rfl, tag_B _, rfl, fun _ => ev_var rfl ⟨rfl, rfl⟩⟩)))))))
  rw [show ((spT t [] 0).filter fun q => q.2.1.isB).map (fun q => PyData.int (q.1 : Int)) = natL t.nodes by rw [hS]; exact numb_nodes _ _ _]
  with_reducible refine go_seq ?_
  with_reducible refine go_set ?_
  refine ev_disp (ep_cons (ev_str ?_))
  refine ev_lcA sp3D (fun q => q.2.1.isB) (fun q => .str q.2.1.name) (ei_list (ev_var rfl ⟨_, rfl, spT t [] 0, rfl, sz_small (by omega), fun q hq => ⟨_, tgt3 _ q, ?_⟩, ?_⟩))
  · exact et_test (ev_op (ev_op (ev_var rfl (ev_int (ov_tag (ev_str (ov_eqS ⟨_, rfl, tag_B _, rfl, fun _ => ev_op (ev_var rfl (ev_int (ov_name ⟨rfl, rfl⟩)))⟩)))))))
  rw [show ((spT t [] 0).filter fun q => q.2.1.isB).map (fun q => PyData.str q.2.1.name) = t.pg.names.map PyData.str by rw [hS]; exact numb_names _ _ _]
  refine ep_cons (ev_str (ev_lstM (ea_nil ⟨[], rfl, by simp, fun pu => ?_⟩)))
  refine ep_cons (ev_str (ev_lstM (ea_nil ⟨[], rfl, by simp, fun pa => ep_nil ⟨[(.inr "names", Mo.d (strL t.pg.names)), (.inr "uses", Mo.adr pu), (.inr "around", Mo.adr pa)], rfl, by show 3 ≤ 15; omega, fun p => ?_⟩⟩)))
  rw [merge3]
  with_reducible refine go_seq ?_
  refine go_dset2 (i := 6) (ev_tup (ea_cons ?_))
  refine ev_lcB sp3D (fun q => .list (natL (q.2.2.map fun x => t.nodes.idxOf x))) (ei_list (ev_var rfl ⟨_, rfl, spT t [] 0, rfl, sz_small (by omega), fun q hq => ⟨_, tgt3 _ q, ?_⟩, ?_⟩))
  · obtain ⟨i, hi, e⟩ := List.mem_iff_getElem.mp hq
    obtain ⟨nd, h1, h2⟩ := hitem i q (by rw [List.getElem?_eq_getElem hi, e])
    obtain ⟨h3, h4⟩ := fl0_ar (List.mem_of_getElem? h1)
    have hm := within_mem h3
    refine ev_lcB (fun (x : Nat) => PyData.int (x : Int)) (fun x => .int ((t.nodes.idxOf x : Nat) : Int)) (ei_list (ev_var rfl ⟨_, rfl, q.2.2, rfl, sz_small ?_, fun x hx => ⟨_, tgt_name (by simp), ?_⟩, ?_⟩))
    · rw [h2]
      show (nd.2.map _).length ≤ _
      rw [List.length_map]
      omega
    · refine ev_indexN (ev_var rfl ⟨t.nodes, rfl, ea_cons (ev_var rfl (ea_nil ⟨x, rfl, ?_, rfl, rfl⟩))⟩)
      rw [h2] at hx
      exact hm x hx
    · refine ⟨?_, rfl⟩
      unfold natL
      rw [List.map_map] <;> rfl
  refine ea_cons (ev_var rfl (ea_nil ⟨[allD t, .list (natL t.nodes)], rfl, sz10 (by show 2 ≤ 10; omega), allD t, .list (natL t.nodes), p, 2, _, rfl, rfl, rfl, ?_, ?_⟩))
  · show 3 + 1 < sizeLine
    exact sz_lt (by omega)
  rw [put1, put2]
  with_reducible refine go_seq ?_
  refine go_for (vs := [3, 4, 5]) (ei_list (ev_var rfl ⟨_, rfl, ?_⟩))
  refine loopA sp3D (spT t [] 0) (fun k ρ M => M = [(pu, Mu.dl ((uss (t.fl0.take k)).map (useRow t.pg))), (pa, Mu.dl ((bnd (t.fl0.take k)).map fun b => .list (natL b.2))), (p, Mu.dk (pageKvs (Mo.d (strL t.pg.names)) (Mo.adr pu) (Mo.adr pa) (Mo.d (allD t)) (Mo.d (.list (natL t.nodes)))))] ∧
    ∃ x3 x4 x5 x7 x8 x9 x10, ρ = [some (Mo.d t.en), some (Mo.d (.list ((spT t [] 0).map sp3D))), some (Mo.d (.list (natL t.nodes))), x3, x4, x5, some (Mo.adr p), x7, x8, x9, x10]) ⟨rfl, _, _, _, _, _, _, _, rfl⟩ ?_ ?_
  · rintro k q ρ1 M1 hk ⟨rfl, x3, x4, x5, x7, x8, x9, x10, rfl⟩
    obtain ⟨nd, h1, rfl⟩ := hitem k q hk
    obtain ⟨h3, h4⟩ := fl0_ar (List.mem_of_getElem? h1)
    have hm := within_mem h3
    have hkl := (List.getElem?_eq_some_iff.mp h1).1
    have hul : (uss (t.fl0.take k)).length ≤ t.size := by
      unfold uss
      rw [List.length_map]
      have := List.length_filter_le (fun p : Nd => p.1.isU) (t.fl0.take k)
      rw [List.length_take] at this
      omega
    have hbl : (bnd (t.fl0.take k)).length ≤ t.size := by
      unfold bnd
      rw [List.length_map]
      have := List.length_filter_le (fun p : Nd => p.1.isB) (t.fl0.take k)
      rw [List.length_take] at this
      omega
    refine ⟨_, tgt3 _ _, fun A N hA hN => ?_⟩
    with_reducible refine go_seq ?_
    with_reducible refine go_set ?_
    refine ev_lcB (fun (x : Nat) => PyData.int (x : Int)) (fun x => .int ((t.nodes.idxOf x : Nat) : Int)) (ei_list (ev_var rfl ⟨_, rfl, nd.2.map (fun j => t.nodes.getD j 0), rfl, sz_small (by rw [List.length_map]; omega), fun x hx => ⟨_, tgt_name (by simp), ?_⟩, ?_⟩))
    · exact ev_indexN (ev_var rfl ⟨t.nodes, rfl, ea_cons (ev_var rfl (ea_nil ⟨x, rfl, hm x hx, rfl, rfl⟩))⟩)
    rw [show (nd.2.map (fun j => t.nodes.getD j 0)).map (fun x => PyData.int ((t.nodes.idxOf x : Nat) : Int)) = natL nd.2 by
      have := congrArg natL (within_eq h3)
      rw [← this]
      unfold natL
      rw [List.map_map, List.map_map, List.map_map] <;> rfl]
    with_reducible refine go_seq ?_
    refine go_join (t := tIfS _ _ _) (fun ρ M => M = [(pu, Mu.dl ((uss (t.fl0.take k)).map (useRow t.pg))), (pa, Mu.dl ((bnd (t.fl0.take (k + 1))).map fun b => .list (natL b.2))), (p, Mu.dk (pageKvs (Mo.d (strL t.pg.names)) (Mo.adr pu) (Mo.adr pa) (Mo.d (allD t)) (Mo.d (.list (natL t.nodes)))))] ∧
      ∃ x3 x5 x8 x9 x10, ρ = [some (Mo.d t.en), some (Mo.d (.list ((spT t [] 0).map sp3D))), some (Mo.d (.list (natL t.nodes))), x3, some (Mo.d nd.1.en), x5, some (Mo.adr p), some (Mo.d (.list (natL nd.2))), x8, x9, x10]) (fun N2 hN2 => ?_) ?_
    · refine go_if (et_test (ev_op (ev_op (ev_var rfl (ev_int (ov_tag (ev_str (ov_eqS ⟨_, rfl, ?_⟩))))))))
      rw [tag_B]
      have hbt : bnd (t.fl0.take (k + 1)) = bnd (t.fl0.take k) ++ bnd [nd] := by rw [take_succ' h1, bnd_app]
      cases hB : nd.1.isB with
      | true =>
        refine iteT (go_drop (ev_append (ev_dgetM (ev_var rfl ⟨p, rfl, ev_str ⟨2, _, .inr "around", Mo.adr pa, rfl, rfl, rfl, pa, rfl, ⟨1, _, rfl⟩, ea_cons (ev_var rfl (ea_nil ⟨.list (natL nd.2), 1, _, rfl, rfl, sz_lt (by rw [List.length_map]; omega), ?_⟩))⟩⟩))))
        refine hN2 _ _ ⟨?_, _, _, _, _, _, rfl⟩
        rw [hbt, show bnd [nd] = [(nd.1.name, nd.2)] by unfold bnd; rw [List.filter_cons, if_pos hB] <;> rfl, List.map_append] <;> rfl
      | false =>
        refine iteF (hN2 _ _ ⟨?_, _, _, _, _, _, rfl⟩)
        rw [hbt, show bnd [nd] = [] by unfold bnd; rw [List.filter_cons, if_neg (by rw [hB]; exact Bool.false_ne_true)] <;> rfl, List.append_nil]
    rintro ρ2 M2 ⟨rfl, y3, y5, y8, y9, y10, rfl⟩
    have hut : uss (t.fl0.take (k + 1)) = uss (t.fl0.take k) ++ uss [nd] := by rw [take_succ' h1, uss_app]
    refine go_if (et_test (ev_op (ev_op (ev_var rfl (ev_int (ov_tag (ev_str (ov_eqS ⟨_, rfl, ?_⟩))))))))
    rw [tag_U]
    cases hU : nd.1.isU with
    | false =>
      refine iteF (hN _ _ ⟨?_, _, _, _, _, _, _, _, rfl⟩)
      rw [hut, show uss [nd] = [] by unfold uss; rw [List.filter_cons, if_neg (by rw [hU]; exact Bool.false_ne_true)] <;> rfl, List.append_nil]
    | true =>
      refine iteT ?_
      with_reducible refine go_seq ?_
      with_reducible refine go_set ?_
      refine ev_lcA (fun (m : Nat) => PyData.int (m : Int)) (fun m => decide (t.pg.names.getD m "" = nd.1.name)) (fun (m : Nat) => PyData.int (m : Int)) (ei_list (ev_var rfl ⟨_, rfl, nd.2, rfl, sz_small (by omega), fun m hmm => ⟨_, tgt_name (by simp), ?_⟩, ?_⟩))
      · exact et_test (ev_op (ev_op (ev_dgetM (ev_var rfl ⟨p, rfl, ev_str ⟨2, _, .inr "names", _, rfl, rfl, rfl, ev_var rfl (ov_ixL (map_getD (h3 m hmm)) (ev_op (ev_var rfl (ev_int (ov_name (ov_eqS ⟨_, rfl, rfl, rfl, fun _ => ev_var rfl ⟨rfl, rfl⟩⟩))))))⟩⟩))))
      have hmt : t.pg.meant (nd.1.name, nd.2) = match (nd.2.filter fun b => decide (t.pg.names.getD b "" = nd.1.name)).getLast? with | some b => .b b | none => .f nd.1.name := rfl
      have hfl2 : (nd.2.filter fun b => decide (t.pg.names.getD b "" = nd.1.name)).length ≤ nd.2.length := List.length_filter_le _ _
      have fin : ∀ (X : PyData), X = (t.pg.meant (nd.1.name, nd.2)).en → ∀ ρ3 : Rho, (∃ x3 x4 x5 x7 x8 x9 x10, ρ3 = [some (Mo.d t.en), some (Mo.d (.list ((spT t [] 0).map sp3D))), some (Mo.d (.list (natL t.nodes))), x3, x4, x5, some (Mo.adr p), x7, x8, x9, x10]) →
          Go (Zo.at ⟨T, [], G, H, A0⟩ A) N ρ3 [(pu, Mu.dl ((uss (t.fl0.take k)).map (useRow t.pg) ++ [.list [.str nd.1.name, .list (natL nd.2), X]])), (pa, Mu.dl ((bnd (t.fl0.take (k + 1))).map fun b => .list (natL b.2))), (p, Mu.dk (pageKvs (Mo.d (strL t.pg.names)) (Mo.adr pu) (Mo.adr pa) (Mo.d (allD t)) (Mo.d (.list (natL t.nodes)))))] := fun X hX ρ3 hρ => by
        refine hN _ _ ⟨?_, hρ⟩
        rw [hut, show uss [nd] = [(nd.1.name, nd.2)] by unfold uss; rw [List.filter_cons, if_pos hU] <;> rfl, List.map_append, hX] <;> rfl
      generalize nd.2.filter (fun b => decide (t.pg.names.getD b "" = nd.1.name)) = fs at hmt hfl2
      refine go_drop (ev_append (ev_dgetM (ev_var rfl ⟨p, rfl, ev_str ⟨2, _, .inr "uses", Mo.adr pu, rfl, rfl, rfl, pu, rfl, ⟨0, _, rfl⟩, ?_⟩⟩)))
      refine ea_cons (ev_lst (ea_cons (ev_op (ev_var rfl (ev_int (ov_name ?_))))))
      refine ea_cons (ev_var rfl (ea_cons (ev_ifE (et_test (ev_op (ev_var rfl (ev_lst (ea_nil ⟨[], rfl, by simp, ov_neD ?_ shp_nil ⟨_, rfl, ?_⟩⟩))))))))
      · exact (shp_list (m := 0) fun d hd => by obtain ⟨m, _, rfl⟩ := List.mem_map.mp hd; exact shp_int _).ok (by decide)
      rw [eqv_empty]
      cases fs with
      | nil =>
        refine iteF (ev_op (ev_var rfl (ev_int (ov_name (ea_nil ⟨[.str nd.1.name, .list (natL nd.2), .str nd.1.name], rfl, sz10 (by show 3 ≤ 10; omega), ea_nil ⟨_, 0, _, rfl, rfl, sz_lt (by rw [List.length_map]; omega), ?_⟩⟩)))))
        exact fin _ (by rw [hmt] <;> rfl) _ ⟨_, _, _, _, _, _, _, rfl⟩
      | cons b r =>
        refine iteT (ev_op (ev_var rfl (ev_un (ev_int (ov_neg (ov_ixLast (d := .int (((b :: r).getLast (by simp) : Nat) : Int)) ?_ ?_))))))
        · rw [List.getLast?_map, List.getLast?_eq_getLast (by simp)] <;> rfl
        refine ea_nil ⟨[.str nd.1.name, .list (natL nd.2), .int (((b :: r).getLast (by simp) : Nat) : Int)], rfl, sz10 (by show 3 ≤ 10; omega), ea_nil ⟨_, 0, _, rfl, rfl, sz_lt (by rw [List.length_map]; omega), ?_⟩⟩
        exact fin _ (by rw [hmt, List.getLast?_eq_getLast (by simp)] <;> rfl) _ ⟨_, _, _, _, _, _, _, rfl⟩
  · rintro ρ1 M1 ⟨rfl, x3, x4, x5, x7, x8, x9, x10, rfl⟩
    rw [hSl, List.take_of_length_le (by omega)]
    refine go_ret (ev_var rfl (go_fin fin_page ?_))
    have e : (bnd t.fl0).map (fun b => PyData.list (natL b.2)) = t.pg.ars.map fun a => .list (natL a) := by
      show _ = ((bnd t.fl0).map (·.2)).map _
      rw [List.map_map] <;> rfl
    rw [e]
    exact kQ _
end Lv
/-! #### L7 -/
namespace Lv
open PySem L2 StX PyProof.Rows
local macro_rules | `(tactic| walk_at "lv1") => `(tactic| first
  | with_reducible refine go_seq ?_
  | with_reducible refine go_set ?_
  | with_reducible refine go_ret ?_
  | with_reducible refine go_drop ?_
  | with_reducible refine go_if ?_
  | with_reducible refine ev_op ?_
  | with_reducible refine ev_cb ?_
  | with_reducible refine ea_cons ?_
  | with_reducible refine ea_nil ?_
  | refine ev_var rfl ?_
  | with_reducible refine ev_int ?_
  | with_reducible refine ev_str ?_
  | with_reducible refine ev_bl ?_
  | with_reducible refine ev_ty ?_
  | with_reducible refine ev_non ?_
  | with_reducible refine ev_cls ?_
  | with_reducible refine ev_un ?_
  | with_reducible refine ev_fld ?_
  | with_reducible refine ev_andV ?_
  | with_reducible refine ev_notV ?_
  | with_reducible refine ev_ifE ?_
  | with_reducible refine ev_chain ?_
  | with_reducible refine et_test ?_
  | with_reducible refine et_B ?_
  | with_reducible refine et_and ?_
  | with_reducible refine et_or ?_
  | with_reducible refine et_not ?_
  | with_reducible refine et_yes ?_
  | with_reducible refine ov_add ?_
  | with_reducible refine ov_sub ?_
  | with_reducible refine ov_lt ?_
  | with_reducible refine ov_le ?_
  | with_reducible refine ov_gt ?_
  | with_reducible refine ov_ge ?_
  | with_reducible refine ov_neg ?_
  | with_reducible refine ov_eqI ?_
  | with_reducible refine ov_neI ?_
  | with_reducible refine ov_eqS ?_
  | with_reducible refine ov_inSg ?_
  | with_reducible refine ov_inS ?_
  | with_reducible refine ov_inI ?_
  | with_reducible refine cv_lenL ?_
  | with_reducible refine cv_lenT ?_
  | with_reducible refine cv_max2 ?_
  | with_reducible refine cv_min2 ?_
  | with_reducible refine cv_intI ?_
  | with_reducible refine cv_intB ?_
  | with_reducible refine cv_tuple ?_
  | with_reducible refine cv_list (.inl rfl) ?_
  | with_reducible refine cv_list (.inr rfl) ?_
  | refine ov_ixT (n := 0) rfl ?_
  | refine ov_ixT (n := 1) rfl ?_
  | refine ov_ixT (n := 2) rfl ?_
  | refine ov_ixT (n := 3) rfl ?_
  | refine ov_ixL (n := 0) rfl ?_
  | refine ov_ixL (n := 1) rfl ?_
  | refine ov_ixL (n := 2) rfl ?_
  | refine iteT ?_
  | refine iteF ?_
  | with_reducible refine iteN (b := !true) rfl ?_
  | with_reducible refine iteP (b := !false) rfl ?_
  | with_reducible refine go_next ?_
  | refine ⟨_, rfl, ?_⟩)
local macro_rules | `(tactic| walk_at "lv") => `(tactic| repeat walk_at "lv1")
variable {P : Program} {w : World} {K : PySem.W.Frag} {mg : Str → Option Value} {base : Heap} {T : Tb}
/-! ### list of a text -/
def rListS : List V → Hp → VK → Prop := fun xs H Q => ∃ x : Str, xs = [.str x] ∧ x.cps.size ≤ sizeLine ∧ ∀ l, H l = none → Q (.ref l) (upd H l (.lst (x.cps.toList.map fun c => .str ⟨#[c]⟩)))
theorem vals_pt : ∀ {vs : List V} {us : List Value}, vs.length = us.length → (∀ (j : Nat) (v : V) (u : Value), vs[j]? = some v → us[j]? = some u → RelV v u) → Vals vs us
  | [], [], _, _ => .nil
  | [], _ :: _, h, _ => by cases h
  | _ :: _, [], h, _ => by cases h
  | v :: vs, u :: us, h, k => .cons (k 0 v u rfl rfl) (vals_pt (Nat.succ.inj h) fun j v u h1 h2 => k (j + 1) v u h1 h2)
theorem vals_signs {x : Str} {acc : Array Value} (h : ItemsOf (SignAt x) acc x.cps.size) : Vals (x.cps.toList.map fun c => V.str ⟨#[c]⟩) acc.toList := by
  obtain ⟨h1, h2⟩ := h
  refine vals_pt (by rw [List.length_map, Array.length_toList, Array.length_toList, h1]) fun j v u hv hu => ?_
  obtain ⟨c, t, hc, rfl⟩ := h2 j u (by rw [← hu, Array.getElem?_toList])
  rw [List.getElem?_map, Array.getElem?_toList, hc] at hv
  rw [← Option.some.inj hv]
  exact ⟨t, rfl⟩
theorem c_listS {X : Cx} (hc : X.calm = true) : CallR X (.type "list") rListS := by
  intro pins s σ H xs us Q I r h
  obtain ⟨x, rfl, hz, q⟩ := h
  obtain ⟨u, rfl, rx⟩ := vals1 r
  obtain ⟨t, rfl⟩ : ∃ t, u = .str x t := rx
  refine call_list_str (I.ok.hd hc) x t (fun h' tk acc c' kp e hi => ?_) hz
  have hv := vals_signs hi
  refine ⟨.ref s.heap.objs.size, _, I.laid (t' := tk) kp (Nat.le_refl _) (show ObjOk X.prog X.w _ h' _ (.lst (x.cps.toList.map fun c => V.str ⟨#[c]⟩)) from ⟨by rw [List.length_map, Array.length_toList]; exact hz, acc.toList, c', hv, e⟩), rfl, q _ (I.hok.fresh (Nat.le_refl _))⟩
theorem cv_listS {M : Mus} {Kk : Ks} {x : Str} (hz : x.cps.size ≤ sizeLine) (k : Kk (Mo.d (.list (signs x))) M) : CbV T rListS [Mo.d (.str x)] M Kk := fun xs G H p s Q q => by
  obtain ⟨y, rfl, hy⟩ := one p
  rw [rep_str hy]
  refine ⟨x, rfl, hz, fun l hl => q _ _ M _ _ k (Rep.lst upd_same ?_) (Po.laid s hl)⟩
  have : ∀ (cs : List Nat) (G : Hp), RepL G (cs.map fun c => V.str ⟨#[c]⟩) (cs.map fun c => PyData.str ⟨#[c]⟩) := fun cs G => by
    induction cs with
    | nil => exact .nil
    | cons c r ih => exact .cons (.str _) ih
  exact this _ _
/-! ### free, inside, live -/
def Lv1.isTxt : Lv1 → Bool
  | .b _ => false
  | .f _ => true
theorem cv_isTxt {M : Mus} {Kk : Ks} {K0 : PySem.W.Frag} {m : Lv1} (k : Kk (Mo.d (.bool m.isTxt)) M) : CbV T (rIsi K0) [Mo.d m.en, Mo.ty "str"] M Kk := by
  cases m with
  | b i => exact cv_isi (b := false) "int" rfl (by decide +kernel) k
  | f x => exact cv_isi (b := true) "str" rfl (by decide +kernel) k
theorem txts_of (p : Pg) (us : List (Str × List Nat)) : ((us.filter fun u => (p.meant u).isTxt).map fun u => (p.meant u).en) = (txtsL (us.map p.meant)).map PyData.str := by
  induction us with
  | nil => rfl
  | cons u r ih =>
    rw [List.filter_cons, List.map_cons]
    cases h : p.meant u with
    | b i =>
      rw [if_neg (by intro z; cases z), ih] <;> rfl
    | f x =>
      rw [if_pos (show (Lv1.f x).isTxt = true from rfl), List.map_cons, ih, h] <;> rfl
def freeRaw (p : Pg) : List Str := txtsL (p.uses.map p.meant)
theorem free_nm {t : Tr} (h : GoodT t) {us : List (Str × List Nat)} (hs : ∀ u ∈ us, u ∈ t.pg.uses) : ∀ x ∈ txtsL (us.map t.pg.meant), nmB x = true := fun x hx => by
  obtain ⟨m, hm, e⟩ := List.mem_filterMap.mp hx
  obtain ⟨u, hu, rfl⟩ := List.mem_map.mp hm
  cases hq : t.pg.meant u with
  | b i => rw [hq] at e; cases e
  | f y =>
    rw [hq] at e
    cases e
    have : x = u.1 := by
      unfold Pg.meant at hq
      split at hq
      · cases hq
      · cases hq; rfl
    rw [this]
    exact h.2 u (hs u hu)
theorem txts_len (p : Pg) (us : List (Str × List Nat)) : (txtsL (us.map p.meant)).length ≤ us.length := by
  have := txtsL_len (us.map p.meant)
  rw [List.length_map] at this
  exact this
theorem uses30 {t : Tr} (h : GoodT t) : t.pg.uses.length ≤ 30 := Nat.le_trans t.pg_uses h.1
abbrev spFree (T : Tb) : Sp := SpP T Tr (fun t => [pageV t]) GoodT (fun t => Mo.d (strL (ordS (freeRaw t.pg))))
-- slots of _law_free: 0 _law_page_here, 1 _law_use
theorem sc__law_free : FnScope ["_law_page_here", "_law_use"] ["_law_page_here"] (defScope s__law_free) := ⟨rfl, rfl, rfl, by decide +kernel, rfl, by decide +kernel, by decide +kernel⟩
theorem ok_free (c : Fc K mg) (C__law_in_order : Cal P w K mg base 5 "_law_in_order" ["_law_some"] (spOrdered T)) : Cal P w K mg base 6 "_law_free" ["_law_page_here"] (spFree T) := by
  obtain ⟨fd, F⟩ := c.f__law_free
  refine fn_mk F c.g__law_free (fn_okP F sc__law_free (fun _ => rfl) (by decide) fun t ht cdv Ar outer s Hs Ex hr => ⟨_, (pss_one (ps_ret (pe_fn C__law_in_order (hr.mono (by omega)) (pa_cons (pe_lc (own := [("_law_use", 1)]) rfl sc__law_free.nd (pi_listB (K0 := K) (pe_dget (hu_of hr) (pv 0) pe_str (fun _ _ => rfl))) (blkOk_by (N := ["_law_page_here", "_law_use"]) (sc := defScope s__law_free) (by decide +kernel)) (fun _ _ _ _ _ => (tn 1 sc__law_free.nd)) (fun _ _ _ _ _ => (pts_one (pt_val (pe_callB (call_isiB (K0 := K)) rfl c.b_isinstance boot_isinstance (pa_cons (pe_ix (ix_seqB (K0 := K)) (pv 1) pe_int (fun _ _ => rfl)) (pa_cons (bl_ty boot_str c.b_str) pa_nil)))))) (fun _ _ _ _ _ => (pe_ix (ix_seqB (K0 := K)) (pv 1) pe_int (fun _ _ => rfl)))) pa_nil)))), fun G H A0 Q kQ => ?_⟩) (fun _ _ _ _ _ _ us hl => match us, hl with | [_], _ => rfl)
  have hu := uses30 ht
  have hl := txts_len t.pg t.pg.uses
  refine go_ret (ev_callP (ea_cons (ev_lcA (useRow t.pg) (fun u => (t.pg.meant u).isTxt) (fun u => (t.pg.meant u).en) (ei_list (ev_dget (ev_var rfl ⟨_, rfl, ev_str ⟨.inr "uses", _, rfl, rfl, _, rfl, t.pg.uses, rfl, sz_small (by omega), fun u hu => ⟨_, tgt_name (by simp), ?_⟩, ?_⟩⟩))))))
  · exact et_test (ev_cb (ea_cons (ev_op (ev_var rfl (ev_int (ov_ixL (n := 2) rfl (ea_cons (ev_ty (ea_nil (cv_isTxt ⟨_, rfl, rfl, rfl, fun _ => ev_op (ev_var rfl (ev_int (ov_ixL (n := 2) rfl ⟨rfl, rfl⟩)))⟩))))))))))
  · rw [txts_of]
    refine ea_nil ⟨freeRaw t.pg, rfl, ⟨by unfold freeRaw; omega, free_nm ht fun u hu => hu⟩, ?_⟩
    exact kQ _
theorem ov_inN {M : Mus} {Kk : Ks} {K0 : PySem.W.Frag} {b : Bool} {x : Nat} {ss : List Nat} (k : Kk (Mo.d (.bool (if b = true then !decide (x ∈ ss) else decide (x ∈ ss)))) M) : OpV T (rIn K0 b) (Mo.d (.int (x : Int))) (Mo.d (.list (natL ss))) M Kk := by
  rw [natL_int]
  refine ov_inI ?_
  have h2 : ((x : Int) ∈ ss.map fun (n : Nat) => (n : Int)) ↔ x ∈ ss := by
    rw [List.mem_map]
    exact ⟨fun ⟨y, h1, h2⟩ => by rw [← Int.ofNat.inj h2]; exact h1, fun h => ⟨x, h, rfl⟩⟩
  rw [decide_eq_decide.mpr h2]
  exact k
abbrev spInside (T : Tb) : Sp := SpP T (Tr × Nat × Nat) (fun a => [pageV a.1, Mo.d (.int (a.2.1 : Int)), Mo.d (.int (a.2.2 : Int))]) (fun a => a.2.2 < a.1.pg.nb) (fun a => Mo.d (.bool (decide (a.2.1 ∈ a.1.pg.ars.getD a.2.2 []))))
-- slots of _law_inside: 0 _law_page_here, 1 _law_outer, 2 _law_core
theorem sc__law_inside : FnScope ["_law_page_here", "_law_outer", "_law_core"] ["_law_page_here", "_law_outer", "_law_core"] (defScope s__law_inside) := ⟨rfl, rfl, rfl, by decide +kernel, rfl, by decide +kernel, by decide +kernel⟩
theorem ok_inside (c : Fc K mg) : Cal P w K mg base 1 "_law_inside" ["_law_page_here", "_law_outer", "_law_core"] (spInside T) := by
  obtain ⟨fd, F⟩ := c.f__law_inside
  refine fn_mk F c.g__law_inside (fn_okP F sc__law_inside (fun _ => rfl) (by decide) fun a ha cdv Ar outer s Hs Ex hr => ⟨_, (pss_one (ps_ret (pe_cmpR (op_in_seqB (K0 := K)) (pv 1) (pe_ix (ix_seqB (K0 := K)) (pe_dget (hu_of hr) (pv 0) pe_str (fun _ _ => rfl)) (pv 2) (fun _ _ => rfl)) rfl))), fun G H A0 Q kQ => ?_⟩) (fun _ _ _ _ _ _ us hl => match us, hl with | [_, _, _], _ => rfl)
  obtain ⟨t, x, b⟩ := a
  have hb : b < t.pg.ars.length := by rw [t.pg_ok.len]; exact ha
  refine go_ret (ev_op (ev_var rfl (ev_op (ev_dget (ev_var rfl ⟨_, rfl, ev_str ⟨.inr "around", _, rfl, rfl, ev_var rfl (ov_ixL (map_getD (d := []) hb) (ov_inN ?_))⟩⟩)))))
  rw [if_neg Bool.false_ne_true]
  exact kQ _
end Lv
/-! #### L8 -/
namespace Lv
open PySem L2 StX PyProof.Rows
local macro_rules | `(tactic| walk_at "lv1") => `(tactic| first
  | with_reducible refine go_seq ?_
  | with_reducible refine go_set ?_
  | with_reducible refine go_ret ?_
  | with_reducible refine go_drop ?_
  | with_reducible refine go_if ?_
  | with_reducible refine ev_op ?_
  | with_reducible refine ev_cb ?_
  | with_reducible refine ea_cons ?_
  | with_reducible refine ea_nil ?_
  | refine ev_var rfl ?_
  | with_reducible refine ev_int ?_
  | with_reducible refine ev_str ?_
  | with_reducible refine ev_bl ?_
  | with_reducible refine ev_ty ?_
  | with_reducible refine ev_non ?_
  | with_reducible refine ev_cls ?_
  | with_reducible refine ev_un ?_
  | with_reducible refine ev_fld ?_
  | with_reducible refine ev_andV ?_
  | with_reducible refine ev_notV ?_
  | with_reducible refine ev_ifE ?_
  | with_reducible refine ev_chain ?_
  | with_reducible refine et_test ?_
  | with_reducible refine et_B ?_
  | with_reducible refine et_and ?_
  | with_reducible refine et_or ?_
  | with_reducible refine et_not ?_
  | with_reducible refine et_yes ?_
  | with_reducible refine ov_add ?_
  | with_reducible refine ov_sub ?_
  | with_reducible refine ov_lt ?_
  | with_reducible refine ov_le ?_
  | with_reducible refine ov_gt ?_
  | with_reducible refine ov_ge ?_
  | with_reducible refine ov_neg ?_
  | with_reducible refine ov_eqI ?_
  | with_reducible refine ov_neI ?_
  | with_reducible refine ov_eqS ?_
  | with_reducible refine ov_inSg ?_
  | with_reducible refine ov_inS ?_
  | with_reducible refine ov_inI ?_
  | with_reducible refine cv_lenL ?_
  | with_reducible refine cv_lenT ?_
  | with_reducible refine cv_max2 ?_
  | with_reducible refine cv_min2 ?_
  | with_reducible refine cv_intI ?_
  | with_reducible refine cv_intB ?_
  | with_reducible refine cv_tuple ?_
  | with_reducible refine cv_list (.inl rfl) ?_
  | with_reducible refine cv_list (.inr rfl) ?_
  | refine ov_ixT (n := 0) rfl ?_
  | refine ov_ixT (n := 1) rfl ?_
  | refine ov_ixT (n := 2) rfl ?_
  | refine ov_ixT (n := 3) rfl ?_
  | refine ov_ixL (n := 0) rfl ?_
  | refine ov_ixL (n := 1) rfl ?_
  | refine ov_ixL (n := 2) rfl ?_
  | refine iteT ?_
  | refine iteF ?_
  | with_reducible refine iteN (b := !true) rfl ?_
  | with_reducible refine iteP (b := !false) rfl ?_
  | with_reducible refine go_next ?_
  | refine ⟨_, rfl, ?_⟩)
local macro_rules | `(tactic| walk_at "lv") => `(tactic| repeat walk_at "lv1")
variable {P : Program} {w : World} {K : PySem.W.Frag} {mg : Str → Option Value} {base : Heap} {T : Tb}
/-! ### the law's own live lists are the program's -/
def Pg.nearW (p : Pg) (b : Nat) : List (Str × List Nat) := p.uses.filter fun u => decide (b ∈ u.2)
def Pg.outQ (p : Pg) (b : Nat) (u : Str × List Nat) : Bool := match p.meant u with
  | .b m => decide (m ∈ p.ars.getD b [])
  | .f _ => false
def numL (p : Pg) (us : List (Str × List Nat)) : List Nat := us.filterMap fun u => (p.meant u).num
theorem outs_of (p : Pg) (b : Nat) (us : List (Str × List Nat)) : ((us.filter (p.outQ b)).map fun u => (p.meant u).en) = natL (numL p (us.filter (p.outQ b))) := by
  induction us with
  | nil => rfl
  | cons u r ih =>
    rw [List.filter_cons]
    split
    · rename_i h
      unfold Pg.outQ at h
      unfold numL
      rw [List.map_cons, ih, List.filterMap_cons]
      cases hm : p.meant u with
      | b i => rfl
      | f x => rw [hm] at h; cases h
    · exact ih
theorem Pg.Ok.near_b {p : Pg} (o : p.Ok) {b : Nat} : ∀ u ∈ p.uses, b ∈ u.2 → ∀ m, p.meant u = .b m → (m ∈ p.ars.getD b [] ↔ m < b) := fun u hu hb m hm => by
  have ch := o.use u hu
  have h1 := (Pg.meant_mem hm).1
  have h2 := ch.inn b hb m
  exact ⟨fun h => (h2.mp h).2, fun h => h2.mpr ⟨h1, h⟩⟩
theorem near_nums {p : Pg} (o : p.Ok) (b : Nat) : ∀ us : List (Str × List Nat), (∀ u ∈ us, u ∈ p.uses) → numsL (p.nearU us b) = numL p ((us.filter fun u => decide (b ∈ u.2)).filter (p.outQ b))
  | [], _ => rfl
  | u :: r, h => by
    have ih := near_nums o b r fun v hv => h v (List.mem_cons_of_mem _ hv)
    have hu := h u (by simp)
    unfold Pg.nearU at ih ⊢
    rw [List.filter_cons, List.filter_cons]
    cases hm : p.meant u with
    | f x =>
      have e : ((p.meant u).num) = none := by rw [hm] <;> rfl
      by_cases hb : b ∈ u.2
      · have hb2 : b ∈ innerOf u.2 (p.meant u) := by rw [hm]; exact hb
        have hq : ¬ p.outQ b u = true := by unfold Pg.outQ; rw [hm]; exact Bool.false_ne_true
        rw [hm] at hb2
        rw [if_pos (decide_eq_true hb2), if_pos (decide_eq_true hb), List.filter_cons, if_neg hq, List.map_cons]
        unfold numsL
        rw [List.filterMap_cons, e]
        exact ih
      · rw [if_neg (fun z => hb (of_decide_eq_true z))]
        have hb2 : ¬ b ∈ innerOf u.2 (Lv1.f x) := hb
        rw [if_neg (fun z => hb2 (of_decide_eq_true z))]
        exact ih
    | b m =>
      have e : ((p.meant u).num) = some m := by rw [hm] <;> rfl
      have hi : b ∈ innerOf u.2 (.b m) ↔ b ∈ u.2 ∧ m < b := by
        show b ∈ List.filter _ _ ↔ _
        rw [List.mem_filter, decide_eq_true_eq]
      by_cases hb : b ∈ u.2
      · have hk := o.near_b u hu hb m hm
        rw [if_pos (decide_eq_true hb), List.filter_cons]
        by_cases hlt : m < b
        · rw [if_pos (decide_eq_true (hi.mpr ⟨hb, hlt⟩)), if_pos (by unfold Pg.outQ; rw [hm]; exact decide_eq_true (hk.mpr hlt)), List.map_cons]
          unfold numsL numL
          rw [List.filterMap_cons, List.filterMap_cons, e]
          exact congrArg (m :: ·) ih
        · rw [if_neg (fun z => hlt (hi.mp (of_decide_eq_true z)).2), if_neg (by unfold Pg.outQ; rw [hm]; exact fun z => hlt (hk.mp (of_decide_eq_true z)))]
          exact ih
      · rw [if_neg (fun z => hb (of_decide_eq_true z)), if_neg (fun z => hb (hi.mp (of_decide_eq_true z)).1)]
        exact ih
theorem near_txts {p : Pg} (b : Nat) : ∀ us : List (Str × List Nat), txtsL (p.nearU us b) = txtsL ((us.filter fun u => decide (b ∈ u.2)).map p.meant)
  | [] => rfl
  | u :: r => by
    have ih := near_txts (p := p) b r
    unfold Pg.nearU at ih ⊢
    rw [List.filter_cons, List.filter_cons]
    cases hm : p.meant u with
    | f x =>
      by_cases hb : b ∈ u.2
      · have hb2 : b ∈ innerOf u.2 (Lv1.f x) := hb
        rw [if_pos (decide_eq_true hb), if_pos (decide_eq_true hb2), List.map_cons, List.map_cons]
        unfold txtsL
        rw [List.filterMap_cons, List.filterMap_cons, hm]
        exact congrArg (x :: ·) ih
      · have hb2 : ¬ b ∈ innerOf u.2 (Lv1.f x) := hb
        rw [if_neg (fun z => hb (of_decide_eq_true z)), if_neg (fun z => hb2 (of_decide_eq_true z))]
        exact ih
    | b m =>
      have e : ((p.meant u).txt) = none := by rw [hm] <;> rfl
      have drop : ∀ ms : List Lv1, txtsL (p.meant u :: ms) = txtsL ms := fun ms => by
        unfold txtsL
        rw [List.filterMap_cons, e]
      by_cases h1 : b ∈ u.2
      · rw [if_pos (decide_eq_true h1), List.map_cons, drop]
        split
        · rw [List.map_cons, drop]; exact ih
        · exact ih
      · have hb2 : ¬ b ∈ innerOf u.2 (Lv1.b m) := fun z => h1 (inner_sub z)
        rw [if_neg (fun z => h1 (of_decide_eq_true z)), if_neg (fun z => hb2 (of_decide_eq_true z))]
        exact ih
theorem num_inj : ∀ x y b, Lv1.num x = some b → Lv1.num y = some b → x = y := fun x y b h1 h2 => by
  cases x with
  | b i => cases y with
    | b j => cases h1; cases h2; rfl
    | f y => cases h2
  | f x => cases h1
theorem txt_inj : ∀ x y b, Lv1.txt x = some b → Lv1.txt y = some b → x = y := fun x y b h1 h2 => by
  cases x with
  | b i => cases h1
  | f x => cases y with
    | b j => cases h2
    | f y => cases h1; cases h2; rfl
theorem ordS_uq (ss : List Str) : ordS (uq ss) = ordS ss := by unfold ordS; rw [uq_self (uq_nodup ss)]
theorem live_eq {p : Pg} (o : p.Ok) (b : Nat) : p.live b = (sortN (uq (numL p ((p.nearW b).filter (p.outQ b))))).map .b ++ (ordS (txtsL ((p.nearW b).map p.meant))).map .f := by
  unfold Pg.live lineL
  have h1 : numsL (uq (p.near b)) = uq (numL p ((p.nearW b).filter (p.outQ b))) := by
    show (uq (p.near b)).filterMap Lv1.num = _
    rw [uq_map num_inj]
    exact congrArg uq (near_nums o b p.uses fun u h => h)
  have h2 : txtsL (uq (p.near b)) = uq (txtsL ((p.nearW b).map p.meant)) := by
    show (uq (p.near b)).filterMap Lv1.txt = _
    rw [uq_map txt_inj]
    exact congrArg uq (near_txts b p.uses)
  rw [h1, h2, ordS_uq]
abbrev spLiveL (T : Tb) : Sp := SpP T (Tr × Nat) (fun a => [pageV a.1, Mo.d (.int (a.2 : Int))]) (fun a => GoodT a.1 ∧ a.2 < a.1.pg.nb) (fun a => Mo.d (liveD (a.1.pg.live a.2)))
-- slots of _law_live: 0 _law_page_here, 1 _law_binder, 2 _law_near, 3 _law_outer, 4 _law_use
theorem sc__law_live : FnScope ["_law_page_here", "_law_binder", "_law_near", "_law_outer", "_law_use"] ["_law_page_here", "_law_binder"] (defScope s__law_live) := ⟨rfl, rfl, rfl, by decide +kernel, rfl, by decide +kernel, by decide +kernel⟩
theorem ok_live (c : Fc K mg) (C__law_in_order : Cal P w K mg base 5 "_law_in_order" ["_law_some"] (spOrdered T)) : Cal P w K mg base 6 "_law_live" ["_law_page_here", "_law_binder"] (spLiveL T) := by
  have C__law_inside : Cal P w K mg base 1 "_law_inside" ["_law_page_here", "_law_outer", "_law_core"] (spInside T) := ok_inside c
  have C__law_unlike : Cal P w K mg base 1 "_law_unlike" ["_law_things"] (spUnlikeI T) := ok_unlikeI c
  obtain ⟨fd, F⟩ := c.f__law_live
  refine fn_mk F c.g__law_live (fn_okP F sc__law_live (fun _ => rfl) (by decide) fun a ha cdv Ar outer s Hs Ex hr => ⟨_, (pss_cons (ps_setLc (i := 2) (own := [("_law_use", 4)]) rfl sc__law_live.nd rfl rfl (sw_true rfl rfl rfl (by decide +kernel)) (pi_listB (K0 := K) (pe_dget (hu_of hr) (pv 0) pe_str (fun _ _ => rfl))) (blkOk_by (N := ["_law_page_here", "_law_binder", "_law_near", "_law_outer", "_law_use"]) (sc := defScope s__law_live) (by decide +kernel)) (fun _ _ _ _ _ => (tn 4 sc__law_live.nd)) (fun _ _ _ _ _ => (pts_one (pt_cmpR (op_in_seqB (K0 := K)) (pv 1) (pe_ix (ix_seqB (K0 := K)) (pv 4) pe_int (fun _ _ => rfl)) rfl))) (fun _ _ _ _ _ => (pv 4)))
      (pss_cons (ps_setLc (i := 3) (own := [("_law_use", 4)]) rfl sc__law_live.nd rfl rfl (sw_true rfl rfl rfl (by decide +kernel)) (pi_listB (K0 := K) (pv 2)) (blkOk_by (N := ["_law_page_here", "_law_binder", "_law_near", "_law_outer", "_law_use"]) (sc := defScope s__law_live) (by decide +kernel)) (fun _ _ _ _ _ => (tn 4 sc__law_live.nd)) (fun _ _ _ _ _ => (pts_one (PW.pt (pw_and (pt_not (pt_val (pe_callB (call_isiB (K0 := K)) rfl c.b_isinstance boot_isinstance (pa_cons (pe_ix (ix_seqB (K0 := K)) (pv 4) pe_int (fun _ _ => rfl)) (pa_cons (bl_ty boot_str c.b_str) pa_nil))))) (pw_and1 (pt_val (pe_fn C__law_inside (hr.mono (by omega)) (pa_cons (pv 0) (pa_cons (pe_ix (ix_seqB (K0 := K)) (pv 4) pe_int (fun _ _ => rfl)) (pa_cons (pv 1) pa_nil)))))))))) (fun _ _ _ _ _ => (pe_ix (ix_seqB (K0 := K)) (pv 4) pe_int (fun _ _ => rfl))))
      (pss_one (ps_ret (pe_op op_cat (pe_callB cr_sortedI rfl c.b_sorted boot_sorted (pa_cons (pe_fn C__law_unlike (hr.mono (by omega)) (pa_cons (pv 3) pa_nil)) pa_nil)) (pe_fn C__law_in_order (hr.mono (by omega)) (pa_cons (pe_lc (own := [("_law_use", 4)]) rfl sc__law_live.nd (pi_listB (K0 := K) (pv 2)) (blkOk_by (N := ["_law_page_here", "_law_binder", "_law_near", "_law_outer", "_law_use"]) (sc := defScope s__law_live) (by decide +kernel)) (fun _ _ _ _ _ => (tn 4 sc__law_live.nd)) (fun _ _ _ _ _ => (pts_one (pt_val (pe_callB (call_isiB (K0 := K)) rfl c.b_isinstance boot_isinstance (pa_cons (pe_ix (ix_seqB (K0 := K)) (pv 4) pe_int (fun _ _ => rfl)) (pa_cons (bl_ty boot_str c.b_str) pa_nil)))))) (fun _ _ _ _ _ => (pe_ix (ix_seqB (K0 := K)) (pv 4) pe_int (fun _ _ => rfl)))) pa_nil))))))), fun G H A0 Q kQ => ?_⟩) (fun _ _ _ _ _ _ us hl => match us, hl with | [_, _], _ => rfl)
  obtain ⟨t, b⟩ := a
  obtain ⟨h1, h2⟩ : GoodT t ∧ b < t.pg.nb := ha
  have hu := uses30 h1
  have hn : (t.pg.nearW b).length ≤ t.pg.uses.length := List.length_filter_le _ _
  with_reducible refine go_seq ?_
  with_reducible refine go_set ?_
  refine ev_lcA (useRow t.pg) (fun u => decide (b ∈ u.2)) (useRow t.pg) (ei_list (ev_dget (ev_var rfl ⟨_, rfl, ev_str ⟨.inr "uses", _, rfl, rfl, _, rfl, t.pg.uses, rfl, sz_small (by omega), fun u hu => ⟨_, tgt_name (by simp), ?_⟩, ?_⟩⟩)))
  · refine et_test (ev_op (ev_var rfl (ev_op (ev_var rfl (ev_int (ov_ixL (n := 1) rfl (ov_inN ⟨_, rfl, ?_, rfl, fun _ => ev_var rfl ⟨rfl, rfl⟩⟩)))))))
    rw [if_neg Bool.false_ne_true]
  with_reducible refine go_seq ?_
  with_reducible refine go_set ?_
  refine ev_lcA (useRow t.pg) (t.pg.outQ b) (fun u => (t.pg.meant u).en) (ei_list (ev_var rfl ⟨_, rfl, t.pg.nearW b, rfl, sz_small (by omega), fun u hu => ⟨_, tgt_name (by simp), ?_⟩, ?_⟩))
  · refine et_and (et_not (et_test (ev_cb (ea_cons (ev_op (ev_var rfl (ev_int (ov_ixL (n := 2) rfl (ea_cons (ev_ty (ea_nil (cv_isTxt ⟨_, rfl, ?_⟩))))))))))))
    cases hm : t.pg.meant u with
    | f x => exact iteF ⟨by unfold Pg.outQ; rw [hm], rfl, fun z => by unfold Pg.outQ at z; rw [hm] at z; cases z⟩
    | b m =>
      refine iteT (et_test (ev_callP (ea_cons (ev_var rfl (ea_cons (ev_op (ev_var rfl (ev_int (ov_ixL (n := 2) (d := .int (m : Int)) (by rw [← show (t.pg.meant u).en = .int (m : Int) by rw [hm] <;> rfl] <;> rfl) (ea_cons (ev_var rfl (ea_nil ⟨(t, m, b), rfl, h2, _, rfl, ?_, rfl, fun _ => ev_op (ev_var rfl (ev_int (ov_ixL (n := 2) rfl ⟨?_, rfl⟩)))⟩))))))))))))
      · unfold Pg.outQ; rw [hm]
      · rw [hm]
  rw [outs_of]
  have l1 : (numL t.pg ((t.pg.nearW b).filter (t.pg.outQ b))).length ≤ 30 := by
    have a1 := List.length_filterMap_le (fun u => (t.pg.meant u).num) ((t.pg.nearW b).filter (t.pg.outQ b))
    have a2 := List.length_filter_le (t.pg.outQ b) (t.pg.nearW b)
    unfold numL
    omega
  have l2 := txts_len t.pg (t.pg.nearW b)
  have hpre : (numL t.pg ((t.pg.nearW b).filter (t.pg.outQ b))).length ≤ 1000 := by omega
  refine go_ret (ev_op (ev_cb (ea_cons (ev_callP (ea_cons (ev_var rfl (ea_nil ⟨numL t.pg ((t.pg.nearW b).filter (t.pg.outQ b)), rfl, hpre, ea_nil ?_⟩)))))))
  rw [natL_int]
  refine cv_sortI fun ns' q1 q2 => ?_
  refine ev_callP (ea_cons (ev_lcA (useRow t.pg) (fun u => (t.pg.meant u).isTxt) (fun u => (t.pg.meant u).en) (ei_list (ev_var rfl ⟨_, rfl, t.pg.nearW b, rfl, sz_small (by omega), fun u hu => ⟨_, tgt_name (by simp), ?_⟩, ?_⟩))))
  · exact et_test (ev_cb (ea_cons (ev_op (ev_var rfl (ev_int (ov_ixL (n := 2) rfl (ea_cons (ev_ty (ea_nil (cv_isTxt ⟨_, rfl, rfl, rfl, fun _ => ev_op (ev_var rfl (ev_int (ov_ixL (n := 2) rfl ⟨rfl, rfl⟩)))⟩))))))))))
  rw [txts_of]
  refine ea_nil ⟨txtsL ((t.pg.nearW b).map t.pg.meant), rfl, ⟨by omega, free_nm h1 fun u hu => (List.mem_filter.mp hu).1⟩, ?_⟩
  have l3 := ordS_len (txtsL ((t.pg.nearW b).map t.pg.meant))
  have l4 := uq_len (numL t.pg ((t.pg.nearW b).filter (t.pg.outQ b)))
  refine ov_cat ?_ ?_
  · rw [List.length_map, List.length_map, q1.length_eq, List.length_map]
    exact sz_small (by omega)
  rw [sorted_nat q1 q2]
  have e : (liveD (t.pg.live b)) = .list (((sortN (uq (numL t.pg ((t.pg.nearW b).filter (t.pg.outQ b))))).map fun (n : Nat) => (n : Int)).map PyData.int ++ (ordS (txtsL ((t.pg.nearW b).map t.pg.meant))).map PyData.str) := by
    rw [live_eq t.pg_ok]
    unfold liveD
    rw [List.map_append, List.map_map, List.map_map, List.map_map] <;> rfl
  rw [← e]
  exact kQ _
abbrev spAllLiveL (T : Tb) : Sp := SpP T Tr (fun t => [pageV t]) GoodT (fun t => Mo.d (.list (t.pg.allLive.map liveD)))
-- slots of _law_all_live: 0 _law_page_here, 1 _law_binder
theorem sc__law_all_live : FnScope ["_law_page_here", "_law_binder"] ["_law_page_here"] (defScope s__law_all_live) := ⟨rfl, rfl, rfl, by decide +kernel, rfl, by decide +kernel, by decide +kernel⟩
theorem ok_all_liveL (c : Fc K mg) (C__law_in_order : Cal P w K mg base 5 "_law_in_order" ["_law_some"] (spOrdered T)) : Cal P w K mg base 7 "_law_all_live" ["_law_page_here"] (spAllLiveL T) := by
  have C__law_live : Cal P w K mg base 6 "_law_live" ["_law_page_here", "_law_binder"] (spLiveL T) := ok_live c C__law_in_order
  obtain ⟨fd, F⟩ := c.f__law_all_live
  refine fn_mk F c.g__law_all_live (fn_okP F sc__law_all_live (fun _ => rfl) (by decide) fun t ht cdv Ar outer s Hs Ex hr => ⟨_, (pss_one (ps_ret (pe_lc (own := [("_law_binder", 1)]) rfl sc__law_all_live.nd (pi_range1 rfl c.b_range (pa_cons (pe_callB (c_lenB (K0 := K)) rfl c.b_len boot_len (pa_cons (pe_dget (hu_of hr) (pv 0) pe_str (fun _ _ => rfl)) pa_nil)) pa_nil)) (blkOk_by (N := ["_law_page_here", "_law_binder"]) (sc := defScope s__law_all_live) (by decide +kernel)) (fun _ _ _ _ _ => (tn 1 sc__law_all_live.nd)) (fun _ _ _ _ _ => pts_nil) (fun _ _ _ _ _ => (pe_fn C__law_live (hr.mono (by omega)) (pa_cons (pv 0) (pa_cons (pv 1) pa_nil))))))), fun G H A0 Q kQ => ?_⟩) (fun _ _ _ _ _ _ us hl => match us, hl with | [_], _ => rfl)
  have hnb := nb_30 t ht
  refine go_ret (ev_lcB (fun (b : Nat) => PyData.int (b : Int)) (fun b => liveD (t.pg.live b)) (ei_range (ev_cb (ea_cons (ev_dget (ev_var rfl ⟨_, rfl, ev_str ⟨.inr "names", _, rfl, rfl, ea_nil (cv_lenL ⟨t.pg.nb, ?_, by omega, List.range t.pg.nb, rfl, ?_, fun b hb => ⟨_, tgt_name (by simp), ?_⟩, ?_⟩)⟩⟩))))))
  · rw [List.length_map] <;> rfl
  · rw [List.length_range]; exact sz_small (by omega)
  · exact ev_callP (ea_cons (ev_var rfl (ea_cons (ev_var rfl (ea_nil ⟨(t, b), rfl, ⟨ht, List.mem_range.mp hb⟩, rfl, rfl⟩)))))
  · have e : (t.pg.allLive.map liveD) = (List.range t.pg.nb).map fun b => liveD (t.pg.live b) := by unfold Pg.allLive; rw [List.map_map] <;> rfl
    rw [← e]
    exact kQ _
end Lv
/-! #### L9 -/
namespace Lv
open PySem L2 StX PyProof.Rows
local macro_rules | `(tactic| walk_at "lv1") => `(tactic| first
  | with_reducible refine go_seq ?_
  | with_reducible refine go_set ?_
  | with_reducible refine go_ret ?_
  | with_reducible refine go_drop ?_
  | with_reducible refine go_if ?_
  | with_reducible refine ev_op ?_
  | with_reducible refine ev_cb ?_
  | with_reducible refine ea_cons ?_
  | with_reducible refine ea_nil ?_
  | refine ev_var rfl ?_
  | with_reducible refine ev_int ?_
  | with_reducible refine ev_str ?_
  | with_reducible refine ev_bl ?_
  | with_reducible refine ev_ty ?_
  | with_reducible refine ev_non ?_
  | with_reducible refine ev_cls ?_
  | with_reducible refine ev_un ?_
  | with_reducible refine ev_fld ?_
  | with_reducible refine ev_andV ?_
  | with_reducible refine ev_notV ?_
  | with_reducible refine ev_ifE ?_
  | with_reducible refine ev_chain ?_
  | with_reducible refine et_test ?_
  | with_reducible refine et_B ?_
  | with_reducible refine et_and ?_
  | with_reducible refine et_or ?_
  | with_reducible refine et_not ?_
  | with_reducible refine et_yes ?_
  | with_reducible refine ov_add ?_
  | with_reducible refine ov_sub ?_
  | with_reducible refine ov_lt ?_
  | with_reducible refine ov_le ?_
  | with_reducible refine ov_gt ?_
  | with_reducible refine ov_ge ?_
  | with_reducible refine ov_neg ?_
  | with_reducible refine ov_eqI ?_
  | with_reducible refine ov_neI ?_
  | with_reducible refine ov_eqS ?_
  | with_reducible refine ov_inSg ?_
  | with_reducible refine ov_inS ?_
  | with_reducible refine ov_inI ?_
  | with_reducible refine cv_lenL ?_
  | with_reducible refine cv_lenT ?_
  | with_reducible refine cv_max2 ?_
  | with_reducible refine cv_min2 ?_
  | with_reducible refine cv_intI ?_
  | with_reducible refine cv_intB ?_
  | with_reducible refine cv_tuple ?_
  | with_reducible refine cv_list (.inl rfl) ?_
  | with_reducible refine cv_list (.inr rfl) ?_
  | refine ov_ixT (n := 0) rfl ?_
  | refine ov_ixT (n := 1) rfl ?_
  | refine ov_ixT (n := 2) rfl ?_
  | refine ov_ixT (n := 3) rfl ?_
  | refine ov_ixL (n := 0) rfl ?_
  | refine ov_ixL (n := 1) rfl ?_
  | refine ov_ixL (n := 2) rfl ?_
  | refine iteT ?_
  | refine iteF ?_
  | with_reducible refine iteN (b := !true) rfl ?_
  | with_reducible refine iteP (b := !false) rfl ?_
  | with_reducible refine go_next ?_
  | refine ⟨_, rfl, ?_⟩)
local macro_rules | `(tactic| walk_at "lv") => `(tactic| repeat walk_at "lv1")
variable {P : Program} {w : World} {K : PySem.W.Frag} {mg : Str → Option Value} {base : Heap} {T : Tb}
/-! ### what is live is ahead -/
theorem mem_lineL {ms : List Lv1} {m : Lv1} : m ∈ lineL ms ↔ m ∈ ms := by
  unfold lineL
  rw [List.mem_append, List.mem_map, List.mem_map]
  constructor
  · rintro (⟨i, hi, rfl⟩ | ⟨x, hx, rfl⟩)
    · rw [(sortN_perm _).mem_iff] at hi
      obtain ⟨m, hm, e⟩ := List.mem_filterMap.mp hi
      cases m with
      | b j => cases e; exact hm
      | f y => cases e
    · rw [mem_ordS] at hx
      obtain ⟨m, hm, e⟩ := List.mem_filterMap.mp hx
      cases m with
      | b j => cases e
      | f y => cases e; exact hm
  · intro h
    cases m with
    | b i => exact .inl ⟨i, (sortN_perm _).mem_iff.mpr (List.mem_filterMap.mpr ⟨_, h, rfl⟩), rfl⟩
    | f x => exact .inr ⟨x, mem_ordS.mpr (List.mem_filterMap.mpr ⟨_, h, rfl⟩), rfl⟩
theorem mem_live {p : Pg} {b : Nat} {m : Lv1} : m ∈ p.live b ↔ ∃ u ∈ p.uses, p.meant u = m ∧ b ∈ innerOf u.2 m := by
  unfold Pg.live
  rw [mem_lineL, mem_uq]
  unfold Pg.near Pg.nearU
  rw [List.mem_map]
  constructor
  · rintro ⟨u, hu, rfl⟩
    obtain ⟨h1, h2⟩ := List.mem_filter.mp hu
    exact ⟨u, h1, rfl, of_decide_eq_true h2⟩
  · rintro ⟨u, h1, rfl, h2⟩
    exact ⟨u, List.mem_filter.mpr ⟨h1, decide_eq_true h2⟩, rfl⟩
theorem live_ok {p : Pg} {b : Nat} {m : Lv1} (h : m ∈ p.live b) : m.ok b := by
  obtain ⟨u, _, _, h2⟩ := mem_live.mp h
  cases m with
  | b i =>
    show i < b
    exact of_decide_eq_true (List.mem_filter.mp h2).2
  | f x => trivial
theorem live_free {p : Pg} {b : Nat} {x : Str} (h : .f x ∈ p.live b) : x ∈ freeRaw p := by
  obtain ⟨u, h1, h2, _⟩ := mem_live.mp h
  exact List.mem_filterMap.mpr ⟨.f x, List.mem_map.mpr ⟨u, h1, h2⟩, rfl⟩
/-! ### named, words -/
abbrev spNamed (T : Tb) : Sp := SpG T (Tr × Addr × List Str × Lv1) (fun a => [pageV a.1, Mo.adr a.2.1, Mo.d a.2.2.2.en]) (fun a => [(a.2.1, Mu.dl (a.2.2.1.map PyData.str))]) (fun a => a.2.2.2.ok a.2.2.1.length) (fun a φ M => φ = Mo.d (.str (nameFor a.2.2.1 a.2.2.2)) ∧ M = [(a.2.1, Mu.dl (a.2.2.1.map PyData.str))])
-- slots of _law_named: 0 _law_page_here, 1 _law_naming, 2 _law_thing
theorem sc__law_named : FnScope ["_law_page_here", "_law_naming", "_law_thing"] ["_law_page_here", "_law_naming", "_law_thing"] (defScope s__law_named) := ⟨rfl, rfl, rfl, by decide +kernel, rfl, by decide +kernel, by decide +kernel⟩
theorem ok_named (c : Fc K mg) : Cal P w K mg base 1 "_law_named" ["_law_page_here", "_law_naming", "_law_thing"] (spNamed T) := by
  obtain ⟨fd, F⟩ := c.f__law_named
  refine fn_mk F c.g__law_named (fn_ok F sc__law_named (fun _ => rfl) (by decide) fun a ha cdv Ar outer s Hs Ex hr => ⟨_, (pss_one (ps_ret (pe_ifExp (pt_val (pe_callB (call_isiB (K0 := K)) rfl c.b_isinstance boot_isinstance (pa_cons (pv 2) (pa_cons (bl_ty boot_str c.b_str) pa_nil)))) (pv 2) (pe_ix (ix_seqB (K0 := K)) (pv 1) (pv 2) (fun _ _ => rfl))))), fun G H A0 Q kQ => ?_⟩) (fun _ _ _ _ _ _ us hl => match us, hl with | [_, _, _], _ => rfl)
  obtain ⟨t, p, ns, m⟩ := a
  refine go_ret (ev_ifE (et_test (ev_cb (ea_cons (ev_var rfl (ea_cons (ev_ty (ea_nil (cv_isTxt ⟨_, rfl, ?_⟩)))))))))
  cases m with
  | b i =>
    refine iteF (ev_op (ev_var rfl (ev_var rfl (ov_ixM (m := 0) rfl (map_getD ha) (kQ _ _ [] ⟨rfl, rfl⟩)))))
  | f x => exact iteT (ev_var rfl (kQ _ _ [] ⟨rfl, rfl⟩))
def ch1 (c : Nat) : Str := ⟨#[c]⟩
def allW : List Str := letS.cps.toList.map ch1 ++ letS.cps.toList.map (fun c => ("a" : Str) ++ ch1 c) ++ letS.cps.toList.map (fun c => ("b" : Str) ++ ch1 c)
theorem allW_len : allW.length = 78 := by decide +kernel
theorem allW_nm : ∀ x ∈ allW, nmB x = true := by
  have h : (allW.all fun x => nmB x) = true := by decide +kernel
  exact fun x hx => List.all_eq_true.mp h x hx
theorem allW_nodup : allW.Nodup := by decide +kernel
def wordsN (n : Nat) (shut : List Str) : List Str := (allW.filter fun x => !decide (x ∈ shut)).take n
abbrev spWordlist (T : Tb) : Sp := SpP T (Nat × List Str) (fun a => [Mo.d (.int (a.1 : Int)), Mo.d (strL a.2)]) (fun _ => True) (fun a => Mo.d (strL (wordsN a.1 a.2)))
-- slots of _law_wordlist: 0 _law_count, 1 _law_shut, 2 _law_found, 3 _law_letters, 4 _law_one_here, 5 _law_sign
theorem sc__law_wordlist : FnScope ["_law_count", "_law_shut", "_law_found", "_law_letters", "_law_one_here", "_law_sign"] ["_law_count", "_law_shut"] (defScope s__law_wordlist) := ⟨rfl, rfl, rfl, by decide +kernel, rfl, by decide +kernel, by decide +kernel⟩
theorem ok_wordlist (c : Fc K mg) : Cal P w K mg base 1 "_law_wordlist" ["_law_count", "_law_shut"] (spWordlist T) := by
  obtain ⟨fd, F⟩ := c.f__law_wordlist
  refine fn_mk F c.g__law_wordlist (fn_okP F sc__law_wordlist (fun _ => rfl) (by decide) fun a ha cdv Ar outer s Hs Ex hr => ⟨_, (pss_cons (ps_par (i := 2) (j := 3) (by rfl) sc__law_wordlist.nd rfl rfl (by decide) rfl rfl (pa_cons (pe_lst pa_nil) (pa_cons pe_str pa_nil)) (by rfl))
      (pss_cons (ps_for PassesOwn.never rfl (pi_listB (K0 := K) (pe_op op_cat (pe_op op_cat (pe_callTy (c_listS rfl) rfl c.b_list boot_list (pa_cons (pv 3) pa_nil)) (pe_lc (own := [("_law_sign", 5)]) rfl sc__law_wordlist.nd (pi_str (pv 3)) (blkOk_by (N := ["_law_count", "_law_shut", "_law_found", "_law_letters", "_law_one_here", "_law_sign"]) (sc := defScope s__law_wordlist) (by decide +kernel)) (fun _ _ _ _ _ => (tn 5 sc__law_wordlist.nd)) (fun _ _ _ _ _ => pts_nil) (fun _ _ _ _ _ => (pe_op o_catS pe_str (pv 5))))) (pe_lc (own := [("_law_sign", 5)]) rfl sc__law_wordlist.nd (pi_str (pv 3)) (blkOk_by (N := ["_law_count", "_law_shut", "_law_found", "_law_letters", "_law_one_here", "_law_sign"]) (sc := defScope s__law_wordlist) (by decide +kernel)) (fun _ _ _ _ _ => (tn 5 sc__law_wordlist.nd)) (fun _ _ _ _ _ => pts_nil) (fun _ _ _ _ _ => (pe_op o_catS pe_str (pv 5)))))) (tn 4 sc__law_wordlist.nd) (pss_one (ps_if (PW.pt (pw_and (pt_cmpR (op_notIn_seqB (K0 := K)) (pv 4) (pv 1) rfl) (pw_and1 (pt_cmpR op_lt (pe_callB (c_lenB (K0 := K)) rfl c.b_len boot_len (pa_cons (pv 2) pa_nil)) (pv 0) (nomark _))))) (pss_one (ps_expr (pe_bm PySem.F.plainAttrs_list PySem.F.slot_list_append PySem.F.type_list_append mt_append (pv 2) (pa_cons (pv 4) pa_nil)))) pss_nil)))
      (pss_one (ps_ret (pv 2))))), fun G H A0 Q kQ => ?_⟩) (fun _ _ _ _ _ _ us hl => match us, hl with | [_, _], _ => rfl)
  obtain ⟨n, shut⟩ := a
  have h26 : letS.cps.toList.length = 26 := by decide +kernel
  have h26b : letS.cps.size = 26 := by rw [← Array.length_toList]; exact h26
  with_reducible refine go_seq ?_
  refine go_par (ea_cons (ev_lstM (ea_nil ⟨[], rfl, by simp, fun p => ?_⟩)))
  refine ea_cons (ev_str (ea_nil ⟨_, _, rfl, ?_⟩))
  with_reducible refine go_seq ?_
  refine go_for (vs := [4]) (ei_list (ev_op (ev_op (ev_cb (ea_cons (ev_var rfl (ea_nil (cv_listS (x := letS) (by rw [h26b]; exact sz_small (by omega)) ?_))))))))
  have cat : ∀ (pre : Str) (hp : pre.length = 1) (Kk : Ks) (ρ : Rho) (M : Mus) (te : TE) (vs : List Nat) (hi : 5 ∈ vs) (h0 : ∀ x, (((wipeR ρ vs)).set 5 (some x))[5]? = some (some x)) (he : ∀ Kk2 : Ks, Kk2 (Mo.d (.str letS)) M → Ev T te ρ M Kk2),
      Kk (Mo.d (strL (letS.cps.toList.map fun c => pre ++ ch1 c))) M → Ev T (tLc (iStr te) (gName 5) tYes (tOp rCatS (tC (.str pre)) (tVar 5)) vs) ρ M Kk := by
    intro pre hp Kk ρ M te vs hi h0 he hk
    refine ev_lcB (fun c => PyData.str ⟨#[c]⟩) (fun c => PyData.str (pre ++ ch1 c)) (ei_str (he _ ⟨letS, rfl, letS.cps.toList, rfl, by rw [h26]; exact sz_small (by omega), fun c hc => ⟨_, tgt_name hi, ?_⟩, ?_⟩))
    · refine ev_op (ev_str (ev_var (h0 _) (ov_catS ?_ ⟨rfl, rfl⟩)))
      rw [hp]
      exact sz_small (by show 1 + 1 ≤ 1000000; omega)
    · rw [show letS.cps.toList.map (fun c => PyData.str (pre ++ ch1 c)) = (letS.cps.toList.map fun c => pre ++ ch1 c).map PyData.str by rw [List.map_map] <;> rfl]
      exact hk
  refine cat "a" (by decide +kernel) _ _ _ _ _ (by simp) (fun _ => rfl) (fun Kk2 h => ev_var rfl h) ?_
  have e1 : signs letS = (letS.cps.toList.map ch1).map PyData.str := by unfold signs; rw [List.map_map] <;> rfl
  rw [e1]
  refine ov_cat (by rw [List.length_map, List.length_map, List.length_map, List.length_map, h26]; exact sz_small (by omega)) ?_
  refine cat "b" (by decide +kernel) _ _ _ _ _ (by simp) (fun _ => rfl) (fun Kk2 h => ev_var rfl h) ?_
  refine ov_cat (by rw [List.length_append, List.length_map, List.length_map, List.length_map, List.length_map, List.length_map, List.length_map, h26]; exact sz_small (by omega)) ⟨_, rfl, ?_⟩
  rw [← List.map_append, ← List.map_append]
  have step : ∀ (k : Nat) (x : Str), allW[k]? = some x → (((allW.take (k + 1)).filter fun x => !decide (x ∈ shut)).take n) = if x ∈ shut then ((allW.take k).filter fun x => !decide (x ∈ shut)).take n else (((allW.take k).filter fun x => !decide (x ∈ shut)) ++ [x]).take n := by
    intro k x hk
    rw [take_succ' hk, List.filter_append, List.filter_cons, List.filter_nil]
    by_cases h : x ∈ shut
    · rw [if_pos h, decide_eq_true h] <;> simp
    · rw [if_neg h, decide_eq_false h] <;> simp
  refine loopA PyData.str allW (fun k ρ M => M = [(p, Mu.dl ((((allW.take k).filter fun x => !decide (x ∈ shut)).take n).map PyData.str))] ∧ ∃ x4 x5, ρ = [some (Mo.d (.int (n : Int))), some (Mo.d (strL shut)), some (Mo.adr p), some (Mo.d (.str letS)), x4, x5]) ⟨by rw [List.take_zero] <;> simp, _, _, rfl⟩ ?_ ?_
  · rintro k x ρ1 M1 hk ⟨rfl, x4, x5, rfl⟩
    refine ⟨_, tgt_name (by simp), fun A N hA hN => ?_⟩
    have st := step k x hk
    have hfl := List.length_filter_le (fun x => !decide (x ∈ shut)) (allW.take k)
    rw [List.length_take, allW_len] at hfl
    generalize (allW.take k).filter (fun x => !decide (x ∈ shut)) = fs at st hfl
    refine go_if (et_and (et_test (ev_op (ev_var rfl (ev_var rfl (ov_inS ⟨_, rfl, ?_⟩))))))
    rw [if_pos rfl]
    by_cases h : x ∈ shut
    · refine iteN (by rw [decide_eq_true h] <;> rfl) (iteF (hN _ _ ⟨?_, _, _, rfl⟩))
      rw [st, if_pos h]
    · refine iteP (by rw [decide_eq_false h] <;> rfl) ?_
      refine et_test (ev_op (ev_cb (ea_cons (ev_var rfl (ea_nil (cv_lenM (n := 0) rfl (ev_var rfl (ov_lt ⟨_, rfl, ?_⟩))))))))
      rw [List.length_map, List.length_take]
      rw [if_neg h] at st
      by_cases hl : fs.length < n
      · refine iteP (decide_eq_true (by omega)) ?_
        refine go_drop (ev_append (ev_var rfl ⟨p, rfl, ⟨0, _, rfl⟩, ea_cons (ev_var rfl (ea_nil ⟨.str x, 0, _, rfl, rfl, ?_, ?_⟩))⟩))
        · rw [List.length_map, List.length_take]
          exact sz_lt (by omega)
        · refine hN _ _ ⟨?_, _, _, rfl⟩
          have l1 : (fs ++ [x]).length ≤ n := by rw [List.length_append, List.length_singleton]; omega
          have l2 : fs.length ≤ n := by omega
          rw [st, List.take_of_length_le l1, List.take_of_length_le l2, List.map_append] <;> rfl
      · refine iteN (decide_eq_false (by omega)) (hN _ _ ⟨?_, _, _, rfl⟩)
        rw [st, List.take_append_of_le_length (by omega)]
  · rintro ρ1 M1 ⟨rfl, x4, x5, rfl⟩
    rw [List.take_length]
    refine go_freeze (i := 2) (j := 0) rfl rfl ?_
    exact go_ret (ev_var rfl (kQ _))
end Lv
/-! #### L10 -/
namespace Lv
open PySem L2 StX PyProof.Rows
local macro_rules | `(tactic| walk_at "lv1") => `(tactic| first
  | with_reducible refine go_seq ?_
  | with_reducible refine go_set ?_
  | with_reducible refine go_ret ?_
  | with_reducible refine go_drop ?_
  | with_reducible refine go_if ?_
  | with_reducible refine ev_op ?_
  | with_reducible refine ev_cb ?_
  | with_reducible refine ea_cons ?_
  | with_reducible refine ea_nil ?_
  | refine ev_var rfl ?_
  | with_reducible refine ev_int ?_
  | with_reducible refine ev_str ?_
  | with_reducible refine ev_bl ?_
  | with_reducible refine ev_ty ?_
  | with_reducible refine ev_non ?_
  | with_reducible refine ev_cls ?_
  | with_reducible refine ev_un ?_
  | with_reducible refine ev_fld ?_
  | with_reducible refine ev_andV ?_
  | with_reducible refine ev_notV ?_
  | with_reducible refine ev_ifE ?_
  | with_reducible refine ev_chain ?_
  | with_reducible refine et_test ?_
  | with_reducible refine et_B ?_
  | with_reducible refine et_and ?_
  | with_reducible refine et_or ?_
  | with_reducible refine et_not ?_
  | with_reducible refine et_yes ?_
  | with_reducible refine ov_add ?_
  | with_reducible refine ov_sub ?_
  | with_reducible refine ov_lt ?_
  | with_reducible refine ov_le ?_
  | with_reducible refine ov_gt ?_
  | with_reducible refine ov_ge ?_
  | with_reducible refine ov_neg ?_
  | with_reducible refine ov_eqI ?_
  | with_reducible refine ov_neI ?_
  | with_reducible refine ov_eqS ?_
  | with_reducible refine ov_inSg ?_
  | with_reducible refine ov_inS ?_
  | with_reducible refine ov_inI ?_
  | with_reducible refine cv_lenL ?_
  | with_reducible refine cv_lenT ?_
  | with_reducible refine cv_max2 ?_
  | with_reducible refine cv_min2 ?_
  | with_reducible refine cv_intI ?_
  | with_reducible refine cv_intB ?_
  | with_reducible refine cv_tuple ?_
  | with_reducible refine cv_list (.inl rfl) ?_
  | with_reducible refine cv_list (.inr rfl) ?_
  | refine ov_ixT (n := 0) rfl ?_
  | refine ov_ixT (n := 1) rfl ?_
  | refine ov_ixT (n := 2) rfl ?_
  | refine ov_ixT (n := 3) rfl ?_
  | refine ov_ixL (n := 0) rfl ?_
  | refine ov_ixL (n := 1) rfl ?_
  | refine ov_ixL (n := 2) rfl ?_
  | refine iteT ?_
  | refine iteF ?_
  | with_reducible refine iteN (b := !true) rfl ?_
  | with_reducible refine iteP (b := !false) rfl ?_
  | with_reducible refine go_next ?_
  | refine ⟨_, rfl, ?_⟩)
local macro_rules | `(tactic| walk_at "lv") => `(tactic| repeat walk_at "lv1")
variable {P : Program} {w : World} {K : PySem.W.Frag} {mg : Str → Option Value} {base : Heap} {T : Tb}
/-! ### the law's product, places -/
theorem prodN_snoc : ∀ (ns : List Nat) (n : Nat), prodN (ns ++ [n]) = prodN ns * n
  | [], n => by rw [List.nil_append, prodN, prodN, prodN, Nat.mul_one, Nat.one_mul]
  | m :: r, n => by rw [List.cons_append, prodN, prodN, prodN_snoc r, Nat.mul_assoc]
abbrev spProductL (T : Tb) : Sp := SpP T (Tr × List Str) (fun a => [pageV a.1, Mo.d (strL a.2)]) (fun a => GoodT a.1 ∧ GoodPool a.2) (fun a => Mo.d (.int (wholeN a.1.pg a.2 : Int)))
-- slots of _law_product: 0 _law_page_here, 1 _law_some, 2 _law_told, 3 _law_live_here, 4 _law_shut, 5 _law_thing
theorem sc__law_product : FnScope ["_law_page_here", "_law_some", "_law_told", "_law_live_here", "_law_shut", "_law_thing"] ["_law_page_here", "_law_some"] (defScope s__law_product) := ⟨rfl, rfl, rfl, by decide +kernel, rfl, by decide +kernel, by decide +kernel⟩
theorem ok_productL (c : Fc K mg) (C__law_in_order : Cal P w K mg base 5 "_law_in_order" ["_law_some"] (spOrdered T)) : Cal P w K mg base 8 "_law_product" ["_law_page_here", "_law_some"] (spProductL T) := by
  have C__law_all_live : Cal P w K mg base 7 "_law_all_live" ["_law_page_here"] (spAllLiveL T) := ok_all_liveL c C__law_in_order
  obtain ⟨fd, F⟩ := c.f__law_product
  refine fn_mk F c.g__law_product (fn_okP F sc__law_product (fun _ => rfl) (by decide) fun a ha cdv Ar outer s Hs Ex hr => ⟨_, (pss_cons (ps_set (i := 2) sc__law_product.nd rfl (Or.inl rfl) pe_int)
      (pss_cons (ps_for PassesOwn.never rfl (pi_listB (K0 := K) (pe_fn C__law_all_live (hr.mono (by omega)) (pa_cons (pv 0) pa_nil))) (tn 3 sc__law_product.nd) (pss_cons (ps_setLc (i := 4) (own := [("_law_thing", 5)]) rfl sc__law_product.nd rfl rfl (sw_true rfl rfl rfl (by decide +kernel)) (pi_listB (K0 := K) (pv 3)) (blkOk_by (N := ["_law_page_here", "_law_some", "_law_told", "_law_live_here", "_law_shut", "_law_thing"]) (sc := defScope s__law_product) (by decide +kernel)) (fun _ _ _ _ _ => (tn 5 sc__law_product.nd)) (fun _ _ _ _ _ => (pts_one (PW.pt (pw_or (pt_not (pt_val (pe_callB (call_isiB (K0 := K)) rfl c.b_isinstance boot_isinstance (pa_cons (pv 5) (pa_cons (bl_ty boot_str c.b_str) pa_nil))))) (pw_or1 (pt_cmpR (op_in_seqB (K0 := K)) (pv 5) (pv 1) rfl)))))) (fun _ _ _ _ _ => (pv 5)))
      (pss_one (ps_set (i := 2) sc__law_product.nd rfl (Or.inl rfl) (pe_op op_mul (pv 2) (pe_callB (c_max2 rfl) rfl c.b_max boot_max (pa_cons pe_int (pa_cons (pe_op op_sub (pe_callB (c_lenB (K0 := K)) rfl c.b_len boot_len (pa_cons (pv 1) pa_nil)) (pe_callB (c_lenB (K0 := K)) rfl c.b_len boot_len (pa_cons (pv 4) pa_nil))) pa_nil))))))))
      (pss_one (ps_ret (pv 2))))), fun G H A0 Q kQ => ?_⟩) (fun _ _ _ _ _ _ us hl => match us, hl with | [_, _], _ => rfl)
  obtain ⟨t, pool⟩ := a
  obtain ⟨h1, h2⟩ : GoodT t ∧ GoodPool pool := ha
  have hal := allLive_len t
  have hnb := nb_30 t h1
  with_reducible refine go_seq ?_
  with_reducible refine go_set ?_
  refine ev_int ?_
  with_reducible refine go_seq ?_
  refine go_for (vs := [3]) (ei_list (ev_callP (ea_cons (ev_var rfl (ea_nil ⟨t, rfl, h1, _, rfl, ?_⟩)))))
  refine loopA liveD t.pg.allLive (fun k ρ M => M = [] ∧ ∃ x3 x4 x5, ρ = [some (pageV t), some (Mo.d (strL pool)), some (Mo.d (.int ((prodN ((t.pg.allLive.take k).map (sizeN pool)) : Nat) : Int))), x3, x4, x5]) ⟨rfl, _, _, _, rfl⟩ ?_ ?_
  · rintro k ms ρ1 M1 hk ⟨rfl, x3, x4, x5, rfl⟩
    refine ⟨_, tgt_name (by simp), fun A N hA hN => ?_⟩
    obtain ⟨b, hb, rfl⟩ := mem_allLive (List.mem_of_getElem? hk)
    have hml := uses_len t h1 b
    have hsl := sizeN_le h2 (t.pg.live b)
    with_reducible refine go_seq ?_
    with_reducible refine go_set ?_
    refine ev_lcA Lv1.en (shutQ pool) Lv1.en (ei_list (ev_var rfl ⟨_, rfl, t.pg.live b, rfl, sz_small (by omega), fun m hm => ⟨_, tgt_name (by simp), ?_⟩, ?_⟩))
    · cases m with
      | b i => exact et_or (et_not (et_test (ev_cb (ea_cons (ev_var rfl (ea_cons (ev_ty (ea_nil (cv_isi (b := false) "int" rfl (by decide +kernel) ⟨_, rfl, iteT ⟨rfl, rfl, fun _ => ev_var rfl ⟨rfl, rfl⟩⟩⟩)))))))))
      | f x =>
        refine et_or (et_not (et_test (ev_cb (ea_cons (ev_var rfl (ea_cons (ev_ty (ea_nil (cv_isi (b := true) "str" rfl (by decide +kernel) ⟨_, rfl, iteF ?_⟩)))))))))
        refine et_test (ev_op (ev_var rfl (ev_var rfl (ov_inS ⟨_, rfl, ?_, rfl, fun _ => ev_var rfl ⟨rfl, rfl⟩⟩))))
        rw [if_neg Bool.false_ne_true] <;> rfl
    · refine go_set (ev_op (ev_var rfl (ev_cb (ea_cons (ev_int (ea_cons (ev_op (ev_cb (ea_cons (ev_var rfl (ea_nil (cv_lenL ?_))))))))))))
      refine ev_cb (ea_cons (ev_var rfl (ea_nil (cv_lenL (ov_sub ?_)))))
      refine ea_nil (cv_max2 ?_)
      rw [List.length_map, List.length_map, show (if (pool.length : Int) - (((t.pg.live b).filter (shutQ pool)).length : Int) > 0 then (pool.length : Int) - (((t.pg.live b).filter (shutQ pool)).length : Int) else 0) = ((sizeN pool (t.pg.live b) : Nat) : Int) from sizeI_eq pool (t.pg.live b)]
      refine ov_mul (.inr (by omega)) ?_
      rw [← Int.natCast_mul, ← prodN_snoc]
      have e : (t.pg.allLive.take k).map (sizeN pool) ++ [sizeN pool (t.pg.live b)] = (t.pg.allLive.take (k + 1)).map (sizeN pool) := by rw [take_succ' hk, List.map_append] <;> rfl
      rw [e]
      exact hN _ _ ⟨rfl, _, _, _, rfl⟩
  · rintro ρ1 M1 ⟨rfl, x3, x4, x5, rfl⟩
    rw [List.take_length]
    exact go_ret (ev_var rfl (kQ _))
abbrev spPlaces (T : Tb) : Sp := SpP T (List Str × List Str) (fun a => [Mo.d (strL a.1), Mo.d (.tuple (a.2.map PyData.str))]) (fun a => a.2.length ≤ 100 ∧ ∀ x ∈ a.2, x ∈ a.1) (fun a => Mo.d (.list (natL (a.2.map fun x => a.1.idxOf x))))
-- slots of _law_places: 0 _law_some, 1 _law_naming, 2 _law_name
theorem sc__law_places : FnScope ["_law_some", "_law_naming", "_law_name"] ["_law_some", "_law_naming"] (defScope s__law_places) := ⟨rfl, rfl, rfl, by decide +kernel, rfl, by decide +kernel, by decide +kernel⟩
theorem ok_places (c : Fc K mg) : Cal P w K mg base 1 "_law_places" ["_law_some", "_law_naming"] (spPlaces T) := by
  obtain ⟨fd, F⟩ := c.f__law_places
  refine fn_mk F c.g__law_places (fn_okP F sc__law_places (fun _ => rfl) (by decide) fun a ha cdv Ar outer s Hs Ex hr => ⟨_, (pss_one (ps_ret (pe_lc (own := [("_law_name", 2)]) rfl sc__law_places.nd (pi_tupB (K0 := K) (pv 1)) (blkOk_by (N := ["_law_some", "_law_naming", "_law_name"]) (sc := defScope s__law_places) (by decide +kernel)) (fun _ _ _ _ _ => (tn 2 sc__law_places.nd)) (fun _ _ _ _ _ => pts_nil) (fun _ _ _ _ _ => (pe_bmB (K0 := K) PySem.F.plainAttrs_list PySem.F.slot_list_index PySem.F.type_list_index (mt_indexB (K0 := K)) (pv 0) (pa_cons (pv 2) pa_nil)))))), fun G H A0 Q kQ => ?_⟩) (fun _ _ _ _ _ _ us hl => match us, hl with | [_, _], _ => rfl)
  obtain ⟨pool, ns⟩ := a
  obtain ⟨h1, h2⟩ : ns.length ≤ 100 ∧ ∀ x ∈ ns, x ∈ pool := ha
  refine go_ret (ev_lcB PyData.str (fun x => .int ((pool.idxOf x : Nat) : Int)) (ei_tup (ev_var rfl ⟨_, rfl, ns, rfl, sz_small (by omega), fun x hx => ⟨_, tgt_name (by simp), ?_⟩, ?_⟩)))
  · exact ev_indexS (ev_var rfl ⟨pool, rfl, ea_cons (ev_var rfl (ea_nil ⟨x, rfl, h2 x hx, rfl, rfl⟩))⟩)
  · have e : natL (ns.map fun x => pool.idxOf x) = ns.map fun x => PyData.int ((pool.idxOf x : Nat) : Int) := by unfold natL; rw [List.map_map] <;> rfl
    have := kQ
    dsimp only at this
    rw [e] at this
    exact this _
/-! ### a drawn right naming -/
/-- each name is told apart from what is live -/
def Apart (p : Pg) (ns : List Str) : Prop := ∀ b, b < ns.length → ns.getD b "" ∉ (p.live b).map (nameFor (ns.take b))
theorem nodup_sub_len {α : Type} [DecidableEq α] : ∀ {xs ys : List α}, xs.Nodup → (∀ x ∈ xs, x ∈ ys) → xs.length ≤ ys.length
  | [], _, _, _ => Nat.zero_le _
  | x :: xs, ys, h, s => by
    rw [List.nodup_cons] at h
    have h1 : ∀ y ∈ xs, y ∈ ys.erase x := fun y hy => (List.mem_erase_of_ne (fun e => h.1 (by rw [← e]; exact hy))).mpr (s y (List.mem_cons_of_mem _ hy))
    have h2 := nodup_sub_len h.2 h1
    have hx := s x (by simp)
    have h3 := List.length_erase_of_mem hx
    have h4 : 0 < ys.length := List.length_pos_of_mem hx
    rw [List.length_cons]
    omega
theorem wordsN_props (n : Nat) (shut : List Str) (hs : shut.length ≤ 30) (hn : n ≤ 32) : (wordsN n shut).length = n ∧ (wordsN n shut).Nodup ∧ (∀ x ∈ wordsN n shut, x ∉ shut ∧ nmB x = true) := by
  have h1 : 48 ≤ (allW.filter fun x => !decide (x ∈ shut)).length := by
    have e : allW.length = (allW.filter fun x => !decide (x ∈ shut)).length + (allW.filter fun x => decide (x ∈ shut)).length := by
      have : ∀ l : List Str, l.length = (l.filter fun x => !decide (x ∈ shut)).length + (l.filter fun x => decide (x ∈ shut)).length := fun l => by
        induction l with
        | nil => rfl
        | cons x r ih =>
          rw [List.filter_cons, List.filter_cons]
          cases decide (x ∈ shut) <;> simp <;> omega
      exact this allW
    have h2 : (allW.filter fun x => decide (x ∈ shut)).length ≤ shut.length := nodup_sub_len (allW_nodup.filter _) fun x hx => of_decide_eq_true (List.mem_filter.mp hx).2
    rw [allW_len] at e
    omega
  refine ⟨?_, ?_, ?_⟩
  · unfold wordsN
    rw [List.length_take]
    omega
  · exact (allW_nodup.filter _).sublist (List.take_sublist _ _)
  · intro x hx
    obtain ⟨h3, h4⟩ := List.mem_filter.mp (List.mem_of_mem_take hx)
    refine ⟨?_, allW_nm x h3⟩
    simpa using h4
theorem cutD_to2 {ds : List PyData} {k : Nat} : cutD ds none (some (k : Int)) = ds.take k := by
  unfold cutD
  rw [HT.sIx_nat, HT.sIx_none, Nat.sub_zero, List.drop_zero]
  by_cases h : k ≤ ds.length
  · rw [Nat.min_eq_left h]
  · rw [Nat.min_eq_right (by omega), List.take_length, List.take_of_length_le (by omega)]
end Lv
/-! #### L11 -/
namespace Lv
open PySem L2 StX PyProof.Rows
local macro_rules | `(tactic| walk_at "lv1") => `(tactic| first
  | with_reducible refine go_seq ?_
  | with_reducible refine go_set ?_
  | with_reducible refine go_ret ?_
  | with_reducible refine go_drop ?_
  | with_reducible refine go_if ?_
  | with_reducible refine ev_op ?_
  | with_reducible refine ev_cb ?_
  | with_reducible refine ea_cons ?_
  | with_reducible refine ea_nil ?_
  | refine ev_var rfl ?_
  | with_reducible refine ev_int ?_
  | with_reducible refine ev_str ?_
  | with_reducible refine ev_bl ?_
  | with_reducible refine ev_ty ?_
  | with_reducible refine ev_non ?_
  | with_reducible refine ev_cls ?_
  | with_reducible refine ev_un ?_
  | with_reducible refine ev_fld ?_
  | with_reducible refine ev_andV ?_
  | with_reducible refine ev_notV ?_
  | with_reducible refine ev_ifE ?_
  | with_reducible refine ev_chain ?_
  | with_reducible refine et_test ?_
  | with_reducible refine et_B ?_
  | with_reducible refine et_and ?_
  | with_reducible refine et_or ?_
  | with_reducible refine et_not ?_
  | with_reducible refine et_yes ?_
  | with_reducible refine ov_add ?_
  | with_reducible refine ov_sub ?_
  | with_reducible refine ov_lt ?_
  | with_reducible refine ov_le ?_
  | with_reducible refine ov_gt ?_
  | with_reducible refine ov_ge ?_
  | with_reducible refine ov_neg ?_
  | with_reducible refine ov_eqI ?_
  | with_reducible refine ov_neI ?_
  | with_reducible refine ov_eqS ?_
  | with_reducible refine ov_inSg ?_
  | with_reducible refine ov_inS ?_
  | with_reducible refine ov_inI ?_
  | with_reducible refine cv_lenL ?_
  | with_reducible refine cv_lenT ?_
  | with_reducible refine cv_max2 ?_
  | with_reducible refine cv_min2 ?_
  | with_reducible refine cv_intI ?_
  | with_reducible refine cv_intB ?_
  | with_reducible refine cv_tuple ?_
  | with_reducible refine cv_list (.inl rfl) ?_
  | with_reducible refine cv_list (.inr rfl) ?_
  | refine ov_ixT (n := 0) rfl ?_
  | refine ov_ixT (n := 1) rfl ?_
  | refine ov_ixT (n := 2) rfl ?_
  | refine ov_ixT (n := 3) rfl ?_
  | refine ov_ixL (n := 0) rfl ?_
  | refine ov_ixL (n := 1) rfl ?_
  | refine ov_ixL (n := 2) rfl ?_
  | refine iteT ?_
  | refine iteF ?_
  | with_reducible refine iteN (b := !true) rfl ?_
  | with_reducible refine iteP (b := !false) rfl ?_
  | with_reducible refine go_next ?_
  | refine ⟨_, rfl, ?_⟩)
local macro_rules | `(tactic| walk_at "lv") => `(tactic| repeat walk_at "lv1")
variable {P : Program} {w : World} {K : PySem.W.Frag} {mg : Str → Option Value} {base : Heap} {T : Tb}
theorem getD_app_left {α : Type} {xs ys : List α} {i : Nat} {d : α} (h : i < xs.length) : (xs ++ ys).getD i d = xs.getD i d := by
  rw [List.getD_eq_getElem?_getD, List.getD_eq_getElem?_getD, List.getElem?_append_left h]
theorem getD_last {α : Type} {xs : List α} {x d : α} : (xs ++ [x]).getD xs.length d = x := by
  rw [List.getD_eq_getElem?_getD]
  simp
theorem Apart.snoc {p : Pg} {ns : List Str} {x : Str} (h : Apart p ns) (hx : x ∉ (p.live ns.length).map (nameFor ns)) : Apart p (ns ++ [x]) := fun b hb => by
  rw [List.length_append, List.length_singleton] at hb
  by_cases h1 : b < ns.length
  · rw [getD_app_left h1, List.take_append_of_le_length (by omega)]
    exact h b h1
  · have e : b = ns.length := by omega
    subst e
    rw [getD_last, List.take_append_of_le_length (Nat.le_refl _), List.take_length]
    exact hx
theorem apart_nil (p : Pg) : Apart p [] := fun b hb => (by cases hb)
/-- someone is left -/
theorem some_left {t : Tr} (ht : GoodT t) {ns : List Str} (hk : ns.length < t.pg.nb) : 0 < ((ordS (freeRaw t.pg) ++ wordsN (t.pg.nb + 2) (ordS (freeRaw t.pg))).filter fun x => !decide (x ∈ (t.pg.live ns.length).map (nameFor ns))).length := by
  have hnb := nb_30 t ht
  have hfl : (ordS (freeRaw t.pg)).length ≤ 30 := by
    have h1 := ordS_len (freeRaw t.pg)
    have h2 := txts_len t.pg t.pg.uses
    have h3 := uses30 ht
    unfold freeRaw at h1 ⊢
    omega
  obtain ⟨w1, w2, w3⟩ := wordsN_props (t.pg.nb + 2) (ordS (freeRaw t.pg)) hfl (by omega)
  apply Decidable.byContradiction
  intro hz
  have hz : ((ordS (freeRaw t.pg) ++ wordsN (t.pg.nb + 2) (ordS (freeRaw t.pg))).filter fun x => !decide (x ∈ (t.pg.live ns.length).map (nameFor ns))) = [] := List.length_eq_zero_iff.mp (by omega)
  have hall : ∀ x ∈ wordsN (t.pg.nb + 2) (ordS (freeRaw t.pg)), x ∈ ns := fun x hx => by
    have h1 := List.filter_eq_nil_iff.mp hz x (List.mem_append_right _ hx)
    have h2 : x ∈ (t.pg.live ns.length).map (nameFor ns) := by simpa using h1
    obtain ⟨m, hm, e⟩ := List.mem_map.mp h2
    cases m with
    | b i =>
      have hi : i < ns.length := live_ok hm
      have e : ns.getD i "" = x := e
      rw [← e]
      exact List.mem_of_getElem? (getD_some hi)
    | f y =>
      have e : y = x := e
      subst e
      exact absurd (mem_ordS.mpr (live_free hm)) (w3 y hx).1
  have := nodup_sub_len w2 hall
  omega
abbrev spRightN (T : Tb) : Sp := SpS T Tr (fun t => [pageV t, Mo.d (.int 0)]) GoodT (fun t d => ∃ ns : List Str, d = .tuple (ns.map PyData.str) ∧ GoodNs t.pg.nb ns ∧ Apart t.pg ns)
-- slots of _law_right_naming: 0 _law_source, 1 _law_page_here, 2 _law_more, 3 _law_live_here, 4 _law_found, 5 _law_spare, 6 _law_binder, 7 _law_shut, 8 _law_some, 9 _law_thing, 10 _law_name
theorem sc__law_right_naming : FnScope ["_law_source", "_law_page_here", "_law_more", "_law_live_here", "_law_found", "_law_spare", "_law_binder", "_law_shut", "_law_some", "_law_thing", "_law_name"] ["_law_source", "_law_page_here", "_law_more"] (defScope s__law_right_naming) := ⟨rfl, rfl, rfl, by decide +kernel, rfl, by decide +kernel, by decide +kernel⟩
theorem ok_right_naming (c : Fc K mg) (C__law_in_order : Cal P w K mg base 5 "_law_in_order" ["_law_some"] (spOrdered T)) : Cal P w K mg base 8 "_law_right_naming" ["_law_source", "_law_page_here", "_law_more"] (spRightN T) := by
  have C__law_all_live : Cal P w K mg base 7 "_law_all_live" ["_law_page_here"] (spAllLiveL T) := ok_all_liveL c C__law_in_order
  have C__law_free : Cal P w K mg base 6 "_law_free" ["_law_page_here"] (spFree T) := ok_free c C__law_in_order
  have C__law_wordlist : Cal P w K mg base 1 "_law_wordlist" ["_law_count", "_law_shut"] (spWordlist T) := ok_wordlist c
  have C__law_named : Cal P w K mg base 1 "_law_named" ["_law_page_here", "_law_naming", "_law_thing"] (spNamed T) := ok_named c
  have C__law_one : Cal P w K mg base 2 "_law_one" ["_law_source", "_law_things"] (spOne T) := ok_one c
  have C__law_take : Cal P w K mg base 1 "_law_take" ["_law_source", "_law_top"] (spTake T) := ok_take c
  obtain ⟨fd, F⟩ := c.f__law_right_naming
  refine fn_mk F c.g__law_right_naming (fn_ok F sc__law_right_naming (fun _ => rfl) (by decide) fun a ha cdv Ar outer s Hs Ex hr => ⟨_, (pss_cons (ps_asg (pe_tup (pa_cons (pe_fn C__law_all_live (hr.mono (by omega)) (pa_cons (pv 1) pa_nil)) (pa_cons (pe_lst pa_nil) pa_nil))) (pg_tupB (K0 := K) (n := 2) rfl (pgs_cons (tn 3 sc__law_right_naming.nd) (pgs_cons (tn 4 sc__law_right_naming.nd) pgs_nil))))
      (pss_cons (ps_set (i := 5) sc__law_right_naming.nd rfl (Or.inl rfl) (pe_fn C__law_wordlist (hr.mono (by omega)) (pa_cons (pe_op op_add (pe_op op_add (pe_callB (c_lenB (K0 := K)) rfl c.b_len boot_len (pa_cons (pe_dget (hu_of hr) (pv 1) pe_str (fun _ _ => rfl)) pa_nil)) pe_int) (pv 2)) (pa_cons (pe_fn C__law_free (hr.mono (by omega)) (pa_cons (pv 1) pa_nil)) pa_nil))))
      (pss_cons (ps_for PassesOwn.never rfl (pi_range1 rfl c.b_range (pa_cons (pe_callB (c_lenB (K0 := K)) rfl c.b_len boot_len (pa_cons (pe_dget (hu_of hr) (pv 1) pe_str (fun _ _ => rfl)) pa_nil)) pa_nil)) (tn 6 sc__law_right_naming.nd) (pss_cons (ps_set (i := 7) sc__law_right_naming.nd rfl (Or.inr rfl) (pe_lc (own := [("_law_thing", 9)]) rfl sc__law_right_naming.nd (pi_listB (K0 := K) (pe_ix (ix_seqB (K0 := K)) (pv 3) (pv 6) (fun _ _ => rfl))) (blkOk_by (N := ["_law_source", "_law_page_here", "_law_more", "_law_live_here", "_law_found", "_law_spare", "_law_binder", "_law_shut", "_law_some", "_law_thing", "_law_name"]) (sc := defScope s__law_right_naming) (by decide +kernel)) (fun _ _ _ _ _ => (tn 9 sc__law_right_naming.nd)) (fun _ _ _ _ _ => pts_nil) (fun _ _ _ _ _ => (pe_fn C__law_named (hr.mono (by omega)) (pa_cons (pv 1) (pa_cons (pv 4) (pa_cons (pv 9) pa_nil)))))))
      (pss_cons (ps_setLc (i := 8) (own := [("_law_name", 10)]) rfl sc__law_right_naming.nd rfl rfl (sw_true rfl rfl rfl (by decide +kernel)) (pi_listB (K0 := K) (pe_op op_cat (pe_fn C__law_free (hr.mono (by omega)) (pa_cons (pv 1) pa_nil)) (pv 5))) (blkOk_by (N := ["_law_source", "_law_page_here", "_law_more", "_law_live_here", "_law_found", "_law_spare", "_law_binder", "_law_shut", "_law_some", "_law_thing", "_law_name"]) (sc := defScope s__law_right_naming) (by decide +kernel)) (fun _ _ _ _ _ => (tn 10 sc__law_right_naming.nd)) (fun _ _ _ _ _ => (pts_one (pt_cmpR (op_notIn_seqB (K0 := K)) (pv 10) (pv 7) rfl))) (fun _ _ _ _ _ => (pv 10)))
      (pss_one (ps_expr (pe_bm PySem.F.plainAttrs_list PySem.F.slot_list_append PySem.F.type_list_append mt_append (pv 4) (pa_cons (pe_fn C__law_one (hr.mono (by omega)) (pa_cons (pv 0) (pa_cons (pe_slice (sl_listB (K0 := K)) (pv 8) po_none (po_some (pe_op op_add (pe_op op_add pe_int (pv 2)) (pe_fn C__law_take (hr.mono (by omega)) (pa_cons (pv 0) (pa_cons pe_int pa_nil)))))) pa_nil))) pa_nil)))))))
      (pss_one (ps_ret (pe_callTy (c_tupleB (K0 := K)) rfl c.b_tuple boot_tuple (pa_cons (pv 4) pa_nil))))))), fun G H A0 Q kQ => ?_⟩) (fun _ _ _ _ _ _ us hl => match us, hl with | [_, _, _], _ => rfl)
  obtain ⟨p, s0, t⟩ := a
  have ht : GoodT t := ha
  have hal := allLive_len t
  have hnb := nb_30 t ht
  have hfl : (ordS (freeRaw t.pg)).length ≤ 30 := by
    have h1 := ordS_len (freeRaw t.pg)
    have h2 := txts_len t.pg t.pg.uses
    have h3 := uses30 ht
    unfold freeRaw at h1 ⊢
    omega
  have hfn : ∀ x ∈ ordS (freeRaw t.pg), nmB x = true := fun x hx => free_nm ht (fun u hu => hu) x (mem_ordS.mp hx)
  obtain ⟨w1, w2, w3⟩ := wordsN_props (t.pg.nb + 2) (ordS (freeRaw t.pg)) hfl (by omega)
  with_reducible refine go_seq ?_
  refine go_asg (vs := [3, 4]) (ev_tupM (ea_cons (ev_callP (ea_cons (ev_var rfl (ea_nil ⟨t, rfl, ht, ?_⟩))))))
  refine ea_cons (ev_lstM (ea_nil ⟨[], rfl, by simp, fun pf => ea_nil ⟨sz10 (by show 2 ≤ 10; omega), _, tgt_tp rfl (tgts_cons (tgt_name (by simp)) (tgts_cons (tgt_name (by simp)) tgts_nil)), ?_⟩⟩))
  with_reducible refine go_seq ?_
  with_reducible refine go_set ?_
  refine ev_callP (ea_cons (ev_op (ev_op (ev_cb (ea_cons (ev_dget (ev_var rfl ⟨_, rfl, ev_str ⟨.inr "names", _, rfl, rfl, ea_nil (cv_lenL (ev_int (ov_add (ev_var rfl (ov_add ?_)))))⟩⟩)))))))
  rw [List.length_map, show ((t.pg.names.length : Int) + 2 + 0) = ((t.pg.nb + 2 : Nat) : Int) by unfold Pg.nb; omega]
  refine ea_cons (ev_callP (ea_cons (ev_var rfl (ea_nil ⟨t, rfl, ht, ea_nil ⟨(t.pg.nb + 2, ordS (freeRaw t.pg)), rfl, trivial, ?_⟩⟩))))
  with_reducible refine go_seq ?_
  refine go_for (vs := [6]) (ei_range (ev_cb (ea_cons (ev_dget (ev_var rfl ⟨_, rfl, ev_str ⟨.inr "names", _, rfl, rfl, ea_nil (cv_lenL ⟨t.pg.nb, ?_, by omega, ?_⟩)⟩⟩)))))
  · rw [List.length_map] <;> rfl
  refine ⟨fun k ρ M => ∃ (ns : List Str) (s : Src) (x6 x7 x8 x9 x10 : Option Mo), ns.length = k ∧ k ≤ t.pg.nb ∧ (∀ x ∈ ns, nmB x = true) ∧ Apart t.pg ns ∧ M = [srcE p s, (pf, Mu.dl (ns.map PyData.str))] ∧
    ρ = [some (Mo.adr p), some (pageV t), some (Mo.d (.int 0)), some (Mo.d (.list (t.pg.allLive.map liveD))), some (Mo.adr pf), some (Mo.d (strL (wordsN (t.pg.nb + 2) (ordS (freeRaw t.pg))))), x6, x7, x8, x9, x10], ⟨[], s0, _, _, _, _, _, rfl, Nat.zero_le _, fun x hx => (by cases hx), apart_nil _, rfl, rfl⟩, ?_, ?_⟩
  · rintro k φ ρ1 M1 hk ⟨ns, s1, x6, x7, x8, x9, x10, e1, e2, e3, e4, rfl, rfl⟩
    obtain ⟨d, hd, rfl⟩ := map_d_get hk
    obtain ⟨hk2, rfl⟩ := upto_get hd
    refine ⟨_, tgt_name (by simp), fun A N hA hN => ?_⟩
    subst e1
    have hms : (t.pg.allLive.map liveD)[ns.length]? = some (liveD (t.pg.live ns.length)) := by
      refine map_get ?_
      unfold Pg.allLive
      rw [List.getElem?_map, List.getElem?_range hk2] <;> rfl
    have hml := uses_len t ht ns.length
    have hleft := some_left ht hk2
    with_reducible refine go_seq ?_
    with_reducible refine go_set ?_
    refine ev_lcB Lv1.en (fun m => .str (nameFor ns m)) (ei_list (ev_op (ev_var rfl (ev_var rfl (ov_ixL hms ⟨_, rfl, t.pg.live ns.length, rfl, sz_small (by omega), fun m hm => ⟨_, tgt_name (by simp), ?_⟩, ?_⟩)))))
    · refine ev_call1 (ea_cons (ev_var rfl (ea_cons (ev_var rfl (ea_cons (ev_var rfl (ea_nil ⟨(t, pf, ns, m), 1, pf, _, rfl, rfl, rfl, live_ok hm, ?_⟩)))))))
      rintro χ M' ⟨rfl, rfl⟩
      exact ⟨_, rfl, rfl, rfl⟩
    rw [show (t.pg.live ns.length).map (fun m => PyData.str (nameFor ns m)) = ((t.pg.live ns.length).map (nameFor ns)).map PyData.str by rw [List.map_map] <;> rfl]
    with_reducible refine go_seq ?_
    with_reducible refine go_set ?_
    refine ev_lcA PyData.str (fun x => !decide (x ∈ (t.pg.live ns.length).map (nameFor ns))) PyData.str (ei_list (ev_op (ev_callP (ea_cons (ev_var rfl (ea_nil ⟨t, rfl, ht, ev_var rfl (ov_cat ?_ ⟨_, rfl, ordS (freeRaw t.pg) ++ wordsN (t.pg.nb + 2) (ordS (freeRaw t.pg)), ?_, ?_, fun x hx => ⟨_, tgt_name (by simp), ?_⟩, ?_⟩)⟩))))))
    · rw [List.length_map, List.length_map, w1]
      exact sz_small (by omega)
    · rw [List.map_append, List.map_append, List.map_append]
    · rw [List.length_append, w1]
      exact sz_small (by omega)
    · refine et_test (ev_op (ev_var rfl (ev_var rfl (ov_inS ⟨_, rfl, ?_, rfl, fun _ => ev_var rfl ⟨rfl, rfl⟩⟩))))
      rw [if_pos rfl]
    have hsome : ∀ x ∈ (ordS (freeRaw t.pg) ++ wordsN (t.pg.nb + 2) (ordS (freeRaw t.pg))).filter (fun x => !decide (x ∈ (t.pg.live ns.length).map (nameFor ns))), nmB x = true ∧ x ∉ (t.pg.live ns.length).map (nameFor ns) := fun x hx => by
      obtain ⟨h1, h2⟩ := List.mem_filter.mp hx
      refine ⟨?_, by simpa using h2⟩
      rcases List.mem_append.mp h1 with h1 | h1
      · exact hfn x h1
      · exact (w3 x h1).2
    have hsl : ((ordS (freeRaw t.pg) ++ wordsN (t.pg.nb + 2) (ordS (freeRaw t.pg))).filter fun x => !decide (x ∈ (t.pg.live ns.length).map (nameFor ns))).length ≤ 100 := by
      refine Nat.le_trans (List.length_filter_le _ _) ?_
      rw [List.length_append, w1]
      omega
    generalize (ordS (freeRaw t.pg) ++ wordsN (t.pg.nb + 2) (ordS (freeRaw t.pg))).filter (fun x => !decide (x ∈ (t.pg.live ns.length).map (nameFor ns))) = sm at hleft hsome hsl
    refine go_drop (ev_append (ev_var rfl ⟨pf, rfl, ⟨1, _, rfl⟩, ?_⟩))
    refine ea_cons (ev_src (ea_cons (ev_var rfl (ea_cons ?_))))
    refine ev_slL (ev_var rfl ⟨_, rfl, eo_none (eo_some (ev_op (ev_op (ev_int (ev_var rfl (ov_add (ev_src (ea_cons (ev_var rfl (ea_cons (ev_int (ea_nil ⟨3, p, s1, 0, rfl, rfl, ⟨by omega, by decide⟩, ?_⟩))))))))))))⟩)
    rintro d s2 ⟨r, hr, rfl⟩
    refine ov_add ⟨_, rfl, ?_⟩
    rw [show ((1 : Int) + 0 + (r : Int)) = ((1 + r : Nat) : Int) by omega, cutD_to2, ← List.map_take]
    refine ea_nil ⟨_, p, s2, 0, rfl, rfl, ⟨?_, ?_⟩, ?_⟩
    · rw [List.length_map, List.length_take]; omega
    · rw [List.length_map, List.length_take]
      exact Nat.le_trans (by omega : _ ≤ 100) (by decide)
    rintro d s3 hd
    obtain ⟨x, hx, rfl⟩ := List.mem_map.mp hd
    obtain ⟨x1, x2⟩ := hsome x (List.mem_of_mem_take hx)
    refine ea_nil ⟨.str x, 1, _, rfl, rfl, ?_, ?_⟩
    · rw [List.length_map]
      exact sz_lt (by omega)
    refine hN _ _ ⟨ns ++ [x], s3, _, _, _, _, _, by rw [List.length_append] <;> rfl, hk2, ?_, e4.snoc x2, ?_, rfl⟩
    · intro y hy
      rcases List.mem_append.mp hy with hy | hy
      · exact e3 y hy
      · rw [List.mem_singleton.mp hy]; exact x1
    · show [srcE p s3, (pf, Mu.dl (_ ++ [_]))] = _
      rw [List.map_append] <;> rfl
  · rintro ρ1 M1 ⟨ns, s1, x6, x7, x8, x9, x10, e1, e2, e3, e4, rfl, rfl⟩
    rw [List.length_map, upto_len] at e1
    refine go_ret (ev_cb (ea_cons (ev_var rfl (ea_nil (cv_tupleM (n := 1) rfl ?_)))))
    exact kQ _ _ [(pf, Mu.dl (ns.map PyData.str))] ⟨_, s1, ⟨ns, rfl, ⟨e1, (show t.pg.nb ≤ 100 by omega), e3⟩, e4⟩, rfl, rfl⟩
end Lv
/-! #### Ma -/
namespace Lv
open PySem L2 StX PyProof.Rows
/-! ## The plain law -/
theorem live_nodup (p : Pg) (b : Nat) : (p.live b).Nodup := by
  unfold Pg.live lineL
  rw [List.nodup_append]
  have inj1 : ∀ xs : List Nat, xs.Nodup → (xs.map Lv1.b).Nodup := fun xs h => by
    unfold List.Nodup at h ⊢
    rw [List.pairwise_map]
    exact h.imp fun h e => h (by injection e)
  have inj2 : ∀ xs : List Str, xs.Nodup → (xs.map Lv1.f).Nodup := fun xs h => by
    unfold List.Nodup at h ⊢
    rw [List.pairwise_map]
    exact h.imp fun h e => h (by injection e)
  refine ⟨inj1 _ ((sortN_perm _).nodup_iff.mpr ?_), inj2 _ ((ordS_perm _).nodup_iff.mpr (uq_nodup _)), ?_⟩
  · show ((uq (p.near b)).filterMap Lv1.num).Nodup
    rw [uq_map num_inj]
    exact uq_nodup _
  · intro x hx y hy e
    obtain ⟨i, _, rfl⟩ := List.mem_map.mp hx
    obtain ⟨z, _, rfl⟩ := List.mem_map.mp hy
    cases e
/-- of two that are live, the outer one is live at the inner one -/
theorem live_clash_b {p : Pg} (o : p.Ok) {b i j : Nat} (hi : .b i ∈ p.live b) (hj : .b j ∈ p.live b) (h : i < j) : .b i ∈ p.live j := by
  obtain ⟨u, hu, mu, bu⟩ := mem_live.mp hi
  obtain ⟨v, hv, mv, bv⟩ := mem_live.mp hj
  have bu1 := inner_sub bu
  have bv1 := inner_sub bv
  have hjb : j < b := live_ok hj
  have jv := (Pg.meant_mem mv).1
  have jA : j ∈ p.ars.getD b [] := ((o.use v hv).inn b bv1 j).mpr ⟨jv, hjb⟩
  have ju : j ∈ u.2 := (((o.use u hu).inn b bu1 j).mp jA).1
  exact mem_live.mpr ⟨u, hu, mu, List.mem_filter.mpr ⟨ju, decide_eq_true h⟩⟩
theorem live_clash_f {p : Pg} (o : p.Ok) {b j : Nat} {x : Str} (hx : .f x ∈ p.live b) (hj : .b j ∈ p.live b) : .f x ∈ p.live j := by
  obtain ⟨u, hu, mu, bu⟩ := mem_live.mp hx
  obtain ⟨v, hv, mv, bv⟩ := mem_live.mp hj
  have bv1 := inner_sub bv
  have bu1 : b ∈ u.2 := bu
  have hjb : j < b := live_ok hj
  have jv := (Pg.meant_mem mv).1
  have jA : j ∈ p.ars.getD b [] := ((o.use v hv).inn b bv1 j).mpr ⟨jv, hjb⟩
  have ju : j ∈ u.2 := (((o.use u hu).inn b bu1 j).mp jA).1
  exact mem_live.mpr ⟨u, hu, mu, ju⟩
theorem getD_take {α : Type} {xs : List α} {i k : Nat} {d : α} (h : i < k) : (xs.take k).getD i d = xs.getD i d := by
  rw [List.getD_eq_getElem?_getD, List.getD_eq_getElem?_getD, List.getElem?_take_of_lt h]
theorem nameFor_take {ns : List Str} {m : Lv1} {k : Nat} (h : m.ok k) : nameFor (ns.take k) m = nameFor ns m := by
  cases m with
  | b i => exact getD_take h
  | f x => rfl
/-- names of what is live are unlike -/
theorem names_inj {p : Pg} (o : p.Ok) {ns : List Str} (ha : Apart p ns) {b : Nat} (hb : b ≤ ns.length) {m m' : Lv1} (h1 : m ∈ p.live b) (h2 : m' ∈ p.live b) (e : nameFor ns m = nameFor ns m') : m = m' := by
  have key : ∀ i j, .b i ∈ p.live b → .b j ∈ p.live b → i < j → nameFor ns (.b i) ≠ nameFor ns (.b j) := fun i j hi hj hij e => by
    have hjb : j < b := live_ok hj
    refine ha j (by omega) ?_
    rw [List.mem_map]
    exact ⟨.b i, live_clash_b o hi hj hij, (nameFor_take (m := .b i) (k := j) hij).trans e⟩
  have key2 : ∀ j x, .f x ∈ p.live b → .b j ∈ p.live b → nameFor ns (.b j) ≠ x := fun j x hx hj e => by
    have hjb : j < b := live_ok hj
    refine ha j (by omega) ?_
    rw [List.mem_map]
    exact ⟨.f x, live_clash_f o hx hj, e.symm⟩
  cases m with
  | b i =>
    cases m' with
    | b j =>
      rcases Nat.lt_trichotomy i j with h | h | h
      · exact absurd e (key i j h1 h2 h)
      · rw [h]
      · exact absurd e.symm (key j i h2 h1 h)
    | f y => exact absurd e (key2 i y h2 h1)
  | f x =>
    cases m' with
    | b j => exact absurd e.symm (key2 j x h1 h2)
    | f y => rw [show x = y from e]
theorem map_nodup {α β : Type} {f : α → β} : ∀ {xs : List α}, xs.Nodup → (∀ a ∈ xs, ∀ b ∈ xs, f a = f b → a = b) → (xs.map f).Nodup
  | [], _, _ => List.nodup_nil
  | x :: xs, h, k => by
    rw [List.nodup_cons] at h
    rw [List.map_cons, List.nodup_cons]
    refine ⟨fun hm => ?_, map_nodup h.2 fun a ha b hb => k a (List.mem_cons_of_mem _ ha) b (List.mem_cons_of_mem _ hb)⟩
    obtain ⟨y, hy, e⟩ := List.mem_map.mp hm
    have := k y (List.mem_cons_of_mem _ hy) x (by simp) e
    exact h.1 (this ▸ hy)
theorem count_split (pool : List Str) (q : Str → Bool) : (pool.filter fun x => !q x).length + (pool.filter q).length = pool.length := by
  induction pool with
  | nil => rfl
  | cons x r ih =>
    rw [List.filter_cons, List.filter_cons]
    cases q x <;> simp <;> omega
theorem letP_len {p : Pg} (o : p.Ok) {fs pool : List Str} (ha : Apart p fs) (hp : pool.Nodup) (hf : ∀ x ∈ fs, x ∈ pool) : (letP (p.live fs.length) fs pool).length = sizeN pool (p.live fs.length) := by
  have h1 := count_split pool fun x => decide (x ∈ (p.live fs.length).map (nameFor fs))
  have hn : ((p.live fs.length).map (nameFor fs)).Nodup := map_nodup (live_nodup p _) fun a ha1 b hb1 => names_inj o ha (Nat.le_refl _) ha1 hb1
  have h2 : (pool.filter fun x => decide (x ∈ (p.live fs.length).map (nameFor fs))).length = ((p.live fs.length).filter (shutQ pool)).length := by
    have e : ((p.live fs.length).map (nameFor fs)).filter (fun x => decide (x ∈ pool)) = ((p.live fs.length).filter (shutQ pool)).map (nameFor fs) := by
      rw [List.filter_map]
      congr 1
      apply List.filter_congr
      intro m hm
      cases m with
      | b i =>
        have hi : i < fs.length := live_ok hm
        exact decide_eq_true (hf _ (List.mem_of_getElem? (getD_some hi)))
      | f x => rfl
    rw [← List.length_map (nameFor fs), ← e]
    refine Nat.le_antisymm (nodup_sub_len (hp.filter _) fun x hx => ?_) (nodup_sub_len (hn.filter _) fun x hx => ?_)
    · obtain ⟨a, b⟩ := List.mem_filter.mp hx
      exact List.mem_filter.mpr ⟨of_decide_eq_true b, decide_eq_true a⟩
    · obtain ⟨a, b⟩ := List.mem_filter.mp hx
      exact List.mem_filter.mpr ⟨of_decide_eq_true b, decide_eq_true a⟩
  unfold sizeN letP
  rw [← h2]
  omega
/-! ### at least one choice -/
theorem names_apart {p : Pg} (o : p.Ok) : Apart p p.names := fun b hb => by
  rw [List.mem_map]
  rintro ⟨m, hm, e⟩
  rw [nameFor_take (live_ok hm)] at e
  obtain ⟨u, hu, mu, bu⟩ := mem_live.mp hm
  have ch := o.use u hu
  have bu1 := inner_sub bu
  unfold Pg.meant at mu
  cases hl : (u.2.filter fun b => decide (p.names.getD b "" = u.1)).getLast? with
  | none =>
    rw [hl] at mu
    subst mu
    have h0 : u.2.filter (fun b => decide (p.names.getD b "" = u.1)) = [] := List.getLast?_eq_none_iff.mp hl
    exact List.filter_eq_nil_iff.mp h0 b bu1 (decide_eq_true e.symm)
  | some i =>
    rw [hl] at mu
    subst mu
    have hlt : i < b := live_ok hm
    have e : p.names.getD i "" = p.names.getD b "" := e
    have hi := List.mem_filter.mp (List.mem_of_getLast? hl)
    have hb2 : b ∈ u.2.filter fun b => decide (p.names.getD b "" = u.1) := List.mem_filter.mpr ⟨bu1, decide_eq_true (e.symm.trans (of_decide_eq_true hi.2))⟩
    have hup : (u.2.filter fun b => decide (p.names.getD b "" = u.1)).Pairwise (· < ·) := ch.up.sublist (List.filter_sublist)
    -- the last one is the greatest
    have last : ∀ (xs : List Nat) (i b : Nat), xs.Pairwise (· < ·) → xs.getLast? = some i → b ∈ xs → b ≤ i := fun xs => by
      induction xs using snocInd with
      | h0 => intro i b _ h; simp at h
      | h1 xs x _ =>
        intro i b hp h hb
        rw [List.getLast?_append] at h
        have hx : x = i := by simpa using h
        subst hx
        rw [List.pairwise_append] at hp
        rcases List.mem_append.mp hb with hb | hb
        · exact Nat.le_of_lt (hp.2.2 b hb x (by simp))
        · rw [List.mem_singleton.mp hb]; exact Nat.le_refl _
    have := last _ i b hup hl hb2
    omega
end Lv
/-! #### Mb -/
namespace Lv
open PySem L2 StX PyProof.Rows
/-! ### drawn trees are good -/
mutual
theorem fl_okW {ws : List Str} : ∀ (t : Tr) (ar : List Nat) (k : Nat), t.okW ws → ∀ q ∈ fl t ar k, q.1.okW ws
  | .use n, ar, k, h, q, hq => by
    rw [fl, List.mem_singleton] at hq
    rw [hq]; exact h
  | .join l ps, ar, k, h, q, hq => by
    rw [fl, List.mem_cons] at hq
    rcases hq with rfl | hq
    · exact h
    · rw [Tr.okW] at h
      exact flL_okW ps ar k h.2 q hq
  | .bind n ah b, ar, k, h, q, hq => by
    rw [fl, List.mem_cons, List.mem_append] at hq
    rcases hq with rfl | hq | hq
    · exact h
    · rw [Tr.okW] at h
      exact flL_okW ah ar (k + 1) h.2.1 q hq
    · rw [Tr.okW] at h
      exact fl_okW b _ _ h.2.2 q hq
theorem flL_okW {ws : List Str} : ∀ (ts : List Tr) (ar : List Nat) (k : Nat), Tr.okWL ws ts → ∀ q ∈ flL ts ar k, q.1.okW ws
  | [], ar, k, h, q, hq => by rw [flL] at hq; cases hq
  | t :: ts, ar, k, h, q, hq => by
    rw [flL, List.mem_append] at hq
    rw [Tr.okWL] at h
    rcases hq with hq | hq
    · exact fl_okW t ar k h.1 q hq
    · exact flL_okW ts ar _ h.2 q hq
end
mutual
theorem okW_allN {ws : List Str} (hw : ∀ x ∈ ws, nmB x = true) : ∀ t : Tr, t.okW ws → t.allN fun x => nmB x = true
  | .use n, h => by rw [Tr.okW] at h; rw [Tr.allN]; exact hw n h
  | .join l ps, h => by rw [Tr.okW] at h; rw [Tr.allN]; exact ⟨h.1, okWL_allN hw ps h.2⟩
  | .bind n ah b, h => by rw [Tr.okW] at h; rw [Tr.allN]; exact ⟨hw n h.1, okWL_allN hw ah h.2.1, okW_allN hw b h.2.2⟩
theorem okWL_allN {ws : List Str} (hw : ∀ x ∈ ws, nmB x = true) : ∀ ts : List Tr, Tr.okWL ws ts → Tr.allNL (fun x => nmB x = true) ts
  | [], _ => by rw [Tr.allNL]; trivial
  | t :: ts, h => by rw [Tr.okWL] at h; rw [Tr.allNL]; exact ⟨okW_allN hw t h.1, okWL_allN hw ts h.2⟩
end
theorem okW_uses {ws : List Str} {t : Tr} (h : t.okW ws) : ∀ u ∈ t.pg.uses, u.1 ∈ ws := fun u hu => by
  obtain ⟨q, hq, rfl⟩ := List.mem_map.mp hu
  obtain ⟨h1, h2⟩ := List.mem_filter.mp hq
  have h3 := fl_okW t [] 0 h q h1
  obtain ⟨q1, q2⟩ := q
  cases q1 with
  | use n => rw [Tr.okW] at h3; exact h3
  | join l ps => cases h2
  | bind n ah b => cases h2
theorem okW_names {ws : List Str} {t : Tr} (h : t.okW ws) : ∀ x ∈ t.pg.names, x ∈ ws := fun x hx => by
  obtain ⟨b, hb, rfl⟩ := List.mem_map.mp hx
  obtain ⟨q, hq, rfl⟩ := List.mem_map.mp hb
  obtain ⟨h1, h2⟩ := List.mem_filter.mp hq
  have h3 := fl_okW t [] 0 h q h1
  obtain ⟨q1, q2⟩ := q
  cases q1 with
  | use n => cases h2
  | join l ps => cases h2
  | bind n ah b => rw [Tr.okW] at h3; exact h3.1
theorem live_few {ws : List Str} {t : Tr} (h : t.okW ws) (b : Nat) (hb : b < t.pg.nb) : (t.pg.live b).length ≤ ws.length := by
  have hb2 : b ≤ t.pg.names.length := Nat.le_of_lt hb
  have hn : ((t.pg.live b).map (nameFor t.pg.names)).Nodup := map_nodup (live_nodup _ _) fun a h1 c h2 => names_inj t.pg_ok (names_apart t.pg_ok) hb2 h1 h2
  have := nodup_sub_len hn (ys := ws) fun x hx => by
    obtain ⟨m, hm, rfl⟩ := List.mem_map.mp hx
    cases m with
    | b i =>
      have hi : i < b := live_ok hm
      exact okW_names h _ (List.mem_of_getElem? (getD_some (by omega)))
    | f y =>
      obtain ⟨u, hu, mu, _⟩ := mem_live.mp hm
      have : y = u.1 := by
        unfold Pg.meant at mu
        split at mu
        · cases mu
        · cases mu; rfl
      show y ∈ ws
      rw [this]
      exact okW_uses h u hu
  rw [List.length_map] at this
  exact this
/-- all that a drawn case gives -/
structure Ready (t : Tr) (pool : List Str) : Prop where
  good : GoodT t
  gp : GoodPool pool
  pos : ∀ b, b < t.pg.nb → 0 < sizeN pool (t.pg.live b)
theorem ready_of {ws : List Str} {t : Tr} {pool : List Str} (hw : GoodW ws) (h : t.okW ws) (hs : t.size ≤ 30) (gp : GoodPool pool) (h10 : 10 ≤ pool.length) : Ready t pool :=
  ⟨⟨hs, fun u hu => hw.2.2 u.1 (okW_uses h u hu)⟩, gp, fun b hb => by
    have h1 := live_few h b hb
    have h2 := List.length_filter_le (shutQ pool) (t.pg.live b)
    have h3 := hw.2.1
    unfold sizeN
    omega⟩
/-! ### numbers, namings -/
section
variable {t : Tr} {pool : List Str}
def tailS (t : Tr) (pool : List Str) (k : Nat) : Nat := prodN ((t.pg.allLive.drop k).map (sizeN pool))
theorem drop_live {k : Nat} (h : k < t.pg.nb) : t.pg.allLive.drop k = t.pg.live k :: t.pg.allLive.drop (k + 1) := by
  have hl := allLive_len t
  rw [List.drop_eq_getElem_cons (by omega)]
  congr 1
  unfold Pg.allLive
  rw [List.getElem_map, List.getElem_range]
theorem drop_all {k : Nat} (h : t.pg.nb ≤ k) : t.pg.allLive.drop k = [] := List.drop_eq_nil_iff.mpr (by rw [allLive_len]; exact h)
theorem tailS_cons {k : Nat} (h : k < t.pg.nb) : tailS t pool k = sizeN pool (t.pg.live k) * tailS t pool (k + 1) := by
  unfold tailS
  rw [drop_live h, List.map_cons, prodN]
theorem tailS_end {k : Nat} (h : t.pg.nb ≤ k) : tailS t pool k = 1 := by
  unfold tailS
  rw [drop_all h, List.map_nil, prodN]
theorem tailS_pos (r : Ready t pool) (k : Nat) : 0 < tailS t pool k := by
  by_cases h : k < t.pg.nb
  · rw [tailS_cons h]
    exact Nat.mul_pos (r.pos k h) (tailS_pos r (k + 1))
  · rw [tailS_end (by omega)]; omega
termination_by t.pg.nb - k
theorem tailS_zero : tailS t pool 0 = wholeN t.pg pool := by unfold tailS wholeN; rw [List.drop_zero]
/-- names so far: apart, from the pool -/
structure Part (t : Tr) (pool fs : List Str) : Prop where
  le : fs.length ≤ t.pg.nb
  ap : Apart t.pg fs
  sub : ∀ x ∈ fs, x ∈ pool
theorem part_nil : Part t pool [] := ⟨Nat.zero_le _, apart_nil _, fun x hx => by cases hx⟩
theorem mem_letP {ms : List Lv1} {fs pool : List Str} {x : Str} : x ∈ letP ms fs pool ↔ x ∈ pool ∧ x ∉ ms.map (nameFor fs) := by
  unfold letP
  rw [List.mem_filter]
  simp
theorem Part.snoc {fs : List Str} {x : Str} (h : Part t pool fs) (hk : fs.length < t.pg.nb) (hx : x ∈ letP (t.pg.live fs.length) fs pool) : Part t pool (fs ++ [x]) := by
  obtain ⟨h1, h2⟩ := mem_letP.mp hx
  refine ⟨by rw [List.length_append, List.length_singleton]; omega, h.ap.snoc h2, fun y hy => ?_⟩
  rcases List.mem_append.mp hy with hy | hy
  · exact h.sub y hy
  · rw [List.mem_singleton.mp hy]; exact h1
theorem div_lt (r : Ready t pool) {fs : List Str} (h : Part t pool fs) (hk : fs.length < t.pg.nb) {left : Nat} (hl : left < tailS t pool fs.length) : left / tailS t pool (fs.length + 1) < (letP (t.pg.live fs.length) fs pool).length := by
  rw [letP_len t.pg_ok h.ap r.gp.2.2 h.sub]
  rw [tailS_cons hk] at hl
  exact Nat.div_lt_of_lt_mul (by rw [Nat.mul_comm]; exact hl)
def nextX (t : Tr) (pool fs : List Str) (left : Nat) : Str := (letP (t.pg.live fs.length) fs pool).getD (left / tailS t pool (fs.length + 1)) ""
theorem nextX_mem (r : Ready t pool) {fs : List Str} (h : Part t pool fs) (hk : fs.length < t.pg.nb) {left : Nat} (hl : left < tailS t pool fs.length) : nextX t pool fs left ∈ letP (t.pg.live fs.length) fs pool :=
  List.mem_of_getElem? (getD_some (div_lt r h hk hl))
abbrev nby (t : Tr) (pool fs : List Str) (left : Nat) : List Str := namesBy pool (t.pg.allLive.drop fs.length) fs left
theorem nby_step {fs : List Str} (hk : fs.length < t.pg.nb) (left : Nat) : nby t pool fs left = nby t pool (fs ++ [nextX t pool fs left]) (left % tailS t pool (fs.length + 1)) := by
  unfold nby
  rw [drop_live hk, namesBy, List.length_append, List.length_singleton]
  rfl
theorem nby_end {fs : List Str} (hk : t.pg.nb ≤ fs.length) (left : Nat) : nby t pool fs left = fs := by
  unfold nby
  rw [drop_all hk, namesBy]
/-- all about the naming with a number -/
theorem nby_all (r : Ready t pool) : ∀ (d : Nat) (fs : List Str) (left : Nat), t.pg.nb - fs.length = d → Part t pool fs → left < tailS t pool fs.length →
    NBok pool (t.pg.allLive.drop fs.length) fs left ∧ Part t pool (nby t pool fs left) ∧ (nby t pool fs left).length = t.pg.nb ∧ (nby t pool fs left).take fs.length = fs ∧
    numTo t.pg pool (nby t pool fs left) t.pg.nb = numTo t.pg pool (nby t pool fs left) fs.length * tailS t pool fs.length + left
  | 0, fs, left, hd, h, hl => by
    have hk : t.pg.nb ≤ fs.length := by omega
    have e : fs.length = t.pg.nb := Nat.le_antisymm h.le hk
    rw [nby_end hk]
    refine ⟨?_, h, e, List.take_length, ?_⟩
    · rw [drop_all hk, NBok]; trivial
    · rw [tailS_end hk] at hl
      rw [e, tailS_end (Nat.le_refl _)]
      omega
  | d + 1, fs, left, hd, h, hl => by
    have hk : fs.length < t.pg.nb := by omega
    have hx := nextX_mem r h hk hl
    have hq := div_lt r h hk hl
    have hS := tailS_pos r (fs.length + 1)
    have e1 : (fs ++ [nextX t pool fs left]).length = fs.length + 1 := by rw [List.length_append, List.length_singleton]
    have hm : left % tailS t pool (fs.length + 1) < tailS t pool (fs ++ [nextX t pool fs left]).length := by rw [e1]; exact Nat.mod_lt _ hS
    obtain ⟨a1, a2, a3, a4, a5⟩ := nby_all r d (fs ++ [nextX t pool fs left]) (left % tailS t pool (fs.length + 1)) (by rw [e1]; omega) (h.snoc hk hx) hm
    rw [← nby_step hk left] at a2 a3 a4 a5
    rw [e1] at a1 a4 a5
    have htake : (nby t pool fs left).take fs.length = fs := by
      have := congrArg (List.take fs.length) a4
      rw [List.take_take, Nat.min_eq_left (Nat.le_succ _), List.take_append_of_le_length (Nat.le_refl _), List.take_length] at this
      exact this
    have hget : (nby t pool fs left).getD fs.length "" = nextX t pool fs left := by
      rw [← getD_take (k := fs.length + 1) (Nat.lt_succ_self _), a4, getD_last]
    refine ⟨?_, a2, a3, htake, ?_⟩
    · rw [drop_live hk, NBok]
      exact ⟨fun m hm => live_ok hm, hS, hq, a1⟩
    · rw [a5, numTo, htake, hget]
      have hidx : (letP (t.pg.live fs.length) fs pool).idxOf (nextX t pool fs left) = left / tailS t pool (fs.length + 1) := idxOf_nodup (r.gp.2.2.filter _) (getD_some hq)
      rw [hidx, tailS_cons hk, Nat.add_mul, Nat.mul_assoc, Nat.add_assoc, Nat.mul_comm (left / _), Nat.div_add_mod]
end
end Lv
/-! #### Mc -/
namespace Lv
open PySem L2 StX PyProof.Rows
section
variable {t : Tr} {pool : List Str}
/-- a naming that may be told by its number -/
structure Whole (t : Tr) (pool ns : List Str) : Prop where
  part : Part t pool ns
  len : ns.length = t.pg.nb
theorem Whole.right {ns : List Str} (h : Whole t pool ns) : Right t.pg ns := fun u hu b hb e => by
  have ch := t.pg_ok.use u hu
  have hlt := ch.lt b (inner_sub hb)
  have hl : t.pg.meant u ∈ t.pg.live b := mem_live.mpr ⟨u, hu, rfl, hb⟩
  refine h.part.ap b (by rw [h.len]; exact hlt) ?_
  rw [List.mem_map]
  exact ⟨t.pg.meant u, hl, (nameFor_take (live_ok hl)).trans e.symm⟩
theorem right_of_apart {ns : List Str} (h : Apart t.pg ns) (hl : ns.length = t.pg.nb) : Right t.pg ns := fun u hu b hb e => by
  have ch := t.pg_ok.use u hu
  have hlt := ch.lt b (inner_sub hb)
  have hm : t.pg.meant u ∈ t.pg.live b := mem_live.mpr ⟨u, hu, rfl, hb⟩
  refine h b (by rw [hl]; exact hlt) ?_
  rw [List.mem_map]
  exact ⟨t.pg.meant u, hm, (nameFor_take (live_ok hm)).trans e.symm⟩
theorem Whole.at {ns : List Str} (h : Whole t pool ns) {b : Nat} (hb : b < t.pg.nb) : ns.getD b "" ∈ letP (t.pg.live b) (ns.take b) pool := by
  refine mem_letP.mpr ⟨h.part.sub _ (List.mem_of_getElem? (getD_some (by rw [h.len]; exact hb))), h.part.ap b (by rw [h.len]; exact hb)⟩
theorem Whole.numOk (r : Ready t pool) {ns : List Str} (h : Whole t pool ns) : NumOk t pool ns :=
  ⟨⟨h.len, by have := nb_30 t r.good; omega, fun x hx => r.gp.2.1 x (h.part.sub x hx)⟩, h.right, h.part.sub, fun b hb => ⟨fun m hm => live_ok hm, h.at hb⟩⟩
theorem Whole.take {ns : List Str} (h : Whole t pool ns) {k : Nat} (hk : k ≤ t.pg.nb) : Part t pool (ns.take k) ∧ (ns.take k).length = k := by
  have e : (ns.take k).length = k := by rw [List.length_take, h.len]; omega
  refine ⟨⟨by rw [e]; exact hk, fun b hb => ?_, fun x hx => h.part.sub x (List.mem_of_mem_take hx)⟩, e⟩
  rw [e] at hb
  rw [getD_take hb, List.take_take, Nat.min_eq_left (Nat.le_of_lt hb)]
  exact h.part.ap b (by rw [h.len]; omega)
theorem take_getD {α : Type} {xs : List α} {k : Nat} {d : α} (h : k < xs.length) : xs.take (k + 1) = xs.take k ++ [xs.getD k d] := take_succ' (getD_some h)
/-- from the naming to its number and back -/
theorem num_back (r : Ready t pool) {ns : List Str} (h : Whole t pool ns) : ∀ (d k : Nat), t.pg.nb - k = d → k ≤ t.pg.nb →
    ∃ left, left < tailS t pool k ∧ numTo t.pg pool ns t.pg.nb = numTo t.pg pool ns k * tailS t pool k + left ∧ nby t pool (ns.take k) left = ns
  | 0, k, hd, hk => by
    have e : k = t.pg.nb := by omega
    subst e
    refine ⟨0, tailS_pos r _, by rw [tailS_end (Nat.le_refl _)]; omega, ?_⟩
    rw [nby_end (by rw [(h.take (Nat.le_refl _)).2]; exact Nat.le_refl _), ← h.len, List.take_length]
  | d + 1, k, hd, hk => by
    have hlt : k < t.pg.nb := by omega
    obtain ⟨left, l1, l2, l3⟩ := num_back r h d (k + 1) (by omega) hlt
    obtain ⟨hp, hl⟩ := h.take hk
    have hS := tailS_pos r (k + 1)
    have hat := h.at hlt
    have hq : (letP (t.pg.live k) (ns.take k) pool).idxOf (ns.getD k "") < (letP (t.pg.live k) (ns.take k) pool).length := List.idxOf_lt_length_of_mem hat
    have hsz : (letP (t.pg.live k) (ns.take k) pool).length = sizeN pool (t.pg.live k) := by
      have := letP_len t.pg_ok hp.ap r.gp.2.2 hp.sub
      rw [hl] at this
      exact this
    have hgq : (letP (t.pg.live k) (ns.take k) pool).getD ((letP (t.pg.live k) (ns.take k) pool).idxOf (ns.getD k "")) "" = ns.getD k "" := by
      refine getD_of ?_
      rw [List.getElem?_eq_getElem hq, List.getElem_idxOf hq]
    rw [numTo] at l2
    generalize hqe : (letP (t.pg.live k) (ns.take k) pool).idxOf (ns.getD k "") = q at *
    have hdiv : (q * tailS t pool (k + 1) + left) / tailS t pool (k + 1) = q := by
      rw [Nat.add_comm, Nat.add_mul_div_right _ _ hS, Nat.div_eq_of_lt l1, Nat.zero_add]
    have hmod : (q * tailS t pool (k + 1) + left) % tailS t pool (k + 1) = left := by
      rw [Nat.add_comm, Nat.add_mul_mod_self_right, Nat.mod_eq_of_lt l1]
    refine ⟨q * tailS t pool (k + 1) + left, ?_, ?_, ?_⟩
    · rw [tailS_cons hlt]
      have : (q + 1) * tailS t pool (k + 1) ≤ sizeN pool (t.pg.live k) * tailS t pool (k + 1) := Nat.mul_le_mul_right _ (by omega)
      rw [Nat.add_mul] at this
      omega
    · rw [l2, tailS_cons hlt, Nat.add_mul, Nat.mul_assoc]
      omega
    · rw [nby_step (by rw [hl]; exact hlt)]
      unfold nextX
      rw [hl, hdiv, hmod, hgq, ← take_getD (by rw [h.len]; exact hlt)]
      exact l3
/-! ### what the law asks -/
theorem naming_whole (r : Ready t pool) {n : Nat} (hn : n < wholeN t.pg pool) : NBok pool t.pg.allLive [] n ∧ Whole t pool (namesBy pool t.pg.allLive [] n) ∧ numTo t.pg pool (namesBy pool t.pg.allLive [] n) t.pg.nb = n := by
  obtain ⟨a1, a2, a3, a4, a5⟩ := nby_all r t.pg.nb [] n rfl part_nil (by rw [← tailS_zero (t := t) (pool := pool)] at hn; exact hn)
  refine ⟨a1, ⟨a2, a3⟩, ?_⟩
  have a5 : numTo t.pg pool (namesBy pool t.pg.allLive [] n) t.pg.nb = 0 * tailS t pool 0 + n := a5
  rw [a5]
  omega
theorem whole_naming (r : Ready t pool) {ns : List Str} (h : Whole t pool ns) : numTo t.pg pool ns t.pg.nb < wholeN t.pg pool ∧ namesBy pool t.pg.allLive [] (numTo t.pg pool ns t.pg.nb) = ns := by
  obtain ⟨left, l1, l2, l3⟩ := num_back r h t.pg.nb 0 rfl (Nat.zero_le _)
  rw [tailS_zero] at l1
  have e : numTo t.pg pool ns t.pg.nb = left := by
    rw [l2, numTo]
    omega
  rw [e]
  exact ⟨l1, l3⟩
theorem whole_pos (r : Ready t pool) : 0 < wholeN t.pg pool := by
  rw [← tailS_zero]
  exact tailS_pos r 0
/-! ### places ascend -/
theorem filter_idx {p : Str → Bool} : ∀ {pool : List Str} {i j : Nat} {x y : Str}, pool.Nodup → (pool.filter p)[i]? = some x → (pool.filter p)[j]? = some y → i < j → pool.idxOf x < pool.idxOf y
  | [], i, j, x, y, _, hx, _, _ => by simp at hx
  | z :: r, i, j, x, y, hn, hx, hy, hij => by
    rw [List.nodup_cons] at hn
    have ne : ∀ w, w ∈ r.filter p → (z == w) = false := fun w hw => by
      rw [beq_eq_false_iff_ne]
      intro e
      exact hn.1 (e ▸ (List.mem_filter.mp hw).1)
    rw [List.filter_cons] at hx hy
    rw [List.idxOf_cons, List.idxOf_cons]
    split at hx
    · rename_i hz
      rw [if_pos hz] at hy
      cases j with
      | zero => omega
      | succ j =>
        rw [List.getElem?_cons_succ] at hy
        rw [ne y (List.mem_of_getElem? hy)]
        cases i with
        | zero =>
          rw [List.getElem?_cons_zero] at hx
          have e : z = x := Option.some.inj hx
          rw [e, beq_self_eq_true]
          exact Nat.succ_pos _
        | succ i =>
          rw [List.getElem?_cons_succ] at hx
          rw [ne x (List.mem_of_getElem? hx)]
          exact Nat.succ_lt_succ (filter_idx hn.2 hx hy (by omega))
    · rename_i hz
      rw [if_neg hz] at hy
      rw [ne x (List.mem_of_getElem? hx), ne y (List.mem_of_getElem? hy)]
      exact Nat.succ_lt_succ (filter_idx hn.2 hx hy hij)
theorem nby_lex (r : Ready t pool) : ∀ (d : Nat) (fs : List Str) (a b : Nat), t.pg.nb - fs.length = d → Part t pool fs → a < b → b < tailS t pool fs.length →
    ∃ j, j < t.pg.nb ∧ (nby t pool fs a).take j = (nby t pool fs b).take j ∧ pool.idxOf ((nby t pool fs a).getD j "") < pool.idxOf ((nby t pool fs b).getD j "")
  | 0, fs, a, b, hd, h, hab, hb => by
    rw [tailS_end (by omega)] at hb
    omega
  | d + 1, fs, a, b, hd, h, hab, hb => by
    have hk : fs.length < t.pg.nb := by omega
    have ha : a < tailS t pool fs.length := by omega
    have hS := tailS_pos r (fs.length + 1)
    have e1 : ∀ x, (fs ++ [x]).length = fs.length + 1 := fun x => by rw [List.length_append, List.length_singleton]
    have get : ∀ l, l < tailS t pool fs.length → (nby t pool fs l).getD fs.length "" = nextX t pool fs l := fun l hl => by
      have hx := nextX_mem r h hk hl
      have a4 := (nby_all r d (fs ++ [nextX t pool fs l]) (l % tailS t pool (fs.length + 1)) (by rw [e1]; omega) (h.snoc hk hx) (by rw [e1]; exact Nat.mod_lt _ hS)).2.2.2.1
      rw [← nby_step hk l, e1] at a4
      rw [← getD_take (k := fs.length + 1) (Nat.lt_succ_self _), a4, getD_last]
    have htk : ∀ l, l < tailS t pool fs.length → (nby t pool fs l).take fs.length = fs := fun l hl => (nby_all r (d + 1) fs l hd h hl).2.2.2.1
    rcases Nat.lt_or_ge (a / tailS t pool (fs.length + 1)) (b / tailS t pool (fs.length + 1)) with hq | hq
    · refine ⟨fs.length, hk, by rw [htk a ha, htk b hb], ?_⟩
      rw [get a ha, get b hb]
      exact filter_idx r.gp.2.2 (getD_some (div_lt r h hk ha)) (getD_some (div_lt r h hk hb)) hq
    · have hle := Nat.div_le_div_right (c := tailS t pool (fs.length + 1)) (Nat.le_of_lt hab)
      have eq : a / tailS t pool (fs.length + 1) = b / tailS t pool (fs.length + 1) := Nat.le_antisymm hle hq
      have hx : nextX t pool fs a = nextX t pool fs b := by unfold nextX; rw [eq]
      have hmod : a % tailS t pool (fs.length + 1) < b % tailS t pool (fs.length + 1) := by
        have q1 := Nat.div_add_mod a (tailS t pool (fs.length + 1))
        have q2 := Nat.div_add_mod b (tailS t pool (fs.length + 1))
        rw [eq] at q1
        omega
      obtain ⟨j, j1, j2, j3⟩ := nby_lex r d (fs ++ [nextX t pool fs b]) (a % tailS t pool (fs.length + 1)) (b % tailS t pool (fs.length + 1)) (by rw [e1]; omega) (h.snoc hk (nextX_mem r h hk hb)) hmod (by rw [e1]; exact Nat.mod_lt _ hS)
      rw [← nby_step hk b, ← hx, ← nby_step hk a] at j2 j3
      exact ⟨j, j1, j2, j3⟩
end
end Lv
/-! #### R2 -/
namespace Lv
open PySem L2 StX PyProof.Rows
/-! ## sorted of lists of whole numbers that ascend already -/
theorem keyToks_ints : ∀ ns : List Int, PySem.W.keyToksAll (ns.map PyData.int) = ns.flatMap (fun n => [.inl 1, .inl n]) ++ [.inl 0]
  | [] => by rw [List.map_nil, PySem.W.keyToksAll] <;> rfl
  | n :: r => by rw [List.map_cons, PySem.W.keyToksAll, keyToks_ints r, PySem.W.keyToks] <;> rfl
def encI (ns : List Int) : PyData := .list (ns.map PyData.int)
/-- the first place at which they differ -/
inductive LexLe : List Int → List Int → Prop
  | refl (a : List Int) : LexLe a a
  | lt {x y : Int} {a b : List Int} : x < y → LexLe (x :: a) (y :: b)
  | cons {x : Int} {a b : List Int} : LexLe a b → LexLe (x :: a) (x :: b)
theorem lexLe_toks : ∀ {a b : List Int}, LexLe a b → PyProof.Rows.lexLt PyProof.Rows.itemOrd (PySem.W.keyToksAll (b.map PyData.int)) (PySem.W.keyToksAll (a.map PyData.int)) = false
  | _, _, .refl a => PyProof.Rows.lex_irrefl _
  | _, _, .lt (x := x) (y := y) (a := a) (b := b) h => by
    rw [List.map_cons, List.map_cons, PySem.W.keyToksAll, PySem.W.keyToksAll, PySem.W.keyToks, PySem.W.keyToks]
    rw [PyProof.Rows.lex_cons, List.cons_append, List.cons_append, PyProof.Rows.lex_cons]
    have e1 : PyProof.Rows.itemOrd.blt (.inl (1 : Int)) (.inl (1 : Int)) = false := PyProof.Rows.itemOrd.irrefl _
    have e2 : PyProof.Rows.itemOrd.blt (.inl y) (.inl x) = false := by
      show decide (y < x) = false
      exact decide_eq_false (by omega)
    have e3 : PyProof.Rows.itemOrd.blt (.inl x) (.inl y) = true := by
      show decide (x < y) = true
      exact decide_eq_true h
    rw [e1, e2, e3]
    rfl
  | _, _, .cons (x := x) (a := a) (b := b) h => by
    rw [List.map_cons, List.map_cons, PySem.W.keyToksAll, PySem.W.keyToksAll, PySem.W.keyToks]
    rw [PyProof.Rows.lex_cons, List.cons_append, List.cons_append, PyProof.Rows.lex_cons]
    have e1 : PyProof.Rows.itemOrd.blt (.inl (1 : Int)) (.inl (1 : Int)) = false := PyProof.Rows.itemOrd.irrefl _
    have e2 : PyProof.Rows.itemOrd.blt (.inl x) (.inl x) = false := PyProof.Rows.itemOrd.irrefl _
    rw [e1, e2, List.nil_append, List.nil_append, lexLe_toks h]
    rfl
theorem dataLe_of {a b : List Int} (h : LexLe a b) : PySem.W.dataLe false encI a b = true := by
  show (!PyProof.Rows.lexLt PyProof.Rows.itemOrd (PySem.W.keyToks (encI b)) (PySem.W.keyToks (encI a))) = true
  unfold encI
  rw [PySem.W.keyToks, PySem.W.keyToks, lexLe_toks h]
  rfl
def rSortedR (K : PySem.W.Frag) : List V → Hp → VK → Prop := fun xs H Q => ∃ (a : Addr) (ys : List V) (ls : List (List Int)), xs = [.ref a] ∧ SqL K H a ys ∧ DpAll K H ys (ls.map encI) ∧ ls.length ≤ 1000 ∧ ls.Pairwise LexLe ∧ ∀ p, H p = none → Q (.ref p) (upd H p (.lst ys))
theorem each_fst : ∀ {vs : List Value} {ls : List (List Int)}, vs.length = ls.length → PySem.W.EachIs (fun (v : Value) (b : Value × List Int) => v = b.1) vs (vs.zip ls)
  | [], [], _ => .nil
  | [], _ :: _, h => by cases h
  | _ :: _, [], h => by cases h
  | v :: vs, l :: ls, h => .cons rfl (each_fst (Nat.succ.inj h))
theorem each_out : ∀ {out vs : List Value} {ls : List (List Int)}, vs.length = ls.length → PySem.W.EachIs (fun (v : Value) (b : Value × List Int) => v = b.1) out (vs.zip ls) → out = vs
  | [], [], [], _, _ => rfl
  | _ :: _, [], _, h, e => by cases e
  | [], v :: vs, l :: ls, h, e => by cases e
  | o :: out, v :: vs, l :: ls, h, e => by
    cases e with
    | cons a t => rw [a, each_out (Nat.succ.inj h) t]
  | _, [], _ :: _, h, _ => by cases h
  | _, _ :: _, [], h, _ => by cases h
theorem each_zip {R : Value → List Int → Prop} : ∀ {vs : List Value} {ls : List (List Int)}, PySem.W.EachIs R vs ls → PySem.W.EachIs (fun (v : Value) (b : Value × List Int) => R v b.2) vs (vs.zip ls)
  | _, _, .nil => .nil
  | _, _, .cons a t => .cons a (each_zip t)
theorem alike_ints : ∀ a b : List Int, PySem.W.alikeAll (a.map PyData.int) (b.map PyData.int) = true
  | [], b => by rw [List.map_nil, PySem.W.alikeAll]
  | x :: a, [] => by rw [List.map_nil, List.map_cons, PySem.W.alikeAll]
  | x :: a, y :: b => by rw [List.map_cons, List.map_cons, PySem.W.alikeAll, alike_ints a b, PySem.W.alike] <;> rfl
theorem depI (a : List Int) : (encI a).depth ≤ 1 := by
  unfold encI
  rw [PyData.depth]
  have := depAll (ds := a.map PyData.int) (m := 0) fun d hd => by
    obtain ⟨n, _, rfl⟩ := List.mem_map.mp hd
    rw [PyData.depth]; omega
  omega
theorem zip_snd {α β : Type} : ∀ {xs : List α} {ys : List β}, xs.length = ys.length → (xs.zip ys).map (·.2) = ys
  | [], [], _ => rfl
  | [], _ :: _, h => by cases h
  | _ :: _, [], h => by cases h
  | x :: xs, y :: ys, h => by rw [List.zip_cons_cons, List.map_cons, zip_snd (Nat.succ.inj h)]
theorem cr_sortedR {X : Cx} {K0 : PySem.W.Frag} (hu : X.A.units + 64 < PySem.cLine) (hK : X.K = K0 := by rfl) : CallR X (.builtin "sorted") (rSortedR K0) := by
  subst hK
  intro pins s σ H vs us Q I r h
  obtain ⟨a, ys, ls, rfl, hs, hd, hlen, hup, q⟩ := h
  obtain ⟨its, rv, hl, hz⟩ := I.list hs
  rw [Vals.ref1 r]
  obtain ⟨as, hr⟩ := Dp.readsAll I _ _ _ hd rv
  have her := PySem.W.readsAll_each encI hr
  have hll : its.length = ls.length := her.length
  refine PySem.W.sorted_data (enc := fun b : Value × List Int => encI b.2) hl.isList (each_fst hll) (each_zip her) ?_ (.inr ?_) ?_ (fun b hb => ?_) fun out ho eo => ?_
  · intro d hd d' hd'
    obtain ⟨b, _, rfl⟩ := List.mem_map.mp hd
    obtain ⟨b', _, rfl⟩ := List.mem_map.mp hd'
    show PySem.W.alike (encI b.2) (encI b'.2) = true
    unfold encI
    rw [PySem.W.alike]
    exact alike_ints _ _
  · intro d hd
    obtain ⟨b, _, rfl⟩ := List.mem_map.mp hd
    refine ⟨fun z => ?_, fun xs z => ?_⟩
    · cases z
    · cases z
  · rw [List.length_zip, hll, Nat.min_self]
    exact sz_small (by omega)
  · have := depI b.2
    show X.A.units + 2 + (encI b.2).depth < _
    omega
  · have hpw : (its.zip ls).Pairwise fun b b' => PySem.W.dataLe false (fun b : Value × List Int => encI b.2) b b' = true := by
      have h1 : ((its.zip ls).map (·.2)).Pairwise LexLe := by rw [zip_snd hll]; exact hup
      rw [List.pairwise_map] at h1
      exact h1.imp fun h => dataLe_of h
    rw [List.mergeSort_of_pairwise hpw] at eo
    have e := each_out hll eo
    subst e
    obtain ⟨ep, he'⟩ := PyProof.Rows.sortedAll_at s.heap out out.toArray
    exact ⟨.ref _, upd H (s.heap.objs.size + 1) (.lst ys), I.laid (t' := s.toks) (fun _ _ => PyProof.Rows.sortedAll_old) (Nat.le_succ _) ⟨hz, out, ep, rv, he'⟩, rfl, q _ (I.hok.fresh (Nat.le_succ _))⟩
theorem cv_sortedR {T : Tb} {M : Mus} {Kk : Ks} {K0 : PySem.W.Frag} {ls : List (List Int)} (hl : ls.length ≤ 1000) (hp : ls.Pairwise LexLe) (k : Kk (Mo.d (.list (ls.map encI))) M) : CbV T (rSortedR K0) [Mo.d (.list (ls.map encI))] M Kk := fun xs G H p s Q q => by
  obtain ⟨x, rfl, hx⟩ := one p
  obtain ⟨a, ys, rfl, h2, h3⟩ := rep_list hx
  refine ⟨a, ys, ls, rfl, SqL.of (s.sub _ _ h2), (h3.mono s.sub).dp, hl, hp, fun l hl => q _ _ M _ _ k (Rep.lst upd_same (h3.mono (same_upd (sub_none s.sub hl)))) (Po.laid s hl)⟩
end Lv
/-! #### Fst -/
namespace Lv
open PySem L2 StX PyProof.Rows
local macro_rules | `(tactic| walk_at "lv1") => `(tactic| first
  | with_reducible refine go_seq ?_
  | with_reducible refine go_set ?_
  | with_reducible refine go_ret ?_
  | with_reducible refine go_drop ?_
  | with_reducible refine go_if ?_
  | with_reducible refine ev_op ?_
  | with_reducible refine ev_cb ?_
  | with_reducible refine ea_cons ?_
  | with_reducible refine ea_nil ?_
  | refine ev_var rfl ?_
  | with_reducible refine ev_int ?_
  | with_reducible refine ev_str ?_
  | with_reducible refine ev_bl ?_
  | with_reducible refine ev_ty ?_
  | with_reducible refine ev_non ?_
  | with_reducible refine ev_cls ?_
  | with_reducible refine ev_un ?_
  | with_reducible refine ev_fld ?_
  | with_reducible refine ev_andV ?_
  | with_reducible refine ev_notV ?_
  | with_reducible refine ev_ifE ?_
  | with_reducible refine ev_chain ?_
  | with_reducible refine et_test ?_
  | with_reducible refine et_B ?_
  | with_reducible refine et_and ?_
  | with_reducible refine et_or ?_
  | with_reducible refine et_not ?_
  | with_reducible refine et_yes ?_
  | with_reducible refine ov_add ?_
  | with_reducible refine ov_sub ?_
  | with_reducible refine ov_lt ?_
  | with_reducible refine ov_le ?_
  | with_reducible refine ov_gt ?_
  | with_reducible refine ov_ge ?_
  | with_reducible refine ov_neg ?_
  | with_reducible refine ov_eqI ?_
  | with_reducible refine ov_neI ?_
  | with_reducible refine ov_eqS ?_
  | with_reducible refine ov_inSg ?_
  | with_reducible refine ov_inS ?_
  | with_reducible refine ov_inI ?_
  | with_reducible refine cv_lenL ?_
  | with_reducible refine cv_lenT ?_
  | with_reducible refine cv_max2 ?_
  | with_reducible refine cv_min2 ?_
  | with_reducible refine cv_intI ?_
  | with_reducible refine cv_intB ?_
  | with_reducible refine cv_tuple ?_
  | with_reducible refine cv_list (.inl rfl) ?_
  | with_reducible refine cv_list (.inr rfl) ?_
  | refine ov_ixT (n := 0) rfl ?_
  | refine ov_ixT (n := 1) rfl ?_
  | refine ov_ixT (n := 2) rfl ?_
  | refine ov_ixT (n := 3) rfl ?_
  | refine ov_ixL (n := 0) rfl ?_
  | refine ov_ixL (n := 1) rfl ?_
  | refine ov_ixL (n := 2) rfl ?_
  | refine iteT ?_
  | refine iteF ?_
  | with_reducible refine iteN (b := !true) rfl ?_
  | with_reducible refine iteP (b := !false) rfl ?_
  | with_reducible refine go_next ?_
  | refine ⟨_, rfl, ?_⟩)
local macro_rules | `(tactic| walk_at "lv") => `(tactic| repeat walk_at "lv1")
variable {P : Program} {w : World} {K : PySem.W.Frag} {mg : Str → Option Value} {base : Heap} {T : Tb}
/-! ### the first few namings -/
def namD (t : Tr) (pool : List Str) (n : Nat) : PyData := .tuple ((namesBy pool t.pg.allLive [] n).map PyData.str)
theorem whole_small {t : Tr} {pool : List Str} (hp : GoodPool pool) (hb : t.pg.nb ≤ 7) : ((wholeN t.pg pool : Nat) : Int) < 2 ^ 62 := by
  have h1 := prodN_le (t.pg.allLive.map (sizeN pool)) fun n hn => by
    obtain ⟨ms, _, rfl⟩ := List.mem_map.mp hn
    exact sizeN_le hp ms
  have h2 : (60 : Nat) ^ (t.pg.allLive.map (sizeN pool)).length ≤ 60 ^ 7 := Nat.pow_le_pow_right (by omega) (by rw [List.length_map, allLive_len]; exact hb)
  have h3 : wholeN t.pg pool ≤ 60 ^ 7 := Nat.le_trans h1 h2
  have h4 : ((wholeN t.pg pool : Nat) : Int) ≤ ((60 ^ 7 : Nat) : Int) := Int.ofNat_le.mpr h3
  exact Int.lt_of_le_of_lt h4 (by decide)
abbrev spFirst (T : Tb) (K : PySem.W.Frag) : Sp := SpP T (Tr × List Str × Nat) (fun a => [tmV K a.1, Mo.d (strL a.2.1), Mo.d (.int ((a.2.2 : Nat) : Int))])
  (fun a => GoodT a.1 ∧ GoodPool a.2.1 ∧ a.1.pg.nb ≤ 7 ∧ 0 < a.2.2 ∧ a.2.2 ≤ 4 ∧ a.2.2 ≤ wholeN a.1.pg a.2.1 ∧ ∀ n, n < wholeN a.1.pg a.2.1 → NBok a.2.1 a.1.pg.allLive [] n) (fun a => Mo.d (.list ((List.range a.2.2).map (namD a.1 a.2.1))))
theorem gs_all_namings : GScope ["term", "pool", "number"] ["term", "pool"] (defScope s_all_namings) := ⟨rfl, rfl, rfl, by decide +kernel, rfl, by decide +kernel, by decide +kernel⟩
theorem nc_all_namings : ∀ y ∈ (defScope s_all_namings).names, y.2 ≠ .cell ∧ y.2 ≠ .free := by decide +kernel
-- slots of _law_first: 0 _law_made, 1 _law_some, 2 _law_top, 3 _law_found, 4 _law_naming
theorem sc__law_first : FnScope ["_law_made", "_law_some", "_law_top", "_law_found", "_law_naming"] ["_law_made", "_law_some", "_law_top"] (defScope s__law_first) := ⟨rfl, rfl, rfl, by decide +kernel, rfl, by decide +kernel, by decide +kernel⟩
theorem ok_first (c : Fc K mg) (C_ordered : Cal P w K mg base 5 "ordered" ["names"] (spOrdered T)) : Cal P w K mg base 12 "_law_first" ["_law_made", "_law_some", "_law_top"] (spFirst T K) := by
  have C_look_at_pool : Cal P w K mg base 3 "look_at_pool" ["term", "pool"] (spLookPool T K) := ok_look_at_pool c
  have C_choices_for : Cal P w K mg base 8 "choices_for" ["term", "pool"] (spChoices T K) := ok_choices_for c C_ordered
  have C_product : Cal P w K mg base 1 "product" ["numbers"] (spProduct T) := ok_product c
  have C_naming_by : Cal P w K mg base 9 "naming_by" ["term", "pool", "number"] (spNamingBy T K) := ok_naming_by c C_ordered
  obtain ⟨fdg, Fg⟩ := c.f_all_namings
  have hbg := Fg.bindsN (ps := ["term", "pool"]) fun _ _ _ _ _ _ us hl => match us, hl with | [_, _], _ => rfl
  obtain ⟨oc, od, dV, kV, doc, pm, an, cdg, ct, osl, rfl, lk, hcd, _, _⟩ := Fg.ex
  obtain ⟨fd, F⟩ := c.f__law_first
  refine fn_mk F c.g__law_first (fn_okP F sc__law_first (fun _ => rfl) (by decide) fun a ha cdv Ar outer s Hs Ex hr => ?_) (fun _ _ _ _ _ _ us hl => match us, hl with | [_, _, _], _ => rfl)
  obtain ⟨t, pool, top⟩ := a
  obtain ⟨h1, h2, h7, h3, h4, h5, h6⟩ : GoodT t ∧ GoodPool pool ∧ t.pg.nb ≤ 7 ∧ 0 < top ∧ top ≤ 4 ∧ top ≤ wholeN t.pg pool ∧ ∀ n, n < wholeN t.pg pool → NBok pool t.pg.allLive [] n := ha
  have hr9 : ∀ e, Room 9 ((Ar.deeper (PyProof.Rows.envOfC "_law_first" (defScope s__law_first) s.heap.objs.size (He.ga K "_law_first") cdv)).in1.deeper e) := fun e => (hr.in1).deeper e
  refine ⟨_, pss_cons (ps_set (i := 3) sc__law_first.nd rfl (Or.inl rfl) (pe_lst pa_nil)) (pss_cons (ps_genFor (T := T) (N := ["term", "pool", "number"]) (k := 9) (φ1 := tmV K t) (φ2 := Mo.d (strL pool)) (top := top) (itm := namD t pool) (φs := (upto (wholeN t.pg pool)).map Mo.d) lk hcd gs_all_namings nc_all_namings (fun L => rfl) rfl rfl rfl hbg hr rfl c.g_all_namings Fg.kp
      (by decide) (fun L s H => ps_expr (pe_fn C_look_at_pool ((hr9 _).mono (by omega)) (pa_cons (pv 0) (pa_cons (pv 1) pa_nil))))
      (fun L s H => pi_range1 rfl c.b_range (pa_cons (pe_fn C_product ((hr9 _).mono (by omega)) (pa_cons (pe_fn C_choices_for ((hr9 _).mono (by omega)) (pa_cons (pv 0) (pa_cons (pv 1) pa_nil))) pa_nil)) pa_nil))
      (fun L s H => tn 2 gs_all_namings.nd)
      (fun L s H => pe_fn C_naming_by (hr9 _) (pa_cons (pv 0) (pa_cons (pv 1) (pa_cons (pv 2) pa_nil))))
      ?r0 ?rI ?rE ?hφ (fun L x => rfl) h3 (by omega) sc__law_first.nd rfl rfl rfl rfl rfl rfl rfl rfl rfl rfl rfl rfl rfl c.b_len (by decide) (by decide) (by decide) (by decide) (by decide) rfl rfl (fun _ _ => rfl) (fun _ _ _ _ => rfl) rfl (fun _ => rfl)) (pss_one (ps_ret (pv 3)))), fun G H A0 Q kQ => ?_⟩
  case r0 =>
    intro Z' D M hT h
    obtain ⟨T', W', G', H', A'⟩ := Z'
    have hT : T' = T := hT
    subst hT
    exact go_drop (ev_callP (ea_cons (ev_var rfl (ea_cons (ev_var rfl (ea_nil ⟨(t, pool), rfl, h2, h⟩))))))
  case rI =>
    intro M Kk h
    refine ei_range (ev_callP (ea_cons (ev_callP (ea_cons (ev_var rfl (ea_cons (ev_var rfl (ea_nil ⟨(t, pool), rfl, ⟨h1, h2⟩, ea_nil ⟨sizesI t.pg pool, rfl, sizes_pre h2, ?_⟩⟩))))))))
    rw [prod_sizes]
    exact ⟨wholeN t.pg pool, rfl, whole_small h2 h7, h⟩
  case rE =>
    intro M i hi
    exact ev_callP (ea_cons (ev_var rfl (ea_cons (ev_var rfl (ea_cons (ev_var rfl (ea_nil ⟨(t, pool, i), rfl, ⟨h1, h2, h6 i (by omega)⟩, rfl, rfl⟩)))))))
  case hφ =>
    intro i hi
    have hi2 : i < wholeN t.pg pool := by omega
    unfold upto
    rw [List.getElem?_map, List.getElem?_map, List.getElem?_range hi2] <;> rfl
  · refine go_seq (go_set (ev_lstM (ea_nil ⟨[], rfl, by simp, fun p => ?_⟩)))
    refine go_seq ?_
    intro σ G1 H1 e z
    refine ⟨_, p, G1, none, rfl, e, z, fun σ' G' H' y4 e' z' => ?_⟩
    have fr : Go ⟨T, [], G, H, A0⟩ (fun σ H => σ[3]? = some (some (V.ref p)) → Q (.ref p) H) (rhoF (tmV K t) (Mo.d (strL pool)) top p y4) (musF p (namD t pool) top) := go_freeze (i := 3) (j := 0) rfl rfl fun σ2 G2 H2 e2 z2 hσ => by
      obtain ⟨v, q1, q2⟩ := e2.2 3 _ rfl
      rw [hσ] at q1
      cases q1
      exact kQ _ _ G2 H2 q2 z2
    obtain ⟨v, q1, q2⟩ := e'.2 3 _ rfl
    have q2 : v = .ref p := q2
    subst q2
    exact fr σ' G' H' e' z' q1
end Lv
/-! #### Law -/
namespace Lv
open PySem L2 StX PyProof.Rows
local macro_rules | `(tactic| walk_at "lv1") => `(tactic| first
  | with_reducible refine go_seq ?_
  | with_reducible refine go_set ?_
  | with_reducible refine go_ret ?_
  | with_reducible refine go_drop ?_
  | with_reducible refine go_if ?_
  | with_reducible refine ev_op ?_
  | with_reducible refine ev_cb ?_
  | with_reducible refine ea_cons ?_
  | with_reducible refine ea_nil ?_
  | refine ev_var rfl ?_
  | with_reducible refine ev_int ?_
  | with_reducible refine ev_str ?_
  | with_reducible refine ev_bl ?_
  | with_reducible refine ev_ty ?_
  | with_reducible refine ev_non ?_
  | with_reducible refine ev_cls ?_
  | with_reducible refine ev_un ?_
  | with_reducible refine ev_fld ?_
  | with_reducible refine ev_andV ?_
  | with_reducible refine ev_notV ?_
  | with_reducible refine ev_ifE ?_
  | with_reducible refine ev_chain ?_
  | with_reducible refine et_test ?_
  | with_reducible refine et_B ?_
  | with_reducible refine et_and ?_
  | with_reducible refine et_or ?_
  | with_reducible refine et_not ?_
  | with_reducible refine et_yes ?_
  | with_reducible refine ov_add ?_
  | with_reducible refine ov_sub ?_
  | with_reducible refine ov_lt ?_
  | with_reducible refine ov_le ?_
  | with_reducible refine ov_gt ?_
  | with_reducible refine ov_ge ?_
  | with_reducible refine ov_neg ?_
  | with_reducible refine ov_eqI ?_
  | with_reducible refine ov_neI ?_
  | with_reducible refine ov_eqS ?_
  | with_reducible refine ov_inSg ?_
  | with_reducible refine ov_inS ?_
  | with_reducible refine ov_inI ?_
  | with_reducible refine cv_lenL ?_
  | with_reducible refine cv_lenT ?_
  | with_reducible refine cv_max2 ?_
  | with_reducible refine cv_min2 ?_
  | with_reducible refine cv_intI ?_
  | with_reducible refine cv_intB ?_
  | with_reducible refine cv_tuple ?_
  | with_reducible refine cv_list (.inl rfl) ?_
  | with_reducible refine cv_list (.inr rfl) ?_
  | refine ov_ixT (n := 0) rfl ?_
  | refine ov_ixT (n := 1) rfl ?_
  | refine ov_ixT (n := 2) rfl ?_
  | refine ov_ixT (n := 3) rfl ?_
  | refine ov_ixL (n := 0) rfl ?_
  | refine ov_ixL (n := 1) rfl ?_
  | refine ov_ixL (n := 2) rfl ?_
  | refine iteT ?_
  | refine iteF ?_
  | with_reducible refine iteN (b := !true) rfl ?_
  | with_reducible refine iteP (b := !false) rfl ?_
  | with_reducible refine go_next ?_
  | refine ⟨_, rfl, ?_⟩)
local macro_rules | `(tactic| walk_at "lv") => `(tactic| repeat walk_at "lv1")
variable {P : Program} {w : World} {K : PySem.W.Frag} {mg : Str → Option Value} {base : Heap} {T : Tb}
/-! ## the law -/
/-- drawn numbers -/
theorem ev_draws {ρ : Rho} {M R : Mus} {Kk : Ks} {E : XK} {wi : TI} {i : Nat} {vs : List Nat} {p : Addr} {n : Nat} (hn : 0 < n ∧ n ≤ 60 ^ 30) (hi : i ∈ vs) (h0 : ∀ x, ((wipeR ρ vs).set i x)[2]? = some (some (Mo.adr p))) (h1 : ∀ x, ((wipeR ρ vs).set i x)[8]? = some (some (Mo.d (.int (n : Int)))))
    (h : EvI T wi ρ M fun φs M1 => ∃ (m : Nat) (s : Src), φs = (upto m).map Mo.d ∧ M1 = srcE p s :: R ∧ m ≤ 10 ∧ ∀ (xs : List Nat) (s' : Src), xs.length = m → (∀ x ∈ xs, x < n) → Kk (Mo.d (.list (natL xs))) (srcE p s' :: R)) :
    Ev T (tLc wi (gName i) tYes (tCall (spTake T) [] E (tCons (tVar 2) (tCons (tVar 8) tNil))) vs) ρ M Kk := by
  refine Ev.conv (ev_lc fun σ G H e s R' q => h σ G H e s R' fun J φs M1 G1 H1 k n1 wk => ?_)
  obtain ⟨m, s0, rfl, rfl, hm, fin⟩ := k
  refine q J _ (srcE p s0 :: R) G1 H1 ⟨fun k acc M2 => k ≤ m ∧ ∃ (xs : List Nat) (s : Src), xs.length = k ∧ (∀ x ∈ xs, x < n) ∧ acc = (natL xs).map Mo.d ∧ M2 = srcE p s :: R, ⟨Nat.zero_le _, [], s0, rfl, fun x hx => (by cases hx), rfl, rfl⟩, ?_, ?_⟩ n1 wk
  · rintro k φ acc M2 hk ⟨_, xs, s1, e1, e2, rfl, rfl⟩
    have hk2 := (List.getElem?_eq_some_iff.mp hk).1
    rw [List.length_map, upto_len] at hk2
    refine ⟨_, tgt_name hi, et_yes (iteT (ev_src (ea_cons (ev_var (h0 _) (ea_cons (ev_var (h1 _) (ea_nil ⟨n, p, s1, 0, rfl, rfl, hn, ?_⟩)))))))⟩
    rintro d s2 ⟨r, hr, rfl⟩
    refine ⟨?_, hk2, xs ++ [r], s2, ?_, ?_, ?_, rfl⟩
    · rw [List.length_map, natL_len]
      exact sz_lt (by omega)
    · rw [List.length_append, e1] <;> rfl
    · intro y hy
      rcases List.mem_append.mp hy with hy | hy
      · exact e2 y hy
      · rw [List.mem_singleton.mp hy]; exact hr
    · unfold natL
      rw [List.map_append, List.map_append] <;> rfl
  · rintro acc M2 ⟨_, xs, s1, e1, e2, rfl, rfl⟩
    rw [List.length_map, upto_len] at e1
    exact ⟨_, fun v G h => ls_d h, fin xs s1 e1 e2⟩
theorem lexLe_at (f : Str → Int) : ∀ (j : Nat) (a b : List Str), a.take j = b.take j → j < a.length → j < b.length → f (a.getD j "") < f (b.getD j "") → LexLe (a.map f) (b.map f)
  | _, [], _, _, h, _, _ => by cases h
  | _, _ :: _, [], _, _, h, _ => by cases h
  | 0, x :: a, y :: b, _, _, _, h => by
    rw [List.map_cons, List.map_cons]
    exact .lt h
  | j + 1, x :: a, y :: b, e, h1, h2, h => by
    rw [List.take_succ_cons, List.take_succ_cons] at e
    injection e with e1 e2
    subst e1
    rw [List.map_cons, List.map_cons]
    exact .cons (lexLe_at f j a b e2 (by simpa using h1) (by simpa using h2) (by simpa using h))
section
variable {t : Tr} {pool : List Str}
abbrev nam (t : Tr) (pool : List Str) (n : Nat) : List Str := namesBy pool t.pg.allLive [] n
def plcI (t : Tr) (pool : List Str) (n : Nat) : List Int := (nam t pool n).map fun x => ((pool.idxOf x : Nat) : Int)
theorem plc_enc (n : Nat) : encI (plcI t pool n) = .list (natL ((nam t pool n).map fun x => pool.idxOf x)) := by
  unfold encI plcI natL
  rw [List.map_map, List.map_map] <;> rfl
theorem plc_le (r : Ready t pool) {a b : Nat} (hab : a ≤ b) (hb : b < wholeN t.pg pool) : LexLe (plcI t pool a) (plcI t pool b) := by
  rcases Nat.lt_or_ge a b with h | h
  · obtain ⟨j, j1, j2, j3⟩ := nby_lex r t.pg.nb [] a b rfl part_nil h (by rw [show tailS t pool ([] : List Str).length = tailS t pool 0 from rfl, tailS_zero]; exact hb)
    have la := (naming_whole r (show a < wholeN t.pg pool by omega)).2.1.len
    have lb := (naming_whole r hb).2.1.len
    exact lexLe_at (fun x => ((pool.idxOf x : Nat) : Int)) j (nam t pool a) (nam t pool b) j2 (by rw [la]; exact j1) (by rw [lb]; exact j1) (Int.ofNat_lt.mpr j3)
  · have e : a = b := by omega
    rw [e]
    exact .refl _
theorem shp_nam (r : Ready t pool) {ns : List Str} (h : ∀ x ∈ ns, x ∈ pool) : Shp 1 (.tuple (ns.map PyData.str)) := shp_tup (m := 0) fun d hd => by
  obtain ⟨x, hx, rfl⟩ := List.mem_map.mp hd
  exact shp_str (strOk_nm (r.gp.2.1 x (h x hx)))
theorem shp_namD (r : Ready t pool) {n : Nat} (hn : n < wholeN t.pg pool) : Shp 1 (namD t pool n) := shp_nam r fun x hx => (naming_whole r hn).2.1.part.sub x hx
theorem shp_plc (n : Nat) : Shp 1 (encI (plcI t pool n)) := shp_list (m := 0) fun d hd => by
  obtain ⟨i, _, rfl⟩ := List.mem_map.mp hd
  exact shp_int i
theorem eqv_self {m : Nat} {d : PyData} (h : Shp m d) : PyData.eqv d d = true := SeqAt.eqv_refl d h.1
end
theorem words60 : wordsN 60 [] = allW.take 60 := by
  unfold wordsN
  rw [List.filter_eq_self.mpr fun x _ => by simp]
theorem words60_len : (wordsN 60 []).length = 60 := by rw [words60, List.length_take, allW_len]; rfl
theorem words60_nm : ∀ x ∈ wordsN 60 [], nmB x = true := fun x hx => allW_nm x (List.mem_of_mem_take (by rw [words60] at hx; exact hx))
theorem words60_nd : (wordsN 60 []).Nodup := by rw [words60]; exact allW_nodup.sublist (List.take_sublist _ _)
theorem uq_long {as bs : List Str} (hb : bs.Nodup) : bs.length ≤ (uq (as ++ bs)).length := nodup_sub_len hb fun x hx => (mem_uq _ _).mpr (List.mem_append_right _ hx)
end Lv
/-! #### Law2 -/
namespace Lv
open PySem L2 StX PyProof.Rows
local macro_rules | `(tactic| walk_at "lv1") => `(tactic| first
  | with_reducible refine go_seq ?_
  | with_reducible refine go_set ?_
  | with_reducible refine go_ret ?_
  | with_reducible refine go_drop ?_
  | with_reducible refine go_if ?_
  | with_reducible refine ev_op ?_
  | with_reducible refine ev_cb ?_
  | with_reducible refine ea_cons ?_
  | with_reducible refine ea_nil ?_
  | refine ev_var rfl ?_
  | with_reducible refine ev_int ?_
  | with_reducible refine ev_str ?_
  | with_reducible refine ev_bl ?_
  | with_reducible refine ev_ty ?_
  | with_reducible refine ev_non ?_
  | with_reducible refine ev_cls ?_
  | with_reducible refine ev_un ?_
  | with_reducible refine ev_fld ?_
  | with_reducible refine ev_andV ?_
  | with_reducible refine ev_notV ?_
  | with_reducible refine ev_ifE ?_
  | with_reducible refine ev_chain ?_
  | with_reducible refine et_test ?_
  | with_reducible refine et_B ?_
  | with_reducible refine et_and ?_
  | with_reducible refine et_or ?_
  | with_reducible refine et_not ?_
  | with_reducible refine et_yes ?_
  | with_reducible refine ov_add ?_
  | with_reducible refine ov_sub ?_
  | with_reducible refine ov_lt ?_
  | with_reducible refine ov_le ?_
  | with_reducible refine ov_gt ?_
  | with_reducible refine ov_ge ?_
  | with_reducible refine ov_neg ?_
  | with_reducible refine ov_eqI ?_
  | with_reducible refine ov_neI ?_
  | with_reducible refine ov_eqS ?_
  | with_reducible refine ov_inSg ?_
  | with_reducible refine ov_inS ?_
  | with_reducible refine ov_inI ?_
  | with_reducible refine cv_lenL ?_
  | with_reducible refine cv_lenT ?_
  | with_reducible refine cv_max2 ?_
  | with_reducible refine cv_min2 ?_
  | with_reducible refine cv_intI ?_
  | with_reducible refine cv_intB ?_
  | with_reducible refine cv_tuple ?_
  | with_reducible refine cv_list (.inl rfl) ?_
  | with_reducible refine cv_list (.inr rfl) ?_
  | refine ov_ixT (n := 0) rfl ?_
  | refine ov_ixT (n := 1) rfl ?_
  | refine ov_ixT (n := 2) rfl ?_
  | refine ov_ixT (n := 3) rfl ?_
  | refine ov_ixL (n := 0) rfl ?_
  | refine ov_ixL (n := 1) rfl ?_
  | refine ov_ixL (n := 2) rfl ?_
  | refine iteT ?_
  | refine iteF ?_
  | with_reducible refine iteN (b := !true) rfl ?_
  | with_reducible refine iteP (b := !false) rfl ?_
  | with_reducible refine go_next ?_
  | refine ⟨_, rfl, ?_⟩)
local macro_rules | `(tactic| walk_at "lv") => `(tactic| repeat walk_at "lv1")
variable {P : Program} {w : World} {K : PySem.W.Frag} {mg : Str → Option Value} {base : Heap} {T : Tb}
abbrev spLaw (T : Tb) (K : PySem.W.Frag) : Sp := SpP T (List Int) (fun ns => [Mo.scr K ns]) (fun _ => True) (fun _ => Mo.d (.bool true))
-- slots of law: 0 _law_script, 1 _law_k, 2 _law_source, 3 _law_tree_here, 4 _law_page_here, 5 _law_made, 6 _law_words_here, 7 _law_some, 8 _law_whole, 9 _law_numbers, 10 _law_told, 11 _law_number, 12 _law_naming, 13 _law_places_here, 14 _law_top, 15 _law_name, 16 _law_turn
theorem sc_law : FnScope ["_law_script", "_law_k", "_law_source", "_law_tree_here", "_law_page_here", "_law_made", "_law_words_here", "_law_some", "_law_whole", "_law_numbers", "_law_told", "_law_number", "_law_naming", "_law_places_here", "_law_top", "_law_name", "_law_turn"] ["_law_script"] (defScope s_law) := ⟨rfl, rfl, rfl, by decide +kernel, rfl, by decide +kernel, by decide +kernel⟩
theorem ok_law {fd : FuncData} (c : Fc K mg) (F : FunD K "law" "law" (defArgs s_law) (defBody s_law) (defScope s_law) [] [] (He.ga K "law") fd) (C_ordered : Cal P w K mg base 5 "ordered" ["names"] (spOrdered T)) (C__law_in_order : Cal P w K mg base 5 "_law_in_order" ["_law_some"] (spOrdered T)) : FnOk P w K mg base CX0 66 (He.ga K "law") fd ["_law_script"] (spLaw T K) := by
  have C__law_pool : Cal P w K mg base 1 "_law_pool" ["_law_script", "_law_k"] (spPoolC T K) := ok_pool c
  have C__law_take : Cal P w K mg base 1 "_law_take" ["_law_source", "_law_top"] (spTake T) := ok_take c
  have C__law_tree : Cal P w K mg base 54 "_law_tree" ["_law_source", "_law_most_nodes", "_law_most_binders"] (spTree T) := ok_tree c
  have C__law_page : Cal P w K mg base 33 "_law_page" ["_law_tree_here"] (spPage T) := ok_page c
  have C_Term : CalC P w K mg base 64 "Term" (He.ga K "Term") ["self", "tree"] (spTerm T K) := ok_term c
  have C__law_free : Cal P w K mg base 6 "_law_free" ["_law_page_here"] (spFree T) := ok_free c C__law_in_order
  have C__law_wordlist : Cal P w K mg base 1 "_law_wordlist" ["_law_count", "_law_shut"] (spWordlist T) := ok_wordlist c
  have C__law_unlike : Cal P w K mg base 1 "_law_unlike" ["_law_things"] (spUnlikeS T) := ok_unlikeS c
  have C__law_turned : Cal P w K mg base 2 "_law_turned" ["_law_source", "_law_things"] (spTurned T) := ok_turned c
  have C__law_product : Cal P w K mg base 8 "_law_product" ["_law_page_here", "_law_some"] (spProductL T) := ok_productL c C__law_in_order
  have C_how_many : Cal P w K mg base 9 "how_many" ["term", "pool"] (spHowMany T K) := ok_how_many c C_ordered
  have C_naming_at : Cal P w K mg base 10 "naming_at" ["term", "pool", "number"] (spNamingAt T K) := ok_naming_at c C_ordered
  have C_is_right : Cal P w K mg base 4 "is_right" ["term", "names"] (spRight T K) := ok_is_right c
  have C_number_of : Cal P w K mg base 9 "number_of" ["term", "pool", "names"] (spNumberOf T K) := ok_number_of c C_ordered
  have C__law_places : Cal P w K mg base 1 "_law_places" ["_law_some", "_law_naming"] (spPlaces T) := ok_places c
  have C__law_first : Cal P w K mg base 12 "_law_first" ["_law_made", "_law_some", "_law_top"] (spFirst T K) := ok_first c C_ordered
  have C__law_right_naming : Cal P w K mg base 8 "_law_right_naming" ["_law_source", "_law_page_here", "_law_more"] (spRightN T) := ok_right_naming c C__law_in_order
  refine fn_okP F sc_law (fun _ => rfl) (by decide) fun ns hns cdv Ar outer s Hs Ex hr => ⟨_, (pss_cons (ps_for PassesOwn.never rfl (pi_range1 rfl c.b_range (pa_cons (pe_callB (c_max2 rfl) rfl c.b_max boot_max (pa_cons pe_int (pa_cons (pe_callB (c_min2 rfl) rfl c.b_min boot_min (pa_cons pe_int (pa_cons (pe_callB (c_lenB (K0 := K)) rfl c.b_len boot_len (pa_cons (pv 0) pa_nil)) pa_nil))) pa_nil))) pa_nil)) (tn 1 sc_law.nd) (pss_cons (ps_set (i := 2) sc_law.nd rfl (Or.inr rfl) (pe_fn C__law_pool (hr.mono (by omega)) (pa_cons (pv 0) (pa_cons (pv 1) pa_nil))))
      (pss_cons (ps_set (i := 3) sc_law.nd rfl (Or.inl rfl) (pe_fn C__law_tree (hr.mono (by omega)) (pa_cons (pv 2) (pa_cons pe_int (pa_cons pe_int pa_nil)))))
      (pss_cons (ps_asg (pe_tup (pa_cons (pe_fn C__law_page (hr.mono (by omega)) (pa_cons (pv 3) pa_nil)) (pa_cons (pe_new C_Term (hr.mono (by omega)) (pa_cons (pv 3) pa_nil)) pa_nil))) (pg_tupB (K0 := K) (n := 2) rfl (pgs_cons (tn 4 sc_law.nd) (pgs_cons (tn 5 sc_law.nd) pgs_nil))))
      (pss_cons (ps_set (i := 6) sc_law.nd rfl (Or.inl rfl) (pe_fn C__law_unlike (hr.mono (by omega)) (pa_cons (pe_op op_cat (pe_fn C__law_free (hr.mono (by omega)) (pa_cons (pv 4) pa_nil)) (pe_fn C__law_wordlist (hr.mono (by omega)) (pa_cons pe_int (pa_cons (pe_lst pa_nil) pa_nil)))) pa_nil)))
      (pss_cons (ps_set (i := 7) sc_law.nd rfl (Or.inr rfl) (pe_fn C__law_turned (hr.mono (by omega)) (pa_cons (pv 2) (pa_cons (pe_slice (sl_listB (K0 := K)) (pv 6) po_none (po_some (pe_op op_add pe_int (pe_fn C__law_take (hr.mono (by omega)) (pa_cons (pv 2) (pa_cons pe_int pa_nil)))))) pa_nil))))
      (pss_cons (ps_set (i := 8) sc_law.nd rfl (Or.inr rfl) (pe_fn C__law_product (hr.mono (by omega)) (pa_cons (pv 4) (pa_cons (pv 7) pa_nil))))
      (pss_cons (ps_if (PW.pt (pw_or (pt_cmpR op_ne (pe_fn C_how_many (hr.mono (by omega)) (pa_cons (pv 5) (pa_cons (pv 7) pa_nil))) (pv 8) (nomark _)) (pw_or1 (pt_cmpR op_lt (pv 8) pe_int (nomark _))))) (pss_one (ps_ret pe_bl)) pss_nil)
      (pss_cons (ps_set (i := 9) sc_law.nd rfl (Or.inl rfl) (pe_callB cr_sortedI rfl c.b_sorted boot_sorted (pa_cons (pe_op op_cat (pe_lst (pa_cons pe_int (pa_cons (pe_op op_sub (pv 8) pe_int) pa_nil))) (pe_lc (own := [("_law_turn", 16)]) rfl sc_law.nd (pi_range1 rfl c.b_range (pa_cons pe_int pa_nil)) (blkOk_by (N := ["_law_script", "_law_k", "_law_source", "_law_tree_here", "_law_page_here", "_law_made", "_law_words_here", "_law_some", "_law_whole", "_law_numbers", "_law_told", "_law_number", "_law_naming", "_law_places_here", "_law_top", "_law_name", "_law_turn"]) (sc := defScope s_law) (by decide +kernel)) (fun _ _ _ _ _ => (tn 16 sc_law.nd)) (fun _ _ _ _ _ => pts_nil) (fun _ _ _ _ _ => (pe_fn C__law_take (hr.mono (by omega)) (pa_cons (pv 2) (pa_cons (pv 8) pa_nil)))))) pa_nil)))
      (pss_cons (ps_setLc (i := 10) (own := [("_law_number", 11)]) rfl sc_law.nd rfl rfl (sw_true rfl rfl rfl (by decide +kernel)) (pi_listB (K0 := K) (pv 9)) (blkOk_by (N := ["_law_script", "_law_k", "_law_source", "_law_tree_here", "_law_page_here", "_law_made", "_law_words_here", "_law_some", "_law_whole", "_law_numbers", "_law_told", "_law_number", "_law_naming", "_law_places_here", "_law_top", "_law_name", "_law_turn"]) (sc := defScope s_law) (by decide +kernel)) (fun _ _ _ _ _ => (tn 11 sc_law.nd)) (fun _ _ _ _ _ => pts_nil) (fun _ _ _ _ _ => (pe_fn C_naming_at (hr.mono (by omega)) (pa_cons (pv 5) (pa_cons (pv 7) (pa_cons (pv 11) pa_nil))))))
      (pss_cons (ps_for PassesOwn.never rfl (pi_zip rfl c.b_zip (pa_cons (pv 9) (pa_cons (pv 10) pa_nil))) (pg_tupB (K0 := K) (n := 2) rfl (pgs_cons (tn 11 sc_law.nd) (pgs_cons (tn 12 sc_law.nd) pgs_nil))) (pss_cons (ps_if (pt_not (pt_val (pe_fn C_is_right (hr.mono (by omega)) (pa_cons (pv 5) (pa_cons (pv 12) pa_nil))))) (pss_one (ps_ret pe_bl)) pss_nil)
      (pss_cons (ps_if (pt_cmpR (op_neDB (K0 := K) hr.units) (pe_lc (own := [("_law_name", 15)]) rfl sc_law.nd (pi_tupB (K0 := K) (pv 12)) (blkOk_by (N := ["_law_script", "_law_k", "_law_source", "_law_tree_here", "_law_page_here", "_law_made", "_law_words_here", "_law_some", "_law_whole", "_law_numbers", "_law_told", "_law_number", "_law_naming", "_law_places_here", "_law_top", "_law_name", "_law_turn"]) (sc := defScope s_law) (by decide +kernel)) (fun _ _ _ _ _ => (tn 15 sc_law.nd)) (fun _ _ _ _ _ => (pts_one (pt_cmpR (op_notIn_seqB (K0 := K)) (pv 15) (pv 7) rfl))) (fun _ _ _ _ _ => (pv 15))) (pe_lst pa_nil) (nomark _)) (pss_one (ps_ret pe_bl)) pss_nil)
      (pss_one (ps_if (pt_cmpR op_ne (pe_fn C_number_of (hr.mono (by omega)) (pa_cons (pv 5) (pa_cons (pv 7) (pa_cons (pv 12) pa_nil)))) (pv 11) (nomark _)) (pss_one (ps_ret pe_bl)) pss_nil)))))
      (pss_cons (ps_setLc (i := 13) (own := [("_law_naming", 12)]) rfl sc_law.nd rfl rfl (sw_true rfl rfl rfl (by decide +kernel)) (pi_listB (K0 := K) (pv 10)) (blkOk_by (N := ["_law_script", "_law_k", "_law_source", "_law_tree_here", "_law_page_here", "_law_made", "_law_words_here", "_law_some", "_law_whole", "_law_numbers", "_law_told", "_law_number", "_law_naming", "_law_places_here", "_law_top", "_law_name", "_law_turn"]) (sc := defScope s_law) (by decide +kernel)) (fun _ _ _ _ _ => (tn 12 sc_law.nd)) (fun _ _ _ _ _ => pts_nil) (fun _ _ _ _ _ => (pe_fn C__law_places (hr.mono (by omega)) (pa_cons (pv 7) (pa_cons (pv 12) pa_nil)))))
      (pss_cons (ps_if (pt_cmpR (op_neDB (K0 := K) hr.units) (pv 13) (pe_callB (cr_sortedR hr.units) rfl c.b_sorted boot_sorted (pa_cons (pv 13) pa_nil)) (nomark _)) (pss_one (ps_ret pe_bl)) pss_nil)
      (pss_cons (ps_set (i := 14) sc_law.nd rfl (Or.inl rfl) (pe_callB (c_min2 rfl) rfl c.b_min boot_min (pa_cons (pv 8) (pa_cons pe_int pa_nil))))
      (pss_cons (ps_if (pt_cmpR (op_neDB (K0 := K) hr.units) (pe_fn C__law_first (hr.mono (by omega)) (pa_cons (pv 5) (pa_cons (pv 7) (pa_cons (pv 14) pa_nil)))) (pe_lc (own := [("_law_number", 11)]) rfl sc_law.nd (pi_range1 rfl c.b_range (pa_cons (pv 14) pa_nil)) (blkOk_by (N := ["_law_script", "_law_k", "_law_source", "_law_tree_here", "_law_page_here", "_law_made", "_law_words_here", "_law_some", "_law_whole", "_law_numbers", "_law_told", "_law_number", "_law_naming", "_law_places_here", "_law_top", "_law_name", "_law_turn"]) (sc := defScope s_law) (by decide +kernel)) (fun _ _ _ _ _ => (tn 11 sc_law.nd)) (fun _ _ _ _ _ => pts_nil) (fun _ _ _ _ _ => (pe_fn C_naming_at (hr.mono (by omega)) (pa_cons (pv 5) (pa_cons (pv 7) (pa_cons (pv 11) pa_nil)))))) (nomark _)) (pss_one (ps_ret pe_bl)) pss_nil)
      (pss_cons (ps_set (i := 12) sc_law.nd rfl (Or.inl rfl) (pe_fn C__law_right_naming (hr.mono (by omega)) (pa_cons (pv 2) (pa_cons (pv 4) (pa_cons pe_int pa_nil)))))
      (pss_one (ps_if (pt_cmpR (op_eqDB (K0 := K) hr.units) (pe_lc (own := [("_law_name", 15)]) rfl sc_law.nd (pi_tupB (K0 := K) (pv 12)) (blkOk_by (N := ["_law_script", "_law_k", "_law_source", "_law_tree_here", "_law_page_here", "_law_made", "_law_words_here", "_law_some", "_law_whole", "_law_numbers", "_law_told", "_law_number", "_law_naming", "_law_places_here", "_law_top", "_law_name", "_law_turn"]) (sc := defScope s_law) (by decide +kernel)) (fun _ _ _ _ _ => (tn 15 sc_law.nd)) (fun _ _ _ _ _ => (pts_one (pt_cmpR (op_notIn_seqB (K0 := K)) (pv 15) (pv 7) rfl))) (fun _ _ _ _ _ => (pv 15))) (pe_lst pa_nil) (nomark _)) (pss_one (ps_if (pt_cmpR (op_neDB (K0 := K) hr.units) (pe_fn C_naming_at (hr.mono (by omega)) (pa_cons (pv 5) (pa_cons (pv 7) (pa_cons (pe_fn C_number_of (hr.mono (by omega)) (pa_cons (pv 5) (pa_cons (pv 7) (pa_cons (pv 12) pa_nil)))) pa_nil)))) (pv 12) (nomark _)) (pss_one (ps_ret pe_bl)) pss_nil)) pss_nil))))))))))))))))))
      (pss_one (ps_ret pe_bl))), fun G H A0 Q kQ => ?_⟩
  refine go_seq (go_for (vs := [1]) (ei_range (ev_cb (ea_cons (ev_int (ea_cons (ev_cb (ea_cons (ev_int (ea_cons (ev_cb (ea_cons (ev_var rfl (ea_nil (cv_lenScr (ea_nil (cv_min2 (ea_nil (cv_max2 ?_)))))))))))))))))))
  obtain ⟨n, hn, hn8⟩ : ∃ n : Nat, (if (if (ns.length : Int) < 8 then (ns.length : Int) else 8) > 1 then (if (ns.length : Int) < 8 then (ns.length : Int) else 8) else 1) = (n : Int) ∧ n ≤ 8 := by
    refine ⟨(if (if (ns.length : Int) < 8 then (ns.length : Int) else 8) > 1 then (if (ns.length : Int) < 8 then (ns.length : Int) else 8) else 1).toNat, ?_, ?_⟩ <;> split <;> (try split) <;> omega
  rw [hn]
  refine ⟨n, rfl, by omega, ?_⟩
  refine loopA (fun (i : Nat) => PyData.int (i : Int)) (List.range n) (fun k ρ M => ∃ x1 x2 x3 x4 x5 x6 x7 x8 x9 x10 x11 x12 x13 x14 x15 x16, ρ = [some (Mo.scr K ns), x1, x2, x3, x4, x5, x6, x7, x8, x9, x10, x11, x12, x13, x14, x15, x16]) ⟨_, _, _, _, _, _, _, _, _, _, _, _, _, _, _, _, rfl⟩ ?_ ?_
  · rintro k i ρ1 M1 hk ⟨x1, x2, x3, x4, x5, x6, x7, x8, x9, x10, x11, x12, x13, x14, x15, x16, rfl⟩
    refine ⟨_, tgt_name (by simp), fun A N hA hN => ?_⟩
    have hi : i < 8 := by
      have := List.mem_range.mp (List.mem_of_getElem? hk)
      omega
    with_reducible refine go_seq ?_
    with_reducible refine go_set ?_
    refine ev_call (ea_cons (ev_var rfl (ea_cons (ev_var rfl (ea_nil ⟨(ns, i), M1, rfl, rfl, hi, ?_⟩)))))
    rintro χ M' ⟨p, s0, rfl, rfl⟩
    with_reducible refine go_seq ?_
    with_reducible refine go_set ?_
    refine ev_src (ea_cons (ev_var rfl (ea_cons (ev_int (ea_cons (ev_int (ea_nil ⟨(), p, s0, 0, rfl, rfl, trivial, ?_⟩)))))))
    rintro d s1 ⟨ws, t, hw, rfl, ht, hts, htb⟩
    have hs30 : t.size ≤ 30 := by omega
    have hgood : GoodT t := ⟨hs30, fun u hu => hw.2.2 u.1 (okW_uses ht u hu)⟩
    have hnb7 : t.pg.nb ≤ 7 := by
      have h2 : t.pg.nb = t.nb := t.pg_nb
      omega
    with_reducible refine go_seq ?_
    refine go_asg (vs := [4, 5]) (ev_tupM (ea_cons (ev_callP (ea_cons (ev_var rfl (ea_nil ⟨t, rfl, hs30, ?_⟩))))))
    refine ea_cons (ev_make (ea_cons (ev_var rfl (ea_nil ⟨t, rfl, ⟨hs30, okW_allN hw.2.2 t ht⟩, ea_nil ⟨sz10 (by show 2 ≤ 10; omega), _, tgt_tp rfl (tgts_cons (tgt_name (by simp)) (tgts_cons (tgt_name (by simp)) tgts_nil)), ?_⟩⟩))))
    -- words
    have hfl : (ordS (freeRaw t.pg)).length ≤ 30 := by
      have h1 := ordS_len (freeRaw t.pg)
      have h2 := txts_len t.pg t.pg.uses
      have h3 := uses30 hgood
      unfold freeRaw at h1 ⊢
      omega
    have hfn : ∀ x ∈ ordS (freeRaw t.pg), nmB x = true := fun x hx => free_nm hgood (fun u hu => hu) x (mem_ordS.mp hx)
    with_reducible refine go_seq ?_
    with_reducible refine go_set ?_
    refine ev_callP (ea_cons (ev_op (ev_callP (ea_cons (ev_var rfl (ea_nil ⟨t, rfl, hgood, ?_⟩))))))
    refine ev_callP (ea_cons (ev_int (ea_cons (ev_lst (ea_nil ⟨[], rfl, by simp, ea_nil ⟨(60, []), rfl, trivial, ov_cat ?_ (ea_nil ⟨ordS (freeRaw t.pg) ++ wordsN 60 [], ?_, ?_, ?_⟩)⟩⟩)))))
    · rw [List.length_map, List.length_map, words60_len]
      exact sz_small (by omega)
    · rw [← List.map_append] <;> rfl
    · rw [List.length_append, words60_len]
      omega
    have hul : 60 ≤ (uq (ordS (freeRaw t.pg) ++ wordsN 60 [])).length := by
      have h1 := uq_long (as := ordS (freeRaw t.pg)) words60_nd
      rw [words60_len] at h1
      exact h1
    have hul2 : (uq (ordS (freeRaw t.pg) ++ wordsN 60 [])).length ≤ 90 := by
      have h1 := uq_len (ordS (freeRaw t.pg) ++ wordsN 60 [])
      rw [List.length_append, words60_len] at h1
      omega
    have hun : ∀ x ∈ uq (ordS (freeRaw t.pg) ++ wordsN 60 []), nmB x = true := fun x hx => by
      rcases List.mem_append.mp ((mem_uq _ _).mp hx) with h | h
      · exact hfn x h
      · exact words60_nm x h
    have hud := uq_nodup (ordS (freeRaw t.pg) ++ wordsN 60 [])
    generalize uq (ordS (freeRaw t.pg) ++ wordsN 60 []) = us at hul hul2 hun hud
    -- the pool
    with_reducible refine go_seq ?_
    with_reducible refine go_set ?_
    refine ev_src (ea_cons (ev_var rfl (ea_cons ?_)))
    refine ev_slL (ev_var rfl ⟨_, rfl, eo_none (eo_some (ev_op (ev_int (ev_src (ea_cons (ev_var rfl (ea_cons (ev_int (ea_nil ⟨51, p, s1, 0, rfl, rfl, ⟨by omega, by decide⟩, ?_⟩)))))))))⟩)
    rintro d s2 ⟨r, hr, rfl⟩
    refine ov_add ⟨_, rfl, ?_⟩
    rw [show ((10 : Int) + (r : Int)) = ((10 + r : Nat) : Int) by omega, cutD_to2, ← List.map_take]
    refine ea_nil ⟨us.take (10 + r), p, s2, 0, rfl, rfl, ⟨?_, fun x hx => hun x (List.mem_of_mem_take hx)⟩, ?_⟩
    · rw [List.length_take]
      omega
    rintro d s3 ⟨pool, hperm, rfl⟩
    have hpl : pool.length = 10 + r := by
      rw [hperm.length_eq, List.length_take]
      omega
    have gp : GoodPool pool := ⟨by omega, fun x hx => hun x (List.mem_of_mem_take (hperm.mem_iff.mp hx)), hperm.nodup_iff.mpr (hud.sublist (List.take_sublist _ _))⟩
    have rd : Ready t pool := ready_of hw ht hs30 gp (by omega)
    have hpos := whole_pos rd
    have hbig : wholeN t.pg pool ≤ 60 ^ 30 := by
      have := sizes_prod hgood gp 0
      rw [List.drop_zero] at this
      exact this
    -- how many
    with_reducible refine go_seq ?_
    with_reducible refine go_set ?_
    refine ev_callP (ea_cons (ev_var rfl (ea_cons (ev_var rfl (ea_nil ⟨(t, pool), rfl, ⟨hgood, gp⟩, ?_⟩)))))
    with_reducible refine go_seq ?_
    refine go_if (et_or (et_test (ev_op (ev_callP (ea_cons (ev_var rfl (ea_cons (ev_var rfl (ea_nil ⟨(t, pool), rfl, ⟨hgood, gp⟩, ev_var rfl (ov_neI ⟨_, rfl, ?_⟩)⟩)))))))))
    refine iteN (by simp) ?_
    refine et_test (ev_op (ev_var rfl (ev_int (ov_lt ⟨_, rfl, ?_⟩))))
    refine iteN (decide_eq_false (show ¬ ((wholeN t.pg pool : Nat) : Int) < 1 by omega)) ?_
    with_reducible refine go_next ?_
    -- the numbers
    with_reducible refine go_seq ?_
    with_reducible refine go_set ?_
    refine ev_cb (ea_cons (ev_op (ev_lst (ea_cons (ev_int (ea_cons (ev_op (ev_var rfl (ev_int (ov_sub ?_))))))))))
    rw [show (((wholeN t.pg pool : Nat) : Int) - 1) = ((wholeN t.pg pool - 1 : Nat) : Int) by omega]
    refine ea_nil ⟨natL [0, wholeN t.pg pool - 1], rfl, sz10 (by show 2 ≤ 10; omega), ?_⟩
    refine ev_draws (R := M1) ⟨hpos, hbig⟩ (by simp) (fun _ => rfl) (fun _ => rfl) (ei_range (ev_int ⟨6, rfl, by omega, 6, s3, rfl, rfl, by omega, fun xs s4 e1 e2 => ?_⟩))
    refine ov_cat (by rw [natL_len, natL_len, e1]; exact sz10 (by show 2 + 6 ≤ 10; omega)) (ea_nil ?_)
    have e3 : natL [0, wholeN t.pg pool - 1] ++ natL xs = ((0 :: (wholeN t.pg pool - 1) :: xs).map fun (n : Nat) => (n : Int)).map PyData.int := by
      unfold natL
      rw [← List.map_append, List.map_map] <;> rfl
    rw [e3]
    refine cv_sortI fun ns' z1 z2 => ?_
    rw [sorted_nat z1 z2]
    have hup := sortN_up (0 :: (wholeN t.pg pool - 1) :: xs)
    have hlt : ∀ m ∈ sortN (0 :: (wholeN t.pg pool - 1) :: xs), m < wholeN t.pg pool := fun m hm => by
      have hm2 := (sortN_perm _).mem_iff.mp hm
      rcases List.mem_cons.mp hm2 with h | h
      · omega
      · rcases List.mem_cons.mp h with h | h
        · omega
        · exact e2 m h
    have hl8 : (sortN (0 :: (wholeN t.pg pool - 1) :: xs)).length = 8 := by
      rw [sortN_len, List.length_cons, List.length_cons, e1]
    have e4 : intL ((sortN (0 :: (wholeN t.pg pool - 1) :: xs)).map fun (n : Nat) => (n : Int)) = .list (natL (sortN (0 :: (wholeN t.pg pool - 1) :: xs))) := by
      show PyData.list (((sortN (0 :: (wholeN t.pg pool - 1) :: xs)).map fun (n : Nat) => (n : Int)).map PyData.int) = _
      unfold natL
      rw [List.map_map] <;> rfl
    rw [e4]
    generalize sortN (0 :: (wholeN t.pg pool - 1) :: xs) = nsS at hup hlt hl8
    -- the namings
    with_reducible refine go_seq ?_
    with_reducible refine go_set ?_
    refine ev_lcB (fun (n : Nat) => PyData.int (n : Int)) (namD t pool) (ei_list (ev_var rfl ⟨_, rfl, nsS, rfl, sz10 (by omega), fun m hm => ⟨_, tgt_name (by simp), ?_⟩, ?_⟩))
    · exact ev_callP (ea_cons (ev_var rfl (ea_cons (ev_var rfl (ea_cons (ev_var rfl (ea_nil ⟨(t, pool, m), rfl, ⟨hgood, gp, hlt m hm, (naming_whole rd (hlt m hm)).1⟩, rfl, rfl⟩)))))))
    with_reducible refine go_seq ?_
    refine go_for (vs := [11, 12]) (ei_zip (ea_cons (ev_var rfl (ea_cons (ev_var rfl (ea_nil ⟨_, _, rfl, ?_⟩))))))
    have e5 : zipD (natL nsS) (nsS.map (namD t pool)) = nsS.map fun (m : Nat) => PyData.tuple [.int (m : Int), namD t pool m] := by
      unfold zipD natL
      rw [List.zip_map', List.map_map] <;> rfl
    rw [e5]
    refine loopA (fun (m : Nat) => PyData.tuple [.int (m : Int), namD t pool m]) nsS (fun k ρ M => M = srcE p s4 :: M1 ∧ ∃ y11 y12 y13 y14 y15 y16, ρ = [some (Mo.scr K ns), some (Mo.d (.int (i : Int))), some (Mo.adr p), some (Mo.d t.en), some (pageV t), some (tmV K t), some (Mo.d (strL us)), some (Mo.d (strL pool)), some (Mo.d (.int ((wholeN t.pg pool : Nat) : Int))), some (Mo.d (.list (natL nsS))), some (Mo.d (.list (nsS.map (namD t pool)))), y11, y12, y13, y14, y15, y16]) ⟨rfl, _, _, _, _, _, _, rfl⟩ ?_ ?_
    · rintro k2 m ρ2 M2 hk2 ⟨rfl, y11, y12, y13, y14, y15, y16, rfl⟩
      have hm := hlt m (List.mem_of_getElem? hk2)
      obtain ⟨b1, b2, b3⟩ := naming_whole rd hm
      refine ⟨_, tgt_tup rfl (tgts_cons (tgt_name (by simp)) (tgts_cons (tgt_name (by simp)) tgts_nil)), fun A2 N2 hA2 hN2 => ?_⟩
      with_reducible refine go_seq ?_
      refine go_if (et_not (et_test (ev_callP (ea_cons (ev_var rfl (ea_cons (ev_var rfl (ea_nil ⟨(t, nam t pool m), rfl, ⟨hs30, (b2.numOk rd).good, b2.right⟩, _, rfl, ?_⟩))))))))
      refine iteN (b := !true) rfl ?_
      with_reducible refine go_next ?_
      with_reducible refine go_seq ?_
      refine go_if (et_test (ev_op (ev_lcA PyData.str (fun x => !decide (x ∈ pool)) PyData.str (ei_tup (ev_var rfl ⟨_, rfl, nam t pool m, rfl, ?_, fun x hx => ⟨_, tgt_name (by simp), ?_⟩, ?_⟩)))))
      · rw [b2.len]; exact sz10 (by omega)
      · refine et_test (ev_op (ev_var rfl (ev_var rfl (ov_inS ⟨_, rfl, ?_, rfl, fun _ => ev_var rfl ⟨rfl, rfl⟩⟩))))
        rw [if_pos rfl]
      have e6 : (nam t pool m).filter (fun x => !decide (x ∈ pool)) = [] := List.filter_eq_nil_iff.mpr fun x hx => by
        rw [decide_eq_true (b2.part.sub x hx)]
        decide
      rw [e6]
      refine ev_lst (ea_nil ⟨[], rfl, by simp, ov_neD shp_nil shp_nil ⟨_, rfl, ?_⟩⟩)
      rw [List.map_nil, eqv_nil]
      refine iteN (b := !true) rfl ?_
      with_reducible refine go_next ?_
      refine go_if (et_test (ev_op (ev_callP (ea_cons (ev_var rfl (ea_cons (ev_var rfl (ea_cons (ev_var rfl (ea_nil ⟨(t, pool, nam t pool m), rfl, ⟨hgood, gp, b2.numOk rd⟩, ev_var rfl (ov_neI ⟨_, rfl, ?_⟩)⟩))))))))))
      rw [show numTo t.pg pool (nam t pool m) t.pg.nb = m from b3]
      refine iteN (by simp) ?_
      with_reducible refine go_next ?_
      exact hN2 _ _ ⟨rfl, _, _, _, _, _, _, rfl⟩
    rintro ρ2 M2 ⟨rfl, y11, y12, y13, y14, y15, y16, rfl⟩
    -- the places
    with_reducible refine go_seq ?_
    with_reducible refine go_set ?_
    refine ev_lcB (namD t pool) (fun m => encI (plcI t pool m)) (ei_list (ev_var rfl ⟨_, rfl, nsS, rfl, sz10 (by omega), fun m hm => ⟨_, tgt_name (by simp), ?_⟩, ?_⟩))
    · obtain ⟨b1, b2, b3⟩ := naming_whole rd (hlt m hm)
      exact ev_callP (ea_cons (ev_var rfl (ea_cons (ev_var rfl (ea_nil ⟨(pool, nam t pool m), rfl, ⟨by show (nam t pool m).length ≤ 100; rw [b2.len]; omega, b2.part.sub⟩, congrArg Mo.d (plc_enc m).symm, rfl⟩)))))
    with_reducible refine go_seq ?_
    refine go_if (et_test (ev_op (ev_var rfl (ev_cb (ea_cons (ev_var rfl (ea_nil ?_)))))))
    have e7 : (nsS.map fun m => encI (plcI t pool m)) = (nsS.map (plcI t pool)).map encI := by rw [List.map_map] <;> rfl
    have hshp : Shp 2 (.list ((nsS.map (plcI t pool)).map encI)) := shp_list (m := 1) fun d hd => by
      obtain ⟨l, hl, rfl⟩ := List.mem_map.mp hd
      obtain ⟨m, hm, rfl⟩ := List.mem_map.mp hl
      exact shp_plc m
    rw [e7]
    refine cv_sortedR (by rw [List.length_map]; omega) ?_ (ov_neD (hshp.ok (by decide)) (hshp.ok (by decide)) ⟨_, rfl, ?_⟩)
    · rw [List.pairwise_map]
      exact hup.imp_of_mem fun ha hb hab => plc_le rd hab (hlt _ hb)
    rw [eqv_self hshp]
    refine iteN (b := !true) rfl ?_
    with_reducible refine go_next ?_
    -- the first few
    with_reducible refine go_seq ?_
    with_reducible refine go_set ?_
    refine ev_cb (ea_cons (ev_var rfl (ea_cons (ev_int (ea_nil (cv_min2 ?_))))))
    obtain ⟨top, ht0, ht1, ht2, ht3⟩ : ∃ top : Nat, (if (4 : Int) < ((wholeN t.pg pool : Nat) : Int) then (4 : Int) else ((wholeN t.pg pool : Nat) : Int)) = (top : Int) ∧ 0 < top ∧ top ≤ 4 ∧ top ≤ wholeN t.pg pool := by
      by_cases h4 : (4 : Int) < ((wholeN t.pg pool : Nat) : Int)
      · exact ⟨4, by rw [if_pos h4] <;> rfl, by omega, by omega, by omega⟩
      · exact ⟨wholeN t.pg pool, by rw [if_neg h4], hpos, by omega, by omega⟩
    rw [ht0]
    have hshf : Shp 2 (.list ((List.range top).map (namD t pool))) := shp_list (m := 1) fun d hd => by
      obtain ⟨m, hm, rfl⟩ := List.mem_map.mp hd
      have := List.mem_range.mp hm
      exact shp_namD rd (by omega)
    with_reducible refine go_seq ?_
    refine go_if (et_test (ev_op (ev_callP (ea_cons (ev_var rfl (ea_cons (ev_var rfl (ea_cons (ev_var rfl (ea_nil ⟨(t, pool, top), rfl, ⟨hgood, gp, hnb7, ht1, ht2, ht3, fun n hn => (naming_whole rd hn).1⟩, ?_⟩))))))))))
    refine ev_lcB (fun (n : Nat) => PyData.int (n : Int)) (namD t pool) (ei_range (ev_var rfl ⟨top, rfl, by omega, List.range top, rfl, ?_, fun m hm => ⟨_, tgt_name (by simp), ?_⟩, ov_neD (hshf.ok (by decide)) (hshf.ok (by decide)) ⟨_, rfl, ?_⟩⟩))
    · rw [List.length_range]; exact sz10 (by omega)
    · have hm2 := List.mem_range.mp hm
      have hm3 : m < wholeN t.pg pool := by omega
      exact ev_callP (ea_cons (ev_var rfl (ea_cons (ev_var rfl (ea_cons (ev_var rfl (ea_nil ⟨(t, pool, m), rfl, ⟨hgood, gp, hm3, (naming_whole rd hm3).1⟩, rfl, rfl⟩)))))))
    rw [eqv_self hshf]
    refine iteN (b := !true) rfl ?_
    with_reducible refine go_next ?_
    -- a right naming
    with_reducible refine go_seq ?_
    with_reducible refine go_set ?_
    refine ev_src (ea_cons (ev_var rfl (ea_cons (ev_var rfl (ea_cons (ev_int (ea_nil ⟨t, p, s4, 0, rfl, rfl, hgood, ?_⟩)))))))
    rintro d s5 ⟨nm, rfl, hg, hap⟩
    refine go_if (et_test (ev_op (ev_lcA PyData.str (fun x => !decide (x ∈ pool)) PyData.str (ei_tup (ev_var rfl ⟨_, rfl, nm, rfl, ?_, fun x hx => ⟨_, tgt_name (by simp), ?_⟩, ?_⟩)))))
    · rw [hg.1]; exact sz10 (by omega)
    · refine et_test (ev_op (ev_var rfl (ev_var rfl (ov_inS ⟨_, rfl, ?_, rfl, fun _ => ev_var rfl ⟨rfl, rfl⟩⟩))))
      rw [if_pos rfl]
    have hshn : Shp 1 (.tuple (nm.map PyData.str)) := shp_tup (m := 0) fun d hd => by
      obtain ⟨x, hx, rfl⟩ := List.mem_map.mp hd
      exact shp_str (strOk_nm (hg.2.2 x hx))
    refine ev_lst (ea_nil ⟨[], rfl, by simp, ov_eqD ((shp_list (m := 0) fun d hd => ?_).ok (by decide)) shp_nil ⟨_, rfl, ?_⟩⟩)
    · obtain ⟨x, hx, rfl⟩ := List.mem_map.mp hd
      exact shp_str (strOk_nm (hg.2.2 x (List.mem_filter.mp hx).1))
    rw [eqv_empty]
    by_cases hin : ∀ x ∈ nm, x ∈ pool
    · have e8 : nm.filter (fun x => !decide (x ∈ pool)) = [] := List.filter_eq_nil_iff.mpr fun x hx => by
        rw [decide_eq_true (hin x hx)]
        decide
      have hwn : Whole t pool nm := ⟨⟨Nat.le_of_eq hg.1, hap, hin⟩, hg.1⟩
      obtain ⟨w1, w2⟩ := whole_naming rd hwn
      rw [e8]
      refine iteP (b := true) rfl ?_
      refine go_if (et_test (ev_op (ev_callP (ea_cons (ev_var rfl (ea_cons (ev_var rfl (ea_cons (ev_callP (ea_cons (ev_var rfl (ea_cons (ev_var rfl (ea_cons (ev_var rfl (ea_nil ⟨(t, pool, nm), rfl, ⟨hgood, gp, hwn.numOk rd⟩, ?_⟩))))))))))))))))
      refine ea_nil ⟨(t, pool, numTo t.pg pool nm t.pg.nb), rfl, ⟨hgood, gp, w1, (naming_whole rd w1).1⟩, ?_⟩
      have e9 : PyData.eqv (.tuple ((namesBy pool t.pg.allLive [] (numTo t.pg pool nm t.pg.nb)).map PyData.str)) (.tuple (nm.map PyData.str)) = true := by
        rw [w2]
        exact eqv_self hshn
      have e10 : SeqAt.shaped (.tuple ((namesBy pool t.pg.allLive [] (numTo t.pg pool nm t.pg.nb)).map PyData.str)) = true := by
        rw [w2]
        exact hshn.ok (by decide)
      refine ev_var rfl (ov_neD e10 (hshn.ok (by decide)) ⟨_, rfl, ?_⟩)
      refine iteN (b := !PyData.eqv (.tuple ((namesBy pool t.pg.allLive [] (numTo t.pg pool nm t.pg.nb)).map PyData.str)) (.tuple (nm.map PyData.str))) (by rw [e9] <;> rfl) ?_
      with_reducible refine go_next ?_
      exact hN _ _ ⟨_, _, _, _, _, _, _, _, _, _, _, _, _, _, _, _, rfl⟩
    · refine iteN ?_ ?_
      · cases hq : nm.filter (fun x => !decide (x ∈ pool)) with
        | nil => exact absurd (fun x hx => by
            have := List.filter_eq_nil_iff.mp hq x hx
            simpa using this) hin
        | cons y r => rfl
      with_reducible refine go_next ?_
      exact hN _ _ ⟨_, _, _, _, _, _, _, _, _, _, _, _, _, _, _, _, rfl⟩
  · rintro ρ1 M1 ⟨x1, x2, x3, x4, x5, x6, x7, x8, x9, x10, x11, x12, x13, x14, x15, x16, rfl⟩
    show Go _ (tRet (tC (V.bl true)) { nx := fun _ H' => Q .non H', rt := Q }) _ _
    exact go_ret (ev_bl (kQ _))
end Lv
/-! #### End -/
namespace Lv
open PySem L2 StX PyProof.Rows
/-- the heap without its tables of code -/
def noTb (H : Hp) : Hp := fun a => match H a with
  | some (.tbl _) => none
  | o => o
theorem noTb_some {H : Hp} {a : Addr} {o : HO} (h : noTb H a = some o) : H a = some o := by
  unfold noTb at h
  split at h
  · cases h
  · exact h
theorem noTb_at {H : Hp} {a : Addr} {o : HO} (h : H a = some o) (n : ∀ ps, o ≠ .tbl ps) : noTb H a = some o := by
  unfold noTb
  rw [h]
  split
  · rename_i ps e
    exact absurd (Option.some.inj e) (n ps)
  · rfl
theorem noTb_tbl {H : Hp} {a : Addr} {ps : Array Value} (h : noTb H a = some (.tbl ps)) : False := by
  have e := noTb_some h
  unfold noTb at h
  rw [e] at h
  cases h
theorem noTb_sql {K : PySem.W.Frag} {H : Hp} {a : Addr} {xs : List V} (h : SqL K H a xs) : SqL K (noTb H) a xs := by
  rcases h with (h | ⟨o, h⟩) | h
  · exact .inl (.inl (noTb_at h (fun ps z => by cases z)))
  · exact .inl (.inr ⟨o, noTb_at h (fun ps z => by cases z)⟩)
  · exact .inr h
theorem law_asked {K : PySem.W.Frag} {H : Hp} {a : Addr} {ns : List Int} (hT : ∀ p ∈ tf.map (He.cT K), H p.2 = some (.tbl #[])) (hS : SqL K H a (ns.map V.int)) :
    spLaw (TT K) K [.ref a] H (fun v _ => v = .bl true) fun _ _ _ => False := by
  refine ⟨ns, noTb H, trivial, .cons ⟨a, rfl, noTb_sql hS⟩ .nil, ⟨fun _ _ h => noTb_some h, fun p hp => ?_, fun _ _ h => noTb_tbl h, List.nodup_nil, fun e he => absurd he List.not_mem_nil⟩, ?_⟩
  · rcases List.mem_cons.mp hp with h | h
    · rw [h]
      exact LamX.TabS.nil (hT (He.cT K dOr) (List.mem_map_of_mem List.mem_cons_self))
    · rw [List.mem_singleton.mp h]
      exact LamX.TabS.nil (hT (He.cT K dLo) (List.mem_map_of_mem (List.mem_cons_of_mem _ List.mem_cons_self)))
  · rintro v φ M' G' H' ⟨rfl, rfl⟩ hv _
    exact rep_bool hv
theorem at_law {w : World} {K : PySem.W.Frag} {mg : Str → Option Value} {f : Addr} {h : Heap} (X : K.In h) (G : h.Ns mainGlobals mg) (cX : He.SaysX fa fn [] tf exC w h K) (hf : mg ("law" : Str) = some (.ref f)) :
    LamX.LawAtS PySem.Challenge.rw_livenames_k14_whole_great_pools w K CX0 66 63 "_law_script" mg f h := by
  have c : Fc K mg := ⟨cX.t.d, ⟨h, X, G⟩, (He.ba cX.more).1⟩
  obtain ⟨fd, F⟩ := c.f_law
  have e := hf.symm.trans c.g_law
  cases e
  have b := FunD.bindsA (ps := ["_law_script"]) F fun _ _ _ _ _ _ us hl => match us, hl with | [_], _ => rfl
  have mm : ∀ {q : Addr × Addr}, q ∈ tf.map (He.cT K) → ∃ p ∈ tf, He.cT K p = q := fun h => List.mem_map.mp h
  refine ⟨fd, tf.map (He.cT K), spLaw (TT K) K, fun q hq => ?_, fun q hq => ?_, fun q hq => ?_, fun s u => b s [u] rfl, fun H a ns _ _ hT hS => law_asked hT hS, fun base _ _ hTB => ?_⟩
  · obtain ⟨p, hp, rfl⟩ := mm hq
    exact cX.empty p hp
  · obtain ⟨p, hp, rfl⟩ := mm hq
    exact cX.out p hp
  · obtain ⟨p, hp, rfl⟩ := mm hq
    exact PySem.W.codeHd_of_K X (cX.hd p hp)
  · have tb : Tbl K mg base := ⟨hTB _ (List.mem_map_of_mem List.mem_cons_self), hTB _ (List.mem_map_of_mem (List.mem_cons_of_mem _ List.mem_cons_self)), of_decide_eq_true (He.ba cX.more).2⟩
    exact ok_law c F (ok_ordered c tb) (ok_law_in_order c tb)
end Lv
open PySem PySem.W PySem.Calls PyProof.Rows
theorem PySem.Challenge.cw_livenames_k14_whole_great_pools_holds : PySem.Challenge.rw_livenames_k14_whole_great_pools.Holds := by
  w_on; o_law
  refine HandSHeadRun.head_any (r := OpenLaw.row PySem.Challenge.rw_livenames_k14_whole_great_pools) (q := view (OpenLaw.row PySem.Challenge.rw_livenames_k14_whole_great_pools).prog [79]) (H := Lv.hk) (ob := Lv.ob) (M := 6000) (loose := Lv.namesL) (d := HandSHeadRun.topDef (OpenLaw.row PySem.Challenge.rw_livenames_k14_whole_great_pools).prog 79) (kwd := []) Lv.ob_eq
    (by kernel_rfl) (fun s => by kernel_rfl) Lv.run (by kernel_rfl) (by kernel_rfl) (by kernel_rfl) (by rfl) (by first | assumption | decide +kernel) (by decide +kernel) ⟨rfl, rfl, rfl, rfl, rfl, by decide +kernel⟩ ?hw ?hc
  case hw => w_witness2
  case hc =>
    refine LamX.walk_ofTsE (l := PySem.Challenge.rw_livenames_k14_whole_great_pools) (n := 63) (k := 66) (x := "_law_script") (CX := fun _ => L2.CX0) rfl (by decide) (by kernel_rfl) ⟨rfl, by decide, by decide⟩ ?F (fun _ _ _ _ _ z => z)
    intro w mg fa h Y G hmg0
    obtain ⟨K, KX, cX⟩ := Y
    have e : (HandSHeadRun.topDef (OpenLaw.row PySem.Challenge.rw_livenames_k14_whole_great_pools).prog 79).name = ("law" : PySem.Str) := by kernel_rfl
    rw [e] at hmg0
    exact ⟨K, KX, Lv.at_law KX G cX hmg0⟩
