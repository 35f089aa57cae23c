import PyProof.Rows.All
import Wide.All
import OpenK.AllK
import Wide.FinOn
import KE.KStateDown
import Lean
import KE.KIsAll
import KE.SortData
import HandS.ForMost
import HandS.ForExc
import HandS.More
import HandS.Defaults
import HandS.ExcInit
import HandS.ExcIs
import HandS.ExcValue
import HandS.IsInst
import HandS.Deep
import HandS.Conv
import HandS.Remove
import HandS.Strs
import HandS.Head0
import HandS.Head1
import HandS.Head2
import HandS.HeadEnd
import HandS.HeadHook1
import HandS.HeadHook2
import HandS.HeadHook3
import HandS.HeadHook4
import PySem.Challenge.RW_letterrack_k26_whole_the_board_turned
import HandS.Zip
import HandS.SetFor
import HandS.ClsMeth
import KE.KExcIs
import HandS.TryOnly
set_option Elab.async false
set_option linter.all false
set_option maxRecDepth 100000
set_option maxHeartbeats 4000000
namespace LR
open PySem PySem.Spec PyProof.Rows L2
/-! the text by places -/
def topS (i : Nat) : Stmt := PySem.Challenge.pw_letterrack_k26_whole_the_board_turned.main.body.getD i (.Pass ⟨0, 0, 0, 0⟩)
abbrev s_is_sign : Stmt := topS 22
abbrev s_letter_of : Stmt := topS 23
abbrev s_tile_of : Stmt := topS 24
abbrev s_without : Stmt := topS 25
abbrev s_left_of : Stmt := topS 26
abbrev s_is_place : Stmt := topS 29
abbrev s_is_triple : Stmt := topS 30
abbrev s_is_laying : Stmt := topS 31
abbrev s_cells_of : Stmt := topS 32
abbrev s_way_of : Stmt := topS 33
abbrev s_formed : Stmt := topS 34
abbrev s_between : Stmt := topS 35
abbrev s_is_joined : Stmt := topS 36
abbrev s_check_cells : Stmt := topS 37
abbrev s_check_laying : Stmt := topS 38
abbrev s_is_whole : Stmt := topS 43
abbrev s_are_rows : Stmt := topS 44
abbrev s_is_cell : Stmt := topS 45
abbrev s_turned_rows : Stmt := topS 46
abbrev s_check_word : Stmt := topS 50
abbrev s_law_cell_at : Stmt := topS 53
abbrev s_law_take : Stmt := topS 54
abbrev s_law_rest : Stmt := topS 55
abbrev s_law_letters : Stmt := topS 56
abbrev s_law_sign : Stmt := topS 57
abbrev s_law_rows : Stmt := topS 58
abbrev s_law_marks : Stmt := topS 59
abbrev s_law_begin : Stmt := topS 60
abbrev s_law_grid : Stmt := topS 61
abbrev s_law_run : Stmt := topS 62
abbrev s_law_words : Stmt := topS 63
abbrev s_law_is_near : Stmt := topS 64
abbrev s_law_starts : Stmt := topS 65
abbrev s_law_straight : Stmt := topS 66
abbrev s_law_joined : Stmt := topS 67
abbrev s_law_cells_due : Stmt := topS 68
abbrev s_law_class : Stmt := topS 69
abbrev s_law_caught : Stmt := topS 70
abbrev s_law_bent : Stmt := topS 71
abbrev s_law_rack : Stmt := topS 72
abbrev s_law_known : Stmt := topS 73
abbrev s_law_turned : Stmt := topS 74
abbrev s_law_same_words : Stmt := topS 75
abbrev s_law : Stmt := topS 76
abbrev s_NoWord_init : Stmt := inClass (topS 5) 0
abbrev s_Taken_init : Stmt := inClass (topS 8) 0
abbrev s_Gap_init : Stmt := inClass (topS 10) 0
abbrev s_Lacking_init : Stmt := inClass (topS 12) 0
abbrev s_Board_init : Stmt := inClass (topS 47) 0
abbrev s_Board_at : Stmt := inClass (topS 47) 1
abbrev s_Board_is_free : Stmt := inClass (topS 47) 2
abbrev s_Board_run : Stmt := inClass (topS 47) 3
abbrev s_Board_turned : Stmt := inClass (topS 47) 4
abbrev s_Board_laid : Stmt := inClass (topS 47) 5
abbrev s_Book_init : Stmt := inClass (topS 51) 0
abbrev s_Book_has : Stmt := inClass (topS 51) 2
/-! what is asked of the written part beyond He.Fa -/
inductive Ex where
  | own (x : Str) | iso (x : Str) | kit (x y : Str) (b : Bool) | kiv (x : Str) | base (x : Str)
def shpB (K : PySem.W.Frag) (C : Addr) : Bool := match K.lookup C with
  | some ⟨.type "type", _, .cls kd, ks⟩ => (match kd.mro, ks.toList with
    | .ref C2 :: up, [_, _, _, _, some (.builtin nw), _] => (decide (C2 = C) && decide (nw = "ValueError.__new__")) && (!kd.hasDel && (kd.hasDict && PySem.HandSPX.refsVE up))
    | _, _ => false)
  | _ => false
def Ex.ok (K : PySem.W.Frag) : Ex → Bool
  | .own x => shpB K (He.ga K x) && (decide (PySem.W.findIn K (.ref (He.ga K x)) "__setattr__" = some (some (.builtin "object.__setattr__"))) && (decide (PySem.W.subIn K (.ref (He.ga K x)) (.type "BaseException") = some true) &&
      (decide (PySem.W.typeIn K (.ref (He.ga K x)) = some (.type "type")) && (PySem.W.keepIn K (.ref (He.ga K x)) && (decide (PySem.W.findIn K (.ref (He.ga K x)) "__init__" = some (some (.ref (He.ma K (He.ga K x) "__init__")))) &&
      decide (PySem.W.typeIn K (.ref (He.ma K (He.ga K x) "__init__")) = some (.type "function")))))))
  | .iso x => decide (PySem.W.findIn K (.ref (He.ga K x)) "__getattribute__" = some (some (.builtin "BaseException.__getattribute__"))) && (decide (PySem.W.findIn K (.ref (He.ga K x)) "__getattr__" = some none) &&
      (decide (PySem.W.subIn K (.ref (He.ga K x)) (.type "BaseException") = some true) && (PySem.W.hasDictIn K (He.ga K x) && (decide (PySem.W.findIn K (.ref (He.ga K x)) "__class__" = some (some (.builtin "object.__class__"))) &&
      (decide (PySem.W.specialIn K (.builtin "object.__class__") "__get__" = some (some (.builtin "getset_descriptor.__get__"))) && (decide (PySem.W.takesIn K (.builtin "object.__class__") = some true) && decide (PySem.W.mroIn K (He.ga K x) (.type "object") = some true)))))))
  | .kit x y b => decide (PySem.W.kitOne K (.ref (He.ga K x)) (.ref (He.ga K y)) = some b)
  | .kiv x => decide (PySem.W.kitOne K (.ref (He.ga K x)) (.type "ValueError") = some true)
  | .base x => PySem.W.readsIn K (He.ga K x) (.type "type") && (decide (PySem.W.specialIn K (.ref (He.ga K x)) "__getattribute__" = some (some (.builtin "type.__getattribute__"))) &&
      (match PySem.W.findCls K (.ref (He.ga K x)) (.type "type") "__init__" with
    | some (.val (.builtin n)) => decide (n = "ValueError.__init__")
    | _ => false))
def exP0 : List Ex := [.own "Taken", .own "Gap", .own "Lacking", .own "NoWord", .iso "NoLaying", .iso "Taken", .iso "Crooked", .iso "Gap", .iso "Apart", .iso "Lacking", .iso "NoWord", .kit "NoLaying" "NoLaying" true]
def exP1 : List Ex := [.kit "NoLaying" "Taken" false, .kit "NoLaying" "Crooked" false, .kit "NoLaying" "Gap" false, .kit "NoLaying" "Apart" false, .kit "NoLaying" "Lacking" false, .kit "NoLaying" "NoWord" false, .kit "NoLaying" "NoBack" false, .kit "NoLaying" "NoBoard" false, .kit "NoLaying" "NoDeed" false, .kit "NoLaying" "NoRow" false, .kit "NoLaying" "NoText" false, .kit "NoLaying" "Over" false]
def exP2 : List Ex := [.kit "NoLaying" "TooFew" false, .kit "NoLaying" "Twice" false, .kiv "NoLaying", .kit "Taken" "NoLaying" false, .kit "Taken" "Taken" true, .kit "Taken" "Crooked" false, .kit "Taken" "Gap" false, .kit "Taken" "Apart" false, .kit "Taken" "Lacking" false, .kit "Taken" "NoWord" false, .kit "Taken" "NoBack" false, .kit "Taken" "NoBoard" false]
def exP3 : List Ex := [.kit "Taken" "NoDeed" false, .kit "Taken" "NoRow" false, .kit "Taken" "NoText" false, .kit "Taken" "Over" false, .kit "Taken" "TooFew" false, .kit "Taken" "Twice" false, .kiv "Taken", .kit "Crooked" "NoLaying" false, .kit "Crooked" "Taken" false, .kit "Crooked" "Crooked" true, .kit "Crooked" "Gap" false, .kit "Crooked" "Apart" false]
def exP4 : List Ex := [.kit "Crooked" "Lacking" false, .kit "Crooked" "NoWord" false, .kit "Crooked" "NoBack" false, .kit "Crooked" "NoBoard" false, .kit "Crooked" "NoDeed" false, .kit "Crooked" "NoRow" false, .kit "Crooked" "NoText" false, .kit "Crooked" "Over" false, .kit "Crooked" "TooFew" false, .kit "Crooked" "Twice" false, .kiv "Crooked", .kit "Gap" "NoLaying" false]
def exP5 : List Ex := [.kit "Gap" "Taken" false, .kit "Gap" "Crooked" false, .kit "Gap" "Gap" true, .kit "Gap" "Apart" false, .kit "Gap" "Lacking" false, .kit "Gap" "NoWord" false, .kit "Gap" "NoBack" false, .kit "Gap" "NoBoard" false, .kit "Gap" "NoDeed" false, .kit "Gap" "NoRow" false, .kit "Gap" "NoText" false, .kit "Gap" "Over" false]
def exP6 : List Ex := [.kit "Gap" "TooFew" false, .kit "Gap" "Twice" false, .kiv "Gap", .kit "Apart" "NoLaying" false, .kit "Apart" "Taken" false, .kit "Apart" "Crooked" false, .kit "Apart" "Gap" false, .kit "Apart" "Apart" true, .kit "Apart" "Lacking" false, .kit "Apart" "NoWord" false, .kit "Apart" "NoBack" false, .kit "Apart" "NoBoard" false]
def exP7 : List Ex := [.kit "Apart" "NoDeed" false, .kit "Apart" "NoRow" false, .kit "Apart" "NoText" false, .kit "Apart" "Over" false, .kit "Apart" "TooFew" false, .kit "Apart" "Twice" false, .kiv "Apart", .kit "Lacking" "NoLaying" false, .kit "Lacking" "Taken" false, .kit "Lacking" "Crooked" false, .kit "Lacking" "Gap" false, .kit "Lacking" "Apart" false]
def exP8 : List Ex := [.kit "Lacking" "Lacking" true, .kit "Lacking" "NoWord" false, .kit "Lacking" "NoBack" false, .kit "Lacking" "NoBoard" false, .kit "Lacking" "NoDeed" false, .kit "Lacking" "NoRow" false, .kit "Lacking" "NoText" false, .kit "Lacking" "Over" false, .kit "Lacking" "TooFew" false, .kit "Lacking" "Twice" false, .kiv "Lacking", .kit "NoWord" "NoLaying" false]
def exP9 : List Ex := [.kit "NoWord" "Taken" false, .kit "NoWord" "Crooked" false, .kit "NoWord" "Gap" false, .kit "NoWord" "Apart" false, .kit "NoWord" "Lacking" false, .kit "NoWord" "NoWord" true, .kit "NoWord" "NoBack" false, .kit "NoWord" "NoBoard" false, .kit "NoWord" "NoDeed" false, .kit "NoWord" "NoRow" false, .kit "NoWord" "NoText" false, .kit "NoWord" "Over" false]
def exP10 : List Ex := [.kit "NoWord" "TooFew" false, .kit "NoWord" "Twice" false, .kiv "NoWord", .base "RackError"]
def exL : List Ex := exP0 ++ exP1 ++ exP2 ++ exP3 ++ exP4 ++ exP5 ++ exP6 ++ exP7 ++ exP8 ++ exP9 ++ exP10
def exB (K : PySem.W.Frag) : Bool := exL.all fun e => e.ok K
def fnL : List He.DefD := [
  ⟨("is_sign", none), "is_sign", "is_sign", defArgs s_is_sign, defBody s_is_sign, defScope s_is_sign, [], []⟩,
  ⟨("letter_of", none), "letter_of", "letter_of", defArgs s_letter_of, defBody s_letter_of, defScope s_letter_of, [], []⟩,
  ⟨("tile_of", none), "tile_of", "tile_of", defArgs s_tile_of, defBody s_tile_of, defScope s_tile_of, [], []⟩,
  ⟨("without", none), "without", "without", defArgs s_without, defBody s_without, defScope s_without, [], []⟩,
  ⟨("left_of", none), "left_of", "left_of", defArgs s_left_of, defBody s_left_of, defScope s_left_of, [], []⟩,
  ⟨("is_place", none), "is_place", "is_place", defArgs s_is_place, defBody s_is_place, defScope s_is_place, [], []⟩,
  ⟨("is_triple", none), "is_triple", "is_triple", defArgs s_is_triple, defBody s_is_triple, defScope s_is_triple, [], []⟩,
  ⟨("is_laying", none), "is_laying", "is_laying", defArgs s_is_laying, defBody s_is_laying, defScope s_is_laying, [], []⟩,
  ⟨("cells_of", none), "cells_of", "cells_of", defArgs s_cells_of, defBody s_cells_of, defScope s_cells_of, [], []⟩,
  ⟨("way_of", none), "way_of", "way_of", defArgs s_way_of, defBody s_way_of, defScope s_way_of, [], []⟩,
  ⟨("formed", none), "formed", "formed", defArgs s_formed, defBody s_formed, defScope s_formed, [], []⟩,
  ⟨("between", none), "between", "between", defArgs s_between, defBody s_between, defScope s_between, [], []⟩,
  ⟨("is_joined", none), "is_joined", "is_joined", defArgs s_is_joined, defBody s_is_joined, defScope s_is_joined, [], []⟩,
  ⟨("check_cells", none), "check_cells", "check_cells", defArgs s_check_cells, defBody s_check_cells, defScope s_check_cells, [], []⟩,
  ⟨("check_laying", none), "check_laying", "check_laying", defArgs s_check_laying, defBody s_check_laying, defScope s_check_laying, [], []⟩,
  ⟨("is_whole", none), "is_whole", "is_whole", defArgs s_is_whole, defBody s_is_whole, defScope s_is_whole, [], []⟩,
  ⟨("are_rows", none), "are_rows", "are_rows", defArgs s_are_rows, defBody s_are_rows, defScope s_are_rows, [], []⟩,
  ⟨("is_cell", none), "is_cell", "is_cell", defArgs s_is_cell, defBody s_is_cell, defScope s_is_cell, [], []⟩,
  ⟨("turned_rows", none), "turned_rows", "turned_rows", defArgs s_turned_rows, defBody s_turned_rows, defScope s_turned_rows, [], []⟩,
  ⟨("check_word", none), "check_word", "check_word", defArgs s_check_word, defBody s_check_word, defScope s_check_word, [], []⟩,
  ⟨("_law_cell_at", none), "_law_cell_at", "_law_cell_at", defArgs s_law_cell_at, defBody s_law_cell_at, defScope s_law_cell_at, [], []⟩,
  ⟨("_law_take", none), "_law_take", "_law_take", defArgs s_law_take, defBody s_law_take, defScope s_law_take, [], []⟩,
  ⟨("_law_rest", none), "_law_rest", "_law_rest", defArgs s_law_rest, defBody s_law_rest, defScope s_law_rest, [], []⟩,
  ⟨("_law_letters", none), "_law_letters", "_law_letters", defArgs s_law_letters, defBody s_law_letters, defScope s_law_letters, [], []⟩,
  ⟨("_law_sign", none), "_law_sign", "_law_sign", defArgs s_law_sign, defBody s_law_sign, defScope s_law_sign, [], []⟩,
  ⟨("_law_rows", none), "_law_rows", "_law_rows", defArgs s_law_rows, defBody s_law_rows, defScope s_law_rows, [], []⟩,
  ⟨("_law_marks", none), "_law_marks", "_law_marks", defArgs s_law_marks, defBody s_law_marks, defScope s_law_marks, [], []⟩,
  ⟨("_law_begin", none), "_law_begin", "_law_begin", defArgs s_law_begin, defBody s_law_begin, defScope s_law_begin, [], []⟩,
  ⟨("_law_grid", none), "_law_grid", "_law_grid", defArgs s_law_grid, defBody s_law_grid, defScope s_law_grid, [], []⟩,
  ⟨("_law_run", none), "_law_run", "_law_run", defArgs s_law_run, defBody s_law_run, defScope s_law_run, [], []⟩,
  ⟨("_law_words", none), "_law_words", "_law_words", defArgs s_law_words, defBody s_law_words, defScope s_law_words, [], []⟩,
  ⟨("_law_is_near", none), "_law_is_near", "_law_is_near", defArgs s_law_is_near, defBody s_law_is_near, defScope s_law_is_near, [], []⟩,
  ⟨("_law_starts", none), "_law_starts", "_law_starts", defArgs s_law_starts, defBody s_law_starts, defScope s_law_starts, [], []⟩,
  ⟨("_law_straight", none), "_law_straight", "_law_straight", defArgs s_law_straight, defBody s_law_straight, defScope s_law_straight, [], []⟩,
  ⟨("_law_joined", none), "_law_joined", "_law_joined", defArgs s_law_joined, defBody s_law_joined, defScope s_law_joined, [], []⟩,
  ⟨("_law_cells_due", none), "_law_cells_due", "_law_cells_due", defArgs s_law_cells_due, defBody s_law_cells_due, defScope s_law_cells_due, [], []⟩,
  ⟨("_law_class", none), "_law_class", "_law_class", defArgs s_law_class, defBody s_law_class, defScope s_law_class, [], []⟩,
  ⟨("_law_caught", none), "_law_caught", "_law_caught", defArgs s_law_caught, defBody s_law_caught, defScope s_law_caught, [], []⟩,
  ⟨("_law_bent", none), "_law_bent", "_law_bent", defArgs s_law_bent, defBody s_law_bent, defScope s_law_bent, [], []⟩,
  ⟨("_law_rack", none), "_law_rack", "_law_rack", defArgs s_law_rack, defBody s_law_rack, defScope s_law_rack, [], []⟩,
  ⟨("_law_known", none), "_law_known", "_law_known", defArgs s_law_known, defBody s_law_known, defScope s_law_known, [], []⟩,
  ⟨("_law_turned", none), "_law_turned", "_law_turned", defArgs s_law_turned, defBody s_law_turned, defScope s_law_turned, [], []⟩,
  ⟨("_law_same_words", none), "_law_same_words", "_law_same_words", defArgs s_law_same_words, defBody s_law_same_words, defScope s_law_same_words, [], []⟩,
  ⟨("law", none), "law", "law", defArgs s_law, defBody s_law, defScope s_law, [], []⟩,
  ⟨("NoWord", some "__init__"), "__init__", "NoWord.__init__", defArgs s_NoWord_init, defBody s_NoWord_init, defScope s_NoWord_init, [], []⟩,
  ⟨("Taken", some "__init__"), "__init__", "Taken.__init__", defArgs s_Taken_init, defBody s_Taken_init, defScope s_Taken_init, [], []⟩,
  ⟨("Gap", some "__init__"), "__init__", "Gap.__init__", defArgs s_Gap_init, defBody s_Gap_init, defScope s_Gap_init, [], []⟩,
  ⟨("Lacking", some "__init__"), "__init__", "Lacking.__init__", defArgs s_Lacking_init, defBody s_Lacking_init, defScope s_Lacking_init, [], []⟩,
  ⟨("Board", some "__init__"), "__init__", "Board.__init__", defArgs s_Board_init, defBody s_Board_init, defScope s_Board_init, [], []⟩,
  ⟨("Board", some "at"), "at", "Board.at", defArgs s_Board_at, defBody s_Board_at, defScope s_Board_at, [], []⟩,
  ⟨("Board", some "is_free"), "is_free", "Board.is_free", defArgs s_Board_is_free, defBody s_Board_is_free, defScope s_Board_is_free, [], []⟩,
  ⟨("Board", some "run"), "run", "Board.run", defArgs s_Board_run, defBody s_Board_run, defScope s_Board_run, [], []⟩,
  ⟨("Board", some "turned"), "turned", "Board.turned", defArgs s_Board_turned, defBody s_Board_turned, defScope s_Board_turned, [], []⟩,
  ⟨("Board", some "laid"), "laid", "Board.laid", defArgs s_Board_laid, defBody s_Board_laid, defScope s_Board_laid, [], []⟩,
  ⟨("Book", some "__init__"), "__init__", "Book.__init__", defArgs s_Book_init, defBody s_Book_init, defScope s_Book_init, [], []⟩,
  ⟨("Book", some "has"), "has", "Book.has", defArgs s_Book_has, defBody s_Book_has, defScope s_Book_has, [], []⟩]
def faL : List He.Fa := [
  .glo "is_sign",
  .glo "letter_of",
  .glo "tile_of",
  .glo "without",
  .glo "left_of",
  .glo "is_place",
  .glo "is_triple",
  .glo "is_laying",
  .glo "cells_of",
  .glo "way_of",
  .glo "formed",
  .glo "between",
  .glo "is_joined",
  .glo "check_cells",
  .glo "check_laying",
  .glo "is_whole",
  .glo "are_rows",
  .glo "is_cell",
  .glo "turned_rows",
  .glo "check_word",
  .glo "_law_cell_at",
  .glo "_law_take",
  .glo "_law_rest",
  .glo "_law_letters",
  .glo "_law_sign",
  .glo "_law_rows",
  .glo "_law_marks",
  .glo "_law_begin",
  .glo "_law_grid",
  .glo "_law_run",
  .glo "_law_words",
  .glo "_law_is_near",
  .glo "_law_starts",
  .glo "_law_straight",
  .glo "_law_joined",
  .glo "_law_cells_due",
  .glo "_law_class",
  .glo "_law_caught",
  .glo "_law_bent",
  .glo "_law_rack",
  .glo "_law_known",
  .glo "_law_turned",
  .glo "_law_same_words",
  .glo "law",
  .glo "Board",
  .glo "Book",
  .glo "RackError",
  .glo "NoText",
  .glo "Twice",
  .glo "NoWord",
  .glo "NoBoard",
  .glo "NoLaying",
  .glo "Taken",
  .glo "Crooked",
  .glo "Gap",
  .glo "Apart",
  .glo "Lacking",
  .glo "TooFew",
  .glo "NoDeed",
  .glo "Over",
  .glo "NoBack",
  .glo "NoRow",
  .free "str",
  .free "len",
  .free "sorted",
  .free "isinstance",
  .free "tuple",
  .free "int",
  .free "bool",
  .free "all",
  .free "range",
  .free "set",
  .free "list",
  .free "min",
  .free "max",
  .free "ValueError",
  .str "LETTERS_signs" "abcdefghijklmnopqrstuvwxyz",
  .str "GREAT" "ABCDEFGHIJKLMNOPQRSTUVWXYZ",
  .str "BLANK" "?",
  .str "FREE" ".",
  .str "MARKS" ".234bcd",
  .str "LETTERS_books" "abcdefghijklmnopqrstuvwxyz",
  .int "MOST_TILES" 7,
  .int "MOST_CELLS" 9,
  .cls "Board",
  .mkr "Board",
  .noat "Board" "rows",
  .noat "Board" "marks",
  .noat "Board" "begin",
  .cls "Book",
  .mkr "Book",
  .noat "Book" "held",
  .meth "Board" "at",
  .meth "Board" "is_free",
  .meth "Board" "run",
  .meth "Board" "turned",
  .meth "Board" "laid",
  .meth "Book" "has",
  .exc "NoLaying",
  .exc "Crooked",
  .exc "Apart",
  .exm "NoLaying" "RackError" true,
  .exm "Taken" "RackError" true,
  .exm "Crooked" "RackError" true,
  .exm "Gap" "RackError" true,
  .exm "Apart" "RackError" true,
  .exm "Lacking" "RackError" true,
  .exm "NoWord" "RackError" true,
  .noat "NoWord" "word",
  .noat "Taken" "row",
  .noat "Taken" "column",
  .noat "Gap" "row",
  .noat "Gap" "column",
  .noat "Lacking" "tile"]
def names0 : List PySem.Str := ["_wall", "RackError", "NoText", "Twice", "NoWord", "NoBoard", "NoLaying", "Taken", "Crooked", "Gap", "Apart", "Lacking"]
def names1 : List PySem.Str := ["TooFew", "NoDeed", "Over", "NoBack", "NoRow", "LETTERS_signs", "GREAT", "BLANK", "is_sign", "letter_of", "tile_of", "without"]
def names2 : List PySem.Str := ["left_of", "MOST_TILES", "is_place", "is_triple", "is_laying", "cells_of", "way_of", "formed", "between", "is_joined", "check_cells", "check_laying"]
def names3 : List PySem.Str := ["FREE", "MARKS", "MOST_CELLS", "is_whole", "are_rows", "is_cell", "turned_rows", "Board", "LETTERS_books", "check_word", "Book", "_law_cell_at"]
def names4 : List PySem.Str := ["_law_take", "_law_rest", "_law_letters", "_law_sign", "_law_rows", "_law_marks", "_law_begin", "_law_grid", "_law_run", "_law_words", "_law_is_near", "_law_starts"]
def names5 : List PySem.Str := ["_law_straight", "_law_joined", "_law_cells_due", "_law_class", "_law_caught", "_law_bent", "_law_rack", "_law_known", "_law_turned", "_law_same_words"]
def namesL : List PySem.Str := names0 ++ names1 ++ names2 ++ names3 ++ names4 ++ names5
abbrev R : PySem.W.OpenRow := PySem.W.OpenLaw.row PySem.Challenge.rw_letterrack_k26_whole_the_board_turned
def asL (g : Addr → Option Obj) : List Addr := He.asD g 6 ++ [cStatics]
def obsL (g : Addr → Option Obj) : He.AlD × Bool := (He.obsD faL fnL (He.frG g (asL g)), exB (He.frG g (asL g)))
def hk : PySem.W.Hook where
  α := He.AlD × Bool
  obs := fun s => obsL s.heap.get?
  val := fun _ => (He.valD fnL, true)
  says := fun _ h => ∃ K : PySem.W.Frag, K.In h ∧ He.SaysD faL fnL K ∧ exB K = true
  of := fun _ _ e => ⟨_, He.frG_in, congrArg (fun z : He.AlD × Bool => z.1) e, congrArg (fun z : He.AlD × Bool => z.2) e⟩
  keeps := fun _ _ _ ⟨K, hK, c⟩ k => ⟨K, PySem.W.Frag.In.keeps hK k, c⟩
def ob (s : PySem.W.SharedT) : He.AlD × Bool := obsL (HandSHeadRun.getT s)
theorem ob_eq (s : PySem.W.SharedT) : ob s = hk.obs s.abs := by
  have e : HandSHeadRun.getT s = s.abs.heap.get? := funext (HandSHeadRun.getT_eq s)
  show obsL (HandSHeadRun.getT s) = obsL s.abs.heap.get?
  rw [e]
theorem run (w : World) : HandSHeadRun.RunEq R (PySem.W.view R.prog [76]) hk ob 8000 namesL w := by
  intro os
  kernel_rfl

/-! ### texts as lists of codes -/
abbrev mk (l : List Nat) : Str := ⟨l.toArray⟩
theorem mk_len (l : List Nat) : (mk l).length = l.length := by simp [mk, Str.length]
theorem mk_cps (l : List Nat) : (mk l).cps.toList = l := rfl
theorem mk_tl (z : Str) : mk z.cps.toList = z := TL.mk_tl z
theorem mk_inj {a b : List Nat} (h : mk a = mk b) : a = b := by
  have q := congrArg (fun z : Str => z.cps.toList) h
  simpa using q
theorem mk_app (a b : List Nat) : mk a ++ mk b = mk (a ++ b) := TL.ext_tl (by rw [TL.tl_append] <;> rfl)
theorem mk_dec (a b : List Nat) : decide (V.str (mk a) = V.str (mk b)) = decide (a = b) := by
  by_cases h : a = b
  · subst h; simp
  · have : ¬ V.str (mk a) = V.str (mk b) := fun q => h (mk_inj (V.str.inj q))
    rw [decide_eq_false h, decide_eq_false this]

/-! ### heaps -/
/-- what never changes once it stands -/
def imm : HO → Bool
  | .tup _ => true
  | .ins _ _ _ => true
  | .frz _ _ => true
  | .ext _ => true
  | .xd _ => true
  | .own _ => true
  | .met _ _ => true
  | _ => false
/-- all that never changes is kept -/
def Im (H H' : Hp) : Prop := ∀ a o, imm o = true → H a = some o → H' a = some o
/-- all is kept but what stands at r -/
def Sb (r : Addr) (H H' : Hp) : Prop := ∀ a o, a ≠ r → H a = some o → H' a = some o
theorem Im.refl (H : Hp) : Im H H := fun _ _ _ h => h
theorem Im.trans {A B C : Hp} (x : Im A B) (y : Im B C) : Im A C := fun a o i h => y a o i (x a o i h)
theorem Im.same {A B : Hp} (x : Same A B) : Im A B := fun a o _ h => x a o h
theorem Im.new {H : Hp} {p : Addr} {o : HO} (n : H p = none) : Im H (upd H p o) := fun a u _ h => by
  rw [upd_ne (ne_of_none h n)]; exact h
theorem Im.wr {H : Hp} {p : Addr} {o u : HO} (h : H p = some o) (i : imm o = false) : Im H (upd H p u) := fun a v j e => by
  rw [upd_ne (ne_of e h (fun q => by rw [q, i] at j; cases j))]; exact e
theorem Im.sb {r : Addr} {A B : Hp} {o : HO} (h : A r = some o) (i : imm o = false) (x : Sb r A B) : Im A B := fun a u j e =>
  x a u (ne_of e h (fun q => by rw [q, i] at j; cases j)) e
theorem Im.of {A B : Hp} (x : Im A B) {a : Addr} {o : HO} (i : imm o = true) (h : A a = some o) : B a = some o := x a o i h
theorem Same.new {H : Hp} {p : Addr} {o : HO} (n : H p = none) : Same H (upd H p o) := fun a u h => by
  rw [upd_ne (ne_of_none h n)]; exact h
/-- a thing that did not stand at the start changes -/
theorem Same.wr {H0 H : Hp} {p : Addr} {o : HO} (x : Same H0 H) (n : H0 p = none) : Same H0 (upd H p o) := fun a u h => by
  rw [upd_ne (ne_of_none h n)]; exact x a u h
theorem Sb.refl (r : Addr) (H : Hp) : Sb r H H := fun _ _ _ h => h
theorem Sb.trans {r : Addr} {A B C : Hp} (x : Sb r A B) (y : Sb r B C) : Sb r A C := fun a o n h => y a o n (x a o n h)
theorem Sb.same {r : Addr} {A B : Hp} (x : Same A B) : Sb r A B := fun a o _ h => x a o h
theorem Sb.wr {r : Addr} {H0 H : Hp} {o : HO} (x : Sb r H0 H) : Sb r H0 (upd H r o) := fun a u n h => by
  rw [upd_ne n]; exact x a u n h
theorem Sb.wrn {r p : Addr} {H0 H : Hp} {o : HO} (x : Sb r H0 H) (n : H0 p = none) : Sb r H0 (upd H p o) := fun a u m h => by
  rw [upd_ne (ne_of_none h n)]; exact x a u m h
/-- what is new behind was new ahead -/
theorem Sb.free {r p : Addr} {H0 H : Hp} {o : HO} (x : Sb r H0 H) (hr : H r = some o) (n : H p = none) : H0 p = none := by
  cases q : H0 p with
  | none => rfl
  | some u =>
    have ne : p ≠ r := fun e => by rw [e, hr] at n; cases n
    rw [x p u ne q] at n; cases n
theorem upd_old {H : Hp} {a p : Addr} {o u : HO} (h : H a = some o) (n : H p = none) : upd H p u a = some o := by
  rw [upd_ne (ne_of_none h n)]; exact h
theorem upd_imm {H : Hp} {a p : Addr} {o u v : HO} (i : imm o = true) (h : H a = some o) (n : H p = some v) (j : imm v = false) : upd H p u a = some o := Im.wr n j a o i h
theorem free_upd {H : Hp} {a p : Addr} {u : HO} (n : upd H p u a = none) : H a = none := by
  unfold upd at n
  split at n
  · cases n
  · exact n
theorem Same.fr {H H' : Hp} (e : Same H H') {l : Addr} (h : H' l = Option.none) : H l = Option.none := e.free h

/-- all tuples are kept -/
def Tk (H H' : Hp) : Prop := ∀ a vs, H a = some (.tup vs) → H' a = some (.tup vs)
theorem Im.tk {H H' : Hp} (m : Im H H') : Tk H H' := fun a vs h => m a _ rfl h
theorem Tk.refl (H : Hp) : Tk H H := fun _ _ h => h
theorem Tk.trans {A B C : Hp} (x : Tk A B) (y : Tk B C) : Tk A C := fun a vs h => y a vs (x a vs h)
theorem Tk.same {A B : Hp} (x : Same A B) : Tk A B := fun a _ h => x a _ h
theorem Tk.new {H : Hp} {p : Addr} {o : HO} (n : H p = none) : Tk H (upd H p o) := fun a _ h => upd_old h n
/-- what stands at p and is no tuple changes -/
theorem Tk.wr {H : Hp} {p : Addr} {o u : HO} (h : H p = some o) (i : ∀ vs, o ≠ .tup vs) : Tk H (upd H p u) := fun a vs e => by
  rw [upd_ne (fun q => by rw [q, h] at e; exact i vs (Option.some.inj e))]; exact e
theorem Tk.sb {r : Addr} {A B : Hp} {o : HO} (h : A r = some o) (i : ∀ vs, o ≠ .tup vs) (x : Sb r A B) : Tk A B := fun a vs e =>
  x a _ (fun q => by rw [q, h] at e; exact i vs (Option.some.inj e)) e

/-! ### data that stands: whole numbers, truths, texts, None, tuples of such -/
mutual
def At (H : Hp) : PyData → V → Prop
  | .none, v => v = .non
  | .bool b, v => v = .bl b
  | .int i, v => v = .int i
  | .str x, v => v = .str x
  | .tuple ds, v => ∃ a vs, v = .ref a ∧ H a = some (.tup vs) ∧ AtAll H ds vs
  | .list _, _ => False
  | .dict _, _ => False
def AtAll (H : Hp) : List PyData → List V → Prop
  | [], vs => vs = []
  | d :: ds, vs => ∃ v r, vs = v :: r ∧ At H d v ∧ AtAll H ds r
end
mutual
theorem At.mono {H H' : Hp} (m : Tk H H') : ∀ (d : PyData) (v : V), At H d v → At H' d v
  | .none, _, h => by simpa only [At] using h
  | .bool _, _, h => by simpa only [At] using h
  | .int _, _, h => by simpa only [At] using h
  | .str _, _, h => by simpa only [At] using h
  | .tuple ds, v, h => by
    simp only [At] at h ⊢
    obtain ⟨a, vs, e, ha, hs⟩ := h
    exact ⟨a, vs, e, m a _ ha, AtAll.mono m ds vs hs⟩
  | .list _, _, h => by simp only [At] at h
  | .dict _, _, h => by simp only [At] at h
theorem AtAll.mono {H H' : Hp} (m : Tk H H') : ∀ (ds : List PyData) (vs : List V), AtAll H ds vs → AtAll H' ds vs
  | [], _, h => by simpa only [AtAll] using h
  | d :: ds, vs, h => by
    simp only [AtAll] at h ⊢
    obtain ⟨v, r, e, h1, h2⟩ := h
    exact ⟨v, r, e, At.mono m d v h1, AtAll.mono m ds r h2⟩
end
mutual
theorem At.dp {K : PySem.W.Frag} {H : Hp} : ∀ (d : PyData) (v : V), At H d v → Dp K H v d
  | .none, _, h => by simp only [At] at h; subst h; exact .non
  | .bool _, _, h => by simp only [At] at h; subst h; exact .bl _
  | .int _, _, h => by simp only [At] at h; subst h; exact .int _
  | .str _, _, h => by simp only [At] at h; subst h; exact .str _
  | .tuple ds, v, h => by
    simp only [At] at h
    obtain ⟨a, vs, e, ha, hs⟩ := h
    subst e
    exact .tup (SqT.of ha) (AtAll.dp ds vs hs)
  | .list _, _, h => by simp only [At] at h
  | .dict _, _, h => by simp only [At] at h
theorem AtAll.dp {K : PySem.W.Frag} {H : Hp} : ∀ (ds : List PyData) (vs : List V), AtAll H ds vs → DpAll K H vs ds
  | [], _, h => by simp only [AtAll] at h; subst h; exact .nil
  | d :: ds, vs, h => by
    simp only [AtAll] at h
    obtain ⟨v, r, e, h1, h2⟩ := h
    subst e
    exact .cons (At.dp d v h1) (AtAll.dp ds r h2)
end
theorem at_int {H : Hp} {i : Int} : At H (.int i) (.int i) := by simp only [At]
theorem at_str {H : Hp} {x : Str} : At H (.str x) (.str x) := by simp only [At]
theorem at_bl {H : Hp} {x : Bool} : At H (.bool x) (.bl x) := by simp only [At]
theorem at_int' {H : Hp} {i : Int} {v : V} (h : At H (.int i) v) : v = .int i := by simpa only [At] using h
theorem at_str' {H : Hp} {x : Str} {v : V} (h : At H (.str x) v) : v = .str x := by simpa only [At] using h
theorem at_bl' {H : Hp} {x : Bool} {v : V} (h : At H (.bool x) v) : v = .bl x := by simpa only [At] using h
theorem at_tup {H : Hp} {a : Addr} {ds : List PyData} {vs : List V} (h : H a = some (.tup vs)) (hs : AtAll H ds vs) : At H (.tuple ds) (.ref a) := by
  simp only [At]; exact ⟨a, vs, rfl, h, hs⟩
theorem at_tup' {H : Hp} {ds : List PyData} {v : V} (h : At H (.tuple ds) v) : ∃ a vs, v = .ref a ∧ H a = some (.tup vs) ∧ AtAll H ds vs := by simpa only [At] using h
theorem aa_nil {H : Hp} : AtAll H [] [] := by simp only [AtAll]
theorem aa_cons {H : Hp} {d : PyData} {ds : List PyData} {v : V} {vs : List V} (h : At H d v) (hs : AtAll H ds vs) : AtAll H (d :: ds) (v :: vs) := by
  simp only [AtAll]; exact ⟨v, vs, rfl, h, hs⟩
theorem aa_nil' {H : Hp} {vs : List V} (h : AtAll H [] vs) : vs = [] := by simpa only [AtAll] using h
theorem aa_cons' {H : Hp} {d : PyData} {ds : List PyData} {vs : List V} (h : AtAll H (d :: ds) vs) : ∃ v r, vs = v :: r ∧ At H d v ∧ AtAll H ds r := by simpa only [AtAll] using h
theorem AtAll.len {H : Hp} : ∀ {ds : List PyData} {vs : List V}, AtAll H ds vs → vs.length = ds.length
  | [], _, h => by rw [aa_nil' h]; rfl
  | d :: ds, vs, h => by
    obtain ⟨v, r, e, _, h2⟩ := aa_cons' h
    subst e
    simp only [List.length_cons, AtAll.len h2]
theorem AtAll.get {H : Hp} : ∀ {ds : List PyData} {vs : List V} {i : Nat} {v : V}, AtAll H ds vs → vs[i]? = some v → ∃ d, ds[i]? = some d ∧ At H d v
  | [], _, i, v, h, e => by rw [aa_nil' h] at e; simp at e
  | d :: ds, vs, i, v, h, e => by
    obtain ⟨w, r, e1, h1, h2⟩ := aa_cons' h
    subst e1
    cases i with
    | zero => simp at e; subst e; exact ⟨d, rfl, h1⟩
    | succ i =>
      simp at e
      obtain ⟨d', e2, h3⟩ := AtAll.get h2 e
      exact ⟨d', by simpa using e2, h3⟩
theorem AtAll.get' {H : Hp} {ds : List PyData} {vs : List V} {i : Nat} {d : PyData} (h : AtAll H ds vs) (e : ds[i]? = some d) : ∃ v, vs[i]? = some v ∧ At H d v := by
  have hi : i < vs.length := by rw [h.len]; exact (List.getElem?_eq_some_iff.mp e).1
  obtain ⟨d', e', h'⟩ := h.get (List.getElem?_eq_getElem hi)
  rw [e] at e'
  cases e'
  exact ⟨_, List.getElem?_eq_getElem hi, h'⟩
theorem AtAll.app {H : Hp} : ∀ {ds es : List PyData} {vs ws : List V}, AtAll H ds vs → AtAll H es ws → AtAll H (ds ++ es) (vs ++ ws)
  | [], _, _, _, h, k => by rw [aa_nil' h]; exact k
  | d :: ds, es, vs, ws, h, k => by
    obtain ⟨v, r, e, h1, h2⟩ := aa_cons' h
    subst e
    exact aa_cons h1 (h2.app k)
theorem AtAll.snoc {H : Hp} {ds : List PyData} {vs : List V} {d : PyData} {v : V} (h : AtAll H ds vs) (k : At H d v) : AtAll H (ds ++ [d]) (vs ++ [v]) := h.app (aa_cons k aa_nil)
theorem AtAll.strs {H : Hp} : ∀ (l : List Str), AtAll H (l.map PyData.str) (l.map V.str)
  | [] => aa_nil
  | _ :: l => aa_cons at_str (AtAll.strs l)
theorem AtAll.strs' {H : Hp} : ∀ {l : List Str} {vs : List V}, AtAll H (l.map PyData.str) vs → vs = l.map V.str
  | [], vs, h => aa_nil' h
  | x :: l, vs, h => by
    obtain ⟨v, r, e, h1, h2⟩ := aa_cons' h
    rw [e, at_str' h1, AtAll.strs' h2]; rfl
theorem AtAll.ints {H : Hp} : ∀ (l : List Int), AtAll H (l.map PyData.int) (l.map V.int)
  | [] => aa_nil
  | _ :: l => aa_cons at_int (AtAll.ints l)
theorem AtAll.ints' {H : Hp} : ∀ {l : List Int} {vs : List V}, AtAll H (l.map PyData.int) vs → vs = l.map V.int
  | [], vs, h => aa_nil' h
  | x :: l, vs, h => by
    obtain ⟨v, r, e, h1, h2⟩ := aa_cons' h
    rw [e, at_int' h1, AtAll.ints' h2]; rfl
theorem AtAll.bls' {H : Hp} : ∀ {l : List Bool} {vs : List V}, AtAll H (l.map PyData.bool) vs → vs = l.map V.bl
  | [], vs, h => aa_nil' h
  | x :: l, vs, h => by
    obtain ⟨v, r, e, h1, h2⟩ := aa_cons' h
    rw [e, at_bl' h1, AtAll.bls' h2]; rfl

/-! ### the data of the program -/
abbrev sD (l : List Nat) : PyData := .str (mk l)
abbrev Cel := Nat × Nat
abbrev Tri := Nat × Nat × Nat
abbrev Wrd := Nat × Nat × Nat × List Nat
def cellD (c : Cel) : PyData := .tuple [.int (c.1 : Int), .int (c.2 : Int)]
def triD (t : Tri) : PyData := .tuple [.int (t.1 : Int), .int (t.2.1 : Int), sD [t.2.2]]
def wrdD (w : Wrd) : PyData := .tuple [.int (w.1 : Int), .int (w.2.1 : Int), .int (w.2.2.1 : Int), sD w.2.2.2]
def rowsD (g : List (List Nat)) : PyData := .tuple (g.map sD)
def layD (L : List Tri) : PyData := .tuple (L.map triD)
theorem cell_open {H : Hp} {c : Cel} {v : V} (h : At H (cellD c) v) : ∃ a, v = .ref a ∧ H a = some (.tup [.int (c.1 : Int), .int (c.2 : Int)]) := by
  obtain ⟨a, vs, e, ha, hs⟩ := at_tup' h
  obtain ⟨v1, r1, e1, h1, hs⟩ := aa_cons' hs
  obtain ⟨v2, r2, e2, h2, hs⟩ := aa_cons' hs
  rw [e1, e2, aa_nil' hs, at_int' h1, at_int' h2] at ha
  exact ⟨a, e, ha⟩
theorem tri_open {H : Hp} {t : Tri} {v : V} (h : At H (triD t) v) : ∃ a, v = .ref a ∧ H a = some (.tup [.int (t.1 : Int), .int (t.2.1 : Int), .str (mk [t.2.2])]) := by
  obtain ⟨a, vs, e, ha, hs⟩ := at_tup' h
  obtain ⟨v1, r1, e1, h1, hs⟩ := aa_cons' hs
  obtain ⟨v2, r2, e2, h2, hs⟩ := aa_cons' hs
  obtain ⟨v3, r3, e3, h3, hs⟩ := aa_cons' hs
  rw [e1, e2, e3, aa_nil' hs, at_int' h1, at_int' h2, at_str' h3] at ha
  exact ⟨a, e, ha⟩
theorem wrd_open {H : Hp} {t : Wrd} {v : V} (h : At H (wrdD t) v) : ∃ a, v = .ref a ∧ H a = some (.tup [.int (t.1 : Int), .int (t.2.1 : Int), .int (t.2.2.1 : Int), .str (mk t.2.2.2)]) := by
  obtain ⟨a, vs, e, ha, hs⟩ := at_tup' h
  obtain ⟨v1, r1, e1, h1, hs⟩ := aa_cons' hs
  obtain ⟨v2, r2, e2, h2, hs⟩ := aa_cons' hs
  obtain ⟨v3, r3, e3, h3, hs⟩ := aa_cons' hs
  obtain ⟨v4, r4, e4, h4, hs⟩ := aa_cons' hs
  rw [e1, e2, e3, e4, aa_nil' hs, at_int' h1, at_int' h2, at_int' h3, at_str' h4] at ha
  exact ⟨a, e, ha⟩
theorem cell_mk {H : Hp} {c : Cel} {a : Addr} (h : H a = some (.tup [.int (c.1 : Int), .int (c.2 : Int)])) : At H (cellD c) (.ref a) := at_tup h (aa_cons at_int (aa_cons at_int aa_nil))
theorem tri_mk {H : Hp} {t : Tri} {a : Addr} (h : H a = some (.tup [.int (t.1 : Int), .int (t.2.1 : Int), .str (mk [t.2.2])])) : At H (triD t) (.ref a) := at_tup h (aa_cons at_int (aa_cons at_int (aa_cons at_str aa_nil)))
theorem wrd_mk {H : Hp} {t : Wrd} {a : Addr} (h : H a = some (.tup [.int (t.1 : Int), .int (t.2.1 : Int), .int (t.2.2.1 : Int), .str (mk t.2.2.2)])) : At H (wrdD t) (.ref a) := at_tup h (aa_cons at_int (aa_cons at_int (aa_cons at_int (aa_cons at_str aa_nil))))
theorem rows_open {H : Hp} {g : List (List Nat)} {v : V} (h : At H (rowsD g) v) : ∃ a, v = .ref a ∧ H a = some (.tup (g.map fun l => V.str (mk l))) := by
  obtain ⟨a, vs, e, ha, hs⟩ := at_tup' h
  have q : g.map sD = (g.map mk).map PyData.str := by rw [List.map_map]; rfl
  rw [q] at hs
  rw [AtAll.strs' hs, List.map_map] at ha
  exact ⟨a, e, ha⟩
theorem rows_mk {H : Hp} {g : List (List Nat)} {a : Addr} (h : H a = some (.tup (g.map fun l => V.str (mk l)))) : At H (rowsD g) (.ref a) := by
  have q : g.map sD = (g.map mk).map PyData.str := by rw [List.map_map]; rfl
  refine at_tup h ?_
  rw [q]
  have z := AtAll.strs (H := H) (g.map mk)
  rw [List.map_map (f := mk) (g := V.str)] at z
  exact z
/-- a list that holds data -/
def LsAt (H : Hp) (p : Addr) (ds : List PyData) : Prop := ∃ vs, H p = some (.lst vs) ∧ AtAll H ds vs

/-! ### defs that keep their promise, by name -/
structure DefOk (P : Program) (w : World) (K : PySem.W.Frag) (mg : Str → Option Value) (base : Heap) (CX : CXT) (x : Str) (k : Nat) (ps : List Str) (sp : Sp) : Prop where
  ex : ∃ f fd, mg x = some (.ref f) ∧ PySem.W.keepIn K (.ref f) = true ∧ Binds K fd ps [] ∧ FnOk P w K mg base CX k f fd ps sp
structure MethOk (P : Program) (w : World) (K : PySem.W.Frag) (mg : Str → Option Value) (base : Heap) (CX : CXT) (C : Addr) (x : Str) (k : Nat) (ps : List Str) (sp : Sp) : Prop where
  ex : ∃ f fd, Meth K C x f ∧ Binds K fd ps [] ∧ FnOk P w K mg base CX k f fd ps sp
/-- an own class C, called: its maker keeps sp -/
structure MakeOk (P : Program) (w : World) (K : PySem.W.Frag) (mg : Str → Option Value) (base : Heap) (CX : CXT) (C : Addr) (x : Str) (k : Nat) (ps : List Str) (sp : Sp) : Prop where
  ex : ∃ f fd, mg x = some (.ref C) ∧ Mk K C f ∧ Binds K fd ps [] ∧ FnOk P w K mg base CX k f fd ps sp
section
variable {X : Cx} {CX : CXT} {k : Nat} {C : Addr} {ps : List Str} {sp : Sp} {E : XK} {x m : Str} {p pos apos : Pos} {e o : Expr} {es : List Expr} {ta : TE} {t : TA}
theorem pe_fn (c : DefOk X.prog X.w X.K X.mg X.base CX x k ps sp) (hr : Room k X.A) (hx : Passes CX X E) (ha : PA X (e :: es) t) (hg : Gl X x := by rfl) (hdb : (x == ("__debug__" : Str)) = false := by decide)
    (he : starEach (e :: es) X.env = (false, eval e X.env) :: starEach es X.env := by rfl) (hpl : (backTo pos (starEach es X.env)).any (·.1) = false := by rfl) :
    PE X (.Call (.Name x p) (e :: es) [] pos) (tCall sp [] E t) := by
  obtain ⟨f, fd, h1, h2, h3, h4⟩ := c.ex
  exact pe_call h4 hr hg h1 h2 h3 .nil hx ha hdb he hpl
theorem pe_mt {pl : Sem Bool} (c : MethOk X.prog X.w X.K X.mg X.base CX C m k ps sp) (cl : Cls X.K C) (hr : Room k X.A) (hx : Passes CX X E) (ho : PE X o ta) (ha : PA X (e :: es) t)
    (hc : eval (.Call (.Attribute o m apos) (e :: es) [] pos) X.env = (do
      let ov ← eval o X.env
      standAt apos.atName
      let (f, first) ← holding [ov] (getMethod ov m pl)
      callWith pos f first (backTo pos (starEach (e :: es) X.env)) (backToKw pos (keywordEach [] X.env))) := by rfl)
    (he : starEach (e :: es) X.env = (false, eval e X.env) :: starEach es X.env := by rfl) (hpl : (backTo pos (starEach es X.env)).any (·.1) = false := by rfl) :
    PE X (.Call (.Attribute o m apos) (e :: es) [] pos) (tMeth C m sp [] E ta t) := by
  obtain ⟨f, fd, h1, h3, h4⟩ := c.ex
  exact pe_meth (pl := pl) ho cl h1 h4 hr h3 .nil hx ha he hpl hc
theorem pe_mt0 {pl : Sem Bool} (c : MethOk X.prog X.w X.K X.mg X.base CX C m k ps sp) (cl : Cls X.K C) (hr : Room k X.A) (hx : Passes CX X E) (ho : PE X o ta)
    (hc : eval (.Call (.Attribute o m apos) [] [] pos) X.env = (do
      let ov ← eval o X.env
      standAt apos.atName
      let (f, first) ← holding [ov] (getMethod ov m pl)
      callWith pos f first (backTo pos (starEach [] X.env)) (backToKw pos (keywordEach [] X.env))) := by rfl) :
    PE X (.Call (.Attribute o m apos) [] [] pos) (tMeth C m sp [] E ta tNil) := by
  obtain ⟨f, fd, h1, h3, h4⟩ := c.ex
  exact pe_meth0 (pl := pl) ho cl h1 h4 hr h3 .nil hx hc
theorem pe_new (c : MakeOk X.prog X.w X.K X.mg X.base CX C x k ps sp) (hr : Room (k + 1) X.A) (hx : Passes CX X E) (ha : PA X (e :: es) t) (hg : Gl X x := by rfl) (hdb : (x == ("__debug__" : Str)) = false := by decide)
    (he : starEach (e :: es) X.env = (false, eval e X.env) :: starEach es X.env := by rfl) (hpl : (backTo pos (starEach es X.env)).any (·.1) = false := by rfl) :
    PE X (.Call (.Name x p) (e :: es) [] pos) (tMake C sp [] E t) := by
  obtain ⟨f, fd, h1, h2, h3, h4⟩ := c.ex
  exact pe_make h2 h4 hr hg h1 h3 .nil hx ha hdb he hpl
end

/-! ### texts of the module, builtins as values -/
section
variable {X : Cx} {x z : Str} {pos : Pos}
theorem pe_gs (h : ∃ t, X.mg x = some (.str z t)) (hg : Gl X x := by rfl) (hd : (x == ("__debug__" : Str)) = false := by decide) : PE X (.Name x pos) (tC (.str z)) := by
  obtain ⟨t, e⟩ := h
  exact pe_glob hg e ⟨t, rfl⟩ hd
theorem pe_gi {i : Int} (h : ∃ t, X.mg x = some (.int i t)) (hg : Gl X x := by rfl) (hd : (x == ("__debug__" : Str)) = false := by decide) : PE X (.Name x pos) (tC (.int i)) := by
  obtain ⟨t, e⟩ := h
  exact pe_glob hg e ⟨t, rfl⟩ hd
theorem pe_gc {C : Addr} (h : X.mg x = some (.ref C)) (hg : Gl X x := by rfl) (hd : (x == ("__debug__" : Str)) = false := by decide) : PE X (.Name x pos) (tC (.ref C)) := pe_glob hg h rfl hd
end
/-! ### built-ins, by names of their own -/
section
variable {X : Cx}
def rLenT : List V → Hp → VK → Prop := fun xs H Q => ∃ z : Str, xs = [.str z] ∧ z.length ≤ sizeLine ∧ Q (.int z.length) H
theorem b_lenT : CallR X (.builtin "len") rLenT := call_len_str
def rLenQ (K : PySem.W.Frag) : List V → Hp → VK → Prop := fun xs H Q => ∃ p ys, xs = [.ref p] ∧ (SqL K H p ys ∨ SqT K H p ys) ∧ Q (.int ys.length) H
theorem b_lenQ : CallR X (.builtin "len") (rLenQ X.K) := call_len_seq
def rIntB : List V → Hp → VK → Prop := fun xs H Q => ∃ k : Bool, xs = [.bl k] ∧ Q (.int (if k then 1 else 0)) H
theorem b_intB : CallR X (.type "int") rIntB := by
  intro pins s σ H xs us Q I r h
  exact call_int1 pins s σ H xs us Q I r (.inr h)
/-- tuple(a list), a new one -/
def rTupL (K : PySem.W.Frag) : List V → Hp → VK → Prop := fun xs H Q => ∃ p ys, xs = [.ref p] ∧ SqL K H p ys ∧ ∀ l, H l = none → Q (.ref l) (upd H l (.tup ys))
theorem b_tupL : CallR X (.type "tuple") (rTupL X.K) := by
  intro pins s σ H xs us Q I r h
  obtain ⟨p, ys, e, h1, h2⟩ := h
  exact call_tuple_of pins s σ H xs us Q I r ⟨p, ys, e, .inl ⟨h1, h2⟩⟩
/-- list(a tuple), a new one -/
def rLstT (K : PySem.W.Frag) : List V → Hp → VK → Prop := fun xs H Q => ∃ p ys, xs = [.ref p] ∧ SqT K H p ys ∧ ∀ l, H l = none → Q (.ref l) (upd H l (.lst ys))
theorem b_lstT : CallR X (.type "list") (rLstT X.K) := by
  intro pins s σ H xs us Q I r h
  obtain ⟨p, ys, e, h1, h2⟩ := h
  exact call_list_of pins s σ H xs us Q I r ⟨p, ys, e, .inr h1, h2⟩
def rJoin (K : PySem.W.Frag) : V → List V → Hp → VK → Prop := fun x xs H Q => ∃ a p, ∃ ys : List Str, x = .str a ∧ xs = [.ref p] ∧ (SqL K H p (ys.map V.str) ∨ SqT K H p (ys.map V.str)) ∧
    (ys.map (·.length)).sum + ys.length * a.length ≤ 16777216 ∧ Q (.str (Txt.join a ys)) H
theorem m_join : MtR X "str.join" (rJoin X.K) := mt_join
def rLow : V → List V → Hp → VK → Prop := fun x xs H Q => ∃ a : Str, x = .str a ∧ xs = [] ∧ a.length ≤ 5592405 ∧ Q (.str (Txt.lower a)) H
theorem m_low : MtR X "str.lower" rLow := mt_lower
def rUpp : V → List V → Hp → VK → Prop := fun x xs H Q => ∃ a : Str, x = .str a ∧ xs = [] ∧ a.length ≤ 5592405 ∧ Q (.str (Txt.upper a)) H
theorem m_upp : MtR X "str.upper" rUpp := mt_upper
def rCnt : V → List V → Hp → VK → Prop := fun x xs H Q => ∃ a b : Str, x = .str a ∧ xs = [.str b] ∧ Q (.int (Txt.count a b)) H
theorem m_cnt : MtR X "str.count" rCnt := mt_count
def rAddS : R2 := fun x y H Q => ∃ i j : Str, x = .str i ∧ y = .str j ∧ i.length + j.length ≤ sizeLine ∧ Q (.str (i ++ j)) H
theorem o_addS : OpR X (binaryOp .Add) rAddS := op_add_str
theorem o_iaddS : OpR X (inplaceOp .Add) rAddS := iop_add_str
def rInC : R2 := fun x y H Q => ∃ (c : Nat) (z : Str), x = .str ⟨#[c]⟩ ∧ y = .str z ∧ Q (.bl (decide (c ∈ z.cps.toList))) H
theorem o_inC : OpR X (compareOp .In) rInC := op_in_sign
def rNinC : R2 := fun x y H Q => ∃ (c : Nat) (z : Str), x = .str ⟨#[c]⟩ ∧ y = .str z ∧ Q (.bl (!decide (c ∈ z.cps.toList))) H
theorem o_ninC : OpR X (compareOp .NotIn) rNinC := op_notIn_sign
/-- a text times a number -/
def rMulS : R2 := fun x y H Q => ∃ (i : Str) (n : Int), x = .str i ∧ y = .int n ∧ 1 ≤ n ∧ n ≤ 1000 ∧ i.length ≤ 1000 ∧ Q (.str (Txt.mul i n)) H
theorem o_mulS : OpR X (binaryOp .Mult) rMulS := by
  intro pins s σ H x y v u Q I rx ry h
  obtain ⟨i, n, rfl, rfl, h1, h2, h3, q⟩ := h
  obtain ⟨t, rfl⟩ := rx
  obtain ⟨t', rfl⟩ := ry
  have e1 : (decide (n < -(2 ^ 63 : Int)) || decide (n ≥ 2 ^ 63)) = false := by
    rw [Bool.or_eq_false_iff]
    exact ⟨decide_eq_false (by omega), decide_eq_false (by omega)⟩
  refine SB.mul ⟨e1, fun _ _ => ?_, fun _ _ => ?_⟩ fun t' k => ⟨.str _, H, I.tok k, ⟨t', rfl⟩, q⟩
  · have : (2 ^ 63 - 1 : Int) / n ≥ 1000 := by
      apply Int.le_ediv_of_mul_le (by omega)
      omega
    omega
  · have z : i.length * n.toNat ≤ 1000 * 1000 := Nat.mul_le_mul h3 (by omega)
    unfold Builtin.Str.tooLong
    have q := sizeLine_eq
    simp only [decide_eq_false_iff_not]
    omega
end
open PySem.W (EachIs AllAlike Sortable dataLe dataLt)

/-! ### sorted of a list of data -/
abbrev srt (ds : List PyData) : List PyData := ds.mergeSort (dataLe false id)
def rSrtD (K : PySem.W.Frag) : List V → Hp → VK → Prop := fun xs H Q => ∃ p vs ds, xs = [.ref p] ∧ SqL K H p vs ∧ AtAll H ds vs ∧ AllAlike ds ∧ Sortable ds ∧ ds.length ≤ 1000 ∧ (∀ d ∈ ds, d.depth ≤ 8) ∧
  ∀ l ws, H l = none → AtAll H (srt ds) ws → Q (.ref l) (upd H l (.lst ws))
theorem zipE {H : Hp} : ∀ {vs : List V} {us : List Value} {ds : List PyData}, Vals vs us → AtAll H ds vs → EachIs (fun u (b : V × PyData) => RelV b.1 u ∧ At H b.2 b.1) us (vs.zip ds)
  | [], _, ds, .nil, h => by simp only [List.zip_nil_left]; exact .nil
  | v :: vs, _, [], .cons _ _, h => by cases aa_nil' h
  | v :: vs, _, d :: ds, .cons r t, h => by
    obtain ⟨w, q, e, h1, h2⟩ := aa_cons' h
    cases e
    exact .cons ⟨r, h1⟩ (zipE t h2)
theorem unzipE {H : Hp} : ∀ {us : List Value} {bs : List (V × PyData)}, EachIs (fun u (b : V × PyData) => RelV b.1 u ∧ At H b.2 b.1) us bs → Vals (bs.map (·.1)) us ∧ AtAll H (bs.map (·.2)) (bs.map (·.1))
  | _, [], .nil => ⟨.nil, aa_nil⟩
  | _, _ :: _, .cons h t => ⟨.cons h.1 (unzipE t).1, aa_cons h.2 (unzipE t).2⟩
theorem zip_snd {vs : List V} {ds : List PyData} (h : vs.length = ds.length) : (vs.zip ds).map (·.2) = ds := List.map_snd_zip (by omega)
theorem b_srtD {X : Cx} {k : Nat} (hr : Room k X.A) : CallR X (.builtin "sorted") (rSrtD X.K) := by
  intro pins s σ H xs us Q I r h
  obtain ⟨p, vs, ds, rfl, hs, ha, hal, hso, hlen, hdp, q⟩ := h
  obtain ⟨its, rv, hl, _⟩ := I.list hs
  rw [Vals.ref1 r]
  have hzl : (vs.zip ds).map (fun b : V × PyData => b.2) = ds := zip_snd ha.len
  have e := zipE rv ha
  have hbl : (vs.zip ds).length = ds.length := by rw [← hzl, List.length_map, hzl]
  have hun := hr.un
  refine PySem.W.sorted_data (β := V × PyData) (enc := fun b => b.2) (R := fun u b => RelV b.1 u ∧ At H b.2 b.1) hl.isList e ?_ (by rw [hzl]; exact hal) (by rw [hzl]; exact hso) (by rw [hbl, sizeLine_eq]; omega) (fun b hb => ?_) fun out ho he => ?_
  · exact e.mono fun u b ⟨h1, h2⟩ => Dp.reads I b.2 b.1 u (At.dp b.2 b.1 h2) h1
  · have hm : b.2 ∈ ds := by rw [← hzl]; exact List.mem_map.mpr ⟨b, hb, rfl⟩
    have := hdp _ hm
    omega
  · obtain ⟨h1, h2⟩ := unzipE he
    have es : ((vs.zip ds).mergeSort (dataLe false fun b : V × PyData => b.2)).map (fun b : V × PyData => b.2) = srt ds := by
      have := PySem.W.sort_maps (r := dataLe false fun b : V × PyData => b.2) (s := dataLe false (id : PyData → PyData)) (fun b : V × PyData => b.2) (l := vs.zip ds) (fun a _ b _ => rfl)
      rw [this, hzl]
    rw [es] at h2
    obtain ⟨ep, he'⟩ := PyProof.Rows.sortedAll_at s.heap its out.toArray
    have hln : (((vs.zip ds).mergeSort (dataLe false fun b : V × PyData => b.2)).map (fun b : V × PyData => b.1)).length ≤ sizeLine := by
      rw [List.length_map, List.length_mergeSort, hbl, sizeLine_eq]; omega
    exact ⟨.ref _, upd H (s.heap.objs.size + 1) (.lst _), I.laid (t' := s.toks) (fun _ _ => PyProof.Rows.sortedAll_old) (Nat.le_succ _) ⟨hln, out, ep, h1, he'⟩, rfl, q _ _ (I.hok.fresh (Nat.le_succ _)) h2⟩

/-! ### sorted of a text: its signs, in some order -/
def rSrtT : List V → Hp → VK → Prop := fun xs H Q => ∃ cs : List Nat, xs = [V.str (mk cs)] ∧ cs.length ≤ 1000 ∧ ∀ (l : Addr) (ds : List Nat), H l = none → ds.Perm cs → Q (.ref l) (upd H l (.lst (ds.map fun c => V.str (mk [c]))))
theorem signs_vals : ∀ {cs : List Nat} {us : List Value}, us.length = cs.length → (∀ (j : Nat) (v : Value), us[j]? = some v → ∃ c u, cs[j]? = some c ∧ v = Value.str ⟨#[c]⟩ u) → EachIs (fun u (c : Nat) => RelV (V.str (mk [c])) u) us cs
  | [], [], _, _ => .nil
  | [], _ :: _, e, _ => by cases e
  | _ :: _, [], e, _ => by cases e
  | c :: cs, u :: us, e, h => by
    obtain ⟨c', t, e1, e2⟩ := h 0 u rfl
    cases e1
    exact .cons ⟨t, e2⟩ (signs_vals (by simpa using e) fun j v hj => by simpa using h (j + 1) v (by simpa using hj))
theorem vals_signs : ∀ {cs : List Nat} {us : List Value}, EachIs (fun u (c : Nat) => RelV (V.str (mk [c])) u) us cs → Vals (cs.map fun c => V.str (mk [c])) us
  | [], _, .nil => .nil
  | _ :: _, _, .cons h t => .cons h (vals_signs t)
theorem b_srtT {X : Cx} {k : Nat} (hr : Room k X.A) (hc : X.calm = true) : CallR X (.builtin "sorted") rSrtT := by
  intro pins s σ H xs us Q I r h
  obtain ⟨cs, rfl, hlen, q⟩ := h
  obtain ⟨u, rfl, t, rfl⟩ := Vals.one r
  have hun := hr.un
  have hsz : (mk cs).cps.size ≤ sizeLine := by rw [sizeLine_eq]; show cs.toArray.size ≤ _; rw [List.size_toArray]; omega
  refine PySem.Calls.call_function_entry kind_sorted plain_sorted entry_sorted (args_sorted1 _) ?_
  unfold Builtin.«sorted»
  refine wpAny_bind (m := checkCount "sorted" 1 1 _) (wpAny_pure ?_)
  refine wpAny_bind (wpAny_collect_str (A := X.A.in1) (I.ok.hd hc) (mk cs) t (fun s' acc hk hg hd ho hi => ?_) hsz)
  obtain ⟨hp', g', d', tk', os'⟩ := s'
  dsimp only at hk hg hd ho
  subst hg hd ho
  have hal : acc.toList.length = cs.length := by
    have := hi.1
    rw [Array.length_toList, this]
    show cs.toArray.size = _
    rw [List.size_toArray]
  have hE : EachIs (fun u (c : Nat) => RelV (V.str (mk [c])) u) acc.toList cs := signs_vals hal fun j v hj => by
    have := hi.2 j v (by simpa using hj)
    obtain ⟨c, u, e1, e2⟩ := this
    exact ⟨c, u, by simpa using e1, e2⟩
  refine wpAny_bind (wpAny_newList ?_ (by rw [hal, sizeLine_eq]; omega))
  have hL : (hp'.push (seqObj "list" acc.toList.toArray 0)).get? hp'.objs.size = some (seqObj "list" acc.toList.toArray 0) := Heap.get?_push_size _ rfl
  have rd : ∀ (h : Heap) (u : Value) (c : Nat), RelV (V.str (mk [c])) u → ∃ as, Reads h u (PyData.str (mk [c])) as ∧ hp'.objs.size ∉ as := fun h u c hu => by
    obtain ⟨t, rfl⟩ := hu
    exact ⟨[], Reads.str _ _, by simp⟩
  refine wpAny_bind (wpAny_holding (PySem.W.list_sort_data (A := X.A.in1) (enc := fun c : Nat => PyData.str (mk [c])) (R := fun u (c : Nat) => RelV (V.str (mk [c])) u) hL hE (hE.mono fun u c hu => rd _ u c hu) (AllAlike.of fun _ _ => rfl)
    (Sortable.others fun b => ⟨nofun, fun xs => nofun⟩) (by rw [sizeLine_eq]; omega) (fun b _ => ?_) fun out ho2 he => ?_))
  · show X.A.units + 1 + 1 + 0 < cLine
    omega
  · refine wpAny_pure ⟨_, rfl, ?_⟩
    have hv := vals_signs he
    have hp := List.mergeSort_perm cs (dataLe false fun c : Nat => PyData.str (mk [c]))
    have hn : H hp'.objs.size = none := (I.hok.kept hk).fresh (Nat.le_refl _)
    obtain ⟨ep, he'⟩ := PyProof.Rows.sortedHeap_at (vs := acc.toList) (out := out.toArray) hL
    have hlen2 : ((cs.mergeSort (dataLe false fun c : Nat => PyData.str (mk [c]))).map fun c => V.str (mk [c])).length ≤ sizeLine := by
      rw [List.length_map, List.length_mergeSort, sizeLine_eq]; omega
    have old : ∀ b o, s.heap.get? b = some o → (PyProof.Rows.sortedHeap (hp'.push (seqObj "list" acc.toList.toArray 0)) hp'.objs.size acc.toList out.toArray).get? b = some o := fun b o e => by
      have hb := hk b o e
      have hlt := Heap.lt_size hb
      rw [PyProof.Rows.sortedHeap_old (Nat.ne_of_lt hlt) (by rw [PyProof.Rows.size_push']; exact Nat.lt_succ_of_lt hlt)]
      exact Heap.get?_push_of_some _ hb
    have na : s.heap.get? hp'.objs.size = none := by
      cases e : s.heap.get? hp'.objs.size with
      | none => rfl
      | some o => exact absurd (Heap.lt_size (hk _ _ e)) (Nat.lt_irrefl _)
    exact ⟨.ref hp'.objs.size, upd H hp'.objs.size (.lst _), I.laidN (t' := tk') (h' := PyProof.Rows.sortedHeap (hp'.push (seqObj "list" acc.toList.toArray 0)) hp'.objs.size acc.toList out.toArray) old na hn ⟨hlen2, out, ep, hv, he'⟩, rfl, q _ _ hn hp⟩

/-! ### xs.remove(y), xs a list of texts that holds y -/
theorem first_of : ∀ {ys : List Str} {z : Str}, z ∈ ys → ∃ j, j < ys.length ∧ ys[j]? = some z ∧ (∀ i, i < j → ys[i]? ≠ some z) ∧ ys.eraseIdx j = ys.erase z
  | [], z, h => by simp at h
  | y :: r, z, h => by
    by_cases e : y = z
    · subst e
      exact ⟨0, by simp, rfl, fun i hi => by omega, by simp⟩
    · have hr : z ∈ r := by
        rcases List.mem_cons.mp h with q | q
        · exact absurd q.symm e
        · exact q
      obtain ⟨j, h1, h2, h3, h4⟩ := first_of hr
      refine ⟨j + 1, by simpa using h1, by simpa using h2, fun i hi => ?_, ?_⟩
      · cases i with
        | zero => simpa using e
        | succ i => simpa using h3 i (by omega)
      · have : (y == z) = false := by simpa using e
        rw [List.erase_cons, this]
        simp [h4]
theorem map_erIdx {α β : Type} (f : α → β) : ∀ (l : List α) (j : Nat), (l.map f).eraseIdx j = (l.eraseIdx j).map f
  | [], _ => rfl
  | _ :: _, 0 => rfl
  | x :: r, j + 1 => by simp [map_erIdx f r j]
theorem flat_strV : ∀ ys : List Str, (ys.map V.str).all flatV = true
  | [] => rfl
  | _ :: ys => by simp [flatV, flat_strV ys]
def rRemT : V → List V → Hp → VK → Prop := fun x xs H Q => ∃ (l : Addr) (ys : List Str) (z : Str), x = V.ref l ∧ xs = [V.str z] ∧ H l = some (.lst (ys.map V.str)) ∧ z ∈ ys ∧ Q .non (upd H l (.lst ((ys.erase z).map V.str)))
theorem m_remT {X : Cx} : MtR X "list.remove" rRemT := by
  intro pins s σ H x xs v us Q I rx rxs h
  obtain ⟨l, ys, z, rfl, rfl, hl, hz, q⟩ := h
  cases (show v = Value.ref l from rx)
  obtain ⟨u, rfl, t, rfl⟩ := Vals.one rxs
  obtain ⟨hsz, its, n, r, hlen, e0⟩ := I.lstM hl
  obtain ⟨j, j1, j2, j3, j4⟩ := first_of hz
  have hj : j < its.length := by rw [← hlen, List.length_map]; exact j1
  have at' : ∀ (m : Nat) (hm : m < its.length), ∃ y t', ys[m]? = some y ∧ its[m] = Value.str y t' := fun m hm => by
    have hm' : m < ys.length := by rw [← hlen, List.length_map] at hm; exact hm
    obtain ⟨w, hw, t', hw'⟩ := r.get (i := m) (x := V.str ys[m]) (by simp [hm'])
    refine ⟨ys[m], t', List.getElem?_eq_getElem hm', ?_⟩
    rw [← hw', ← (List.getElem?_eq_some_iff.mp hw).2]
  refine call_meets PySem.F.slot_list_remove ⟨_, e0, rfl⟩ PySem.F.entry_list_remove (PySem.F.args_list_remove_2 _ _)
    (MeetsSeq.list_remove l its.toArray n (.str z t) (isStrOf z) (fun y hy => PyProof.Rows.eq_isStrOf z t (strs_of_vals r) y (by simpa using hy)) j (by rw [List.size_toArray]; exact hj) ?hit (fun i hi2 hlt => ?hno) (by rw [List.size_toArray, ← hlen]; exact hsz)) ⟨e0, ?_⟩
  case hit =>
    obtain ⟨y, t', h1, h2⟩ := at' j hj
    rw [j2] at h1
    cases h1
    show isStrOf z its[j] = true
    rw [h2]
    show (z == z) = true
    exact beq_self_eq_true z
  case hno =>
    have hi3 : i < its.length := by rw [List.size_toArray] at hi2; exact hi2
    obtain ⟨y, t', h1, h2⟩ := at' i hi3
    show isStrOf z its[i] = false
    rw [h2]
    show (y == z) = false
    exact beq_eq_false_iff_ne.mpr fun e => j3 i hlt (e ▸ h1)
  have r2 : Vals ((ys.erase z).map V.str) (its.eraseIdx j) := by
    have w := r.eraseIdx j
    rw [map_erIdx, j4] at w
    exact w
  refine ⟨.non, _, I.lset (its' := its.eraseIdx j) hl e0 ?_ r2 ?_, rfl, q⟩
  · show its.toArray.eraseIdxIfInBounds j = (its.eraseIdx j).toArray
    rw [List.eraseIdxIfInBounds_toArray]
  · rw [List.length_map]
    have := List.length_erase_le (a := z) (l := ys)
    rw [List.length_map] at hsz
    omega

/-! ### len(set(xs)), xs whole numbers -/
/-- how many unlike ones -/
def kinds (ns : List Int) : Nat := (PyProof.Rows.firstMet (fun i => ns.getD i 0) ns.length).length
def tKinds (K : PySem.W.Frag) (ta : TE) : TE := fun σ H Q => ta σ H fun x H1 => ∃ (l : Addr) (ns : List Int), x = .ref l ∧ SqL K H1 l (ns.map V.int) ∧ ns.length ≤ 4000 ∧ Q (.int (kinds ns : Nat)) H1
theorem pe_kinds {X : Cx} {a : Expr} {ta : TE} {p p2 q pos : Pos} (hm : X.mg "len" = none) (hm2 : X.mg "set" = none) (ha : PE X a ta) (hg : Gl X "len" := by rfl) (hg2 : Gl X "set" := by rfl) (hc : X.calm = true := by rfl)
    (na : starEach [a] X.env = (false, eval a X.env) :: starEach [] X.env := by rfl) : PE X (.Call (.Name "len" p) [.Call (.Name "set" p2) [a] [] q] [] pos) (tKinds X.K ta) := by
  refine ⟨fun pins s σ H Q I h => ?_⟩
  refine Call_ (ld_blt I hg hm boot_len ?_)
  refine PyProof.Rows.callWith_builtin1 (PyProof.Rows.args_cons ?_ rfl) rfl rfl
  refine Call_ (ld_blt I hg2 hm2 boot_set ?_)
  refine PyProof.Rows.callWith_type1 (PyProof.Rows.args_cons (thn (ha.run pins s σ H _ I h) fun v s1 ⟨x, H1, I1, r1, q1⟩ => PyProof.Rows.args_nil ?_) na) na rfl
  obtain ⟨l, ns, rfl, hq, hl, q1⟩ := q1
  cases r1
  obtain ⟨its, r, pl, hz⟩ := I1.list hq
  have hlen : its.toArray.size = ns.length := by rw [List.size_toArray, ← r.length, List.length_map]
  have hle := PyProof.Rows.firstMet_length_le (fun i => ns.getD i 0) ns.length
  refine call_set_list (I1.ok.hd hc) pl.isList (by simpa using r.ints) (by rw [hlen]; unfold scanBound; omega) fun h' tk hS hk => ?_
  refine PyProof.Rows.args_nil ?_
  rw [hlen] at hS
  obtain ⟨o, es, ep, t, ho, hex, hd, _, _, _, hf, hn⟩ := hS
  have I2 : Inv X pins σ H1 { s1 with heap := h', toks := tk } := I1.kept fun b o e => hk b o (Heap.lt_size e) e
  exact call_len_set ho hex hd hf (by rw [hn] <;> omega) ⟨.int (kinds ns : Nat), H1, I2.tok _, ⟨_, by rw [hn] <;> rfl⟩, q1⟩
theorem dedup_same (a : Int) : ∀ l : List Int, (∀ x ∈ l, x = a) → l.foldl step_dedup [a] = [a]
  | [], _ => rfl
  | x :: l, h => by
    have e : x = a := h x (List.mem_cons_self ..)
    subst e
    have : step_dedup [x] x = [x] := by simp [step_dedup]
    rw [List.foldl_cons, this]
    exact dedup_same x l fun y hy => h y (List.mem_cons_of_mem _ hy)
/-- one kind alone, where all are alike -/
theorem kinds_one {ns : List Int} : kinds ns ≤ 1 ↔ ∀ a ∈ ns, ∀ b ∈ ns, a = b := by
  unfold kinds
  have key := PyProof.Rows.firstMet_any (fun i => ns.getD i 0) ns.length
  have em : (List.range ns.length).map (fun i => ns.getD i 0) = ns := by
    apply List.ext_getElem?
    intro i
    rw [List.getElem?_map]
    by_cases hi : i < ns.length
    · simp [hi]
    · simp [hi]
  have ef : PyProof.Rows.firstMet (fun i => ns.getD i 0) ns.length = ns.foldl step_dedup [] := by
    show ((List.range ns.length).map (fun i => ns.getD i 0)).foldl step_dedup [] = _
    rw [em]
  rw [em, ef] at key
  rw [ef]
  constructor
  · intro hl a ha b hb
    have mem : ∀ k, k ∈ ns → k ∈ ns.foldl step_dedup [] := fun k hk => by
      have : (ns.foldl step_dedup []).any (· == k) = true := by rw [key k]; exact List.any_eq_true.mpr ⟨k, hk, by simp⟩
      obtain ⟨y, hy, e⟩ := List.any_eq_true.mp this
      have e' : y = k := by simpa using e
      rw [← e']; exact hy
    have h1 := mem a ha
    have h2 := mem b hb
    generalize ns.foldl step_dedup [] = fs at hl h1 h2
    match fs, hl, h1, h2 with
    | [x], _, h1, h2 => simp at h1 h2; rw [h1, h2]
    | [], _, h1, _ => simp at h1
  · intro h
    cases ns with
    | nil => simp
    | cons a r =>
      have : step_dedup [] a = [a] := by simp [step_dedup]
      rw [List.foldl_cons, this, dedup_same a r fun x hx => h x (List.mem_cons_of_mem _ hx) a (List.mem_cons_self ..)]
      simp

/-! ### RackError.__init__(self, text): the maker that an own class has from ValueError -/
theorem pe_up {X : Cx} {x : Str} {R : Addr} {e : Expr} {es : List Expr} {ta : TA} {p1 p2 pos : Pos} {pl : Sem Bool} (hm : X.mg x = some (.ref R)) (r : ClX.CRead X.K R (.type "type"))
    (k : PySem.W.findCls X.K (.ref R) (.type "type") "__init__" = some (.val (.builtin "ValueError.__init__"))) (ha : PA X (e :: es) ta) (hg : Gl X x := by rfl) (hdb : (x == ("__debug__" : Str)) = false := by decide)
    (hc : eval (.Call (.Attribute (.Name x p1) "__init__" p2) (e :: es) [] pos) X.env = (do
      let self ← eval (.Name x p1) X.env
      standAt p2.atName
      let (g, more) ← holding [self] (getMethod self "__init__" pl)
      callWith pos g more (backTo pos (starEach (e :: es) X.env)) (backToKw pos (keywordEach [] X.env))) := by rfl)
    (he : starEach (e :: es) X.env = (false, eval e X.env) :: starEach es X.env := by rfl) (hpl : (backTo pos (starEach es X.env)).any (·.1) = false := by rfl) :
    PE X (.Call (.Attribute (.Name x p1) "__init__" p2) (e :: es) [] pos) (tVeI X.K ta) := by
  refine ⟨fun pins s σ H Q I h => ?_⟩
  refine PySem.W.methodCall_KW (ld_glob I hg hm ?_ hdb) hc
  refine PySem.W.method_cls I.kIn r.ga (PySem.W.cls_value I.kIn r.rd k (by decide +kernel) ?_)
  show wpAny _ _ (callWith pos (Value.builtin "ValueError.__init__") [] (backTo pos (starEach (e :: es) X.env)) []) _ _ _
  refine PyProof.Rows.callWith_method1 (thn (ha.run pos pins _ σ H _ (I.tok _) h) fun us s1 ⟨vs, H1, I1, r1, a, C, ws, ev, hl, T, ea, q⟩ => ?_) he hpl
  subst ev
  cases r1 with
  | @cons _ u0 _ ur ra rw' =>
    obtain rfl : u0 = Value.ref a := ra
    exact oinit_ok T I1 ea (by rw [← Paired.length rw', sizeLine_eq]; omega) fun s' J => ⟨.non, H1, J, rfl, q⟩

/-! ### what the written part says of the classes of errors -/
theorem own_ok {K : PySem.W.Frag} {x : Str} (h : (Ex.own x).ok K = true) : OexC K (He.ga K x) ∧ PySem.W.findIn K (.ref (He.ga K x)) "__init__" = some (some (.ref (He.ma K (He.ga K x) "__init__"))) ∧ PySem.W.typeIn K (.ref (He.ma K (He.ga K x) "__init__")) = some (.type "function") := by
  obtain ⟨h0, h⟩ := He.ba h
  obtain ⟨h1, h⟩ := He.ba h
  obtain ⟨h2, h⟩ := He.ba h
  obtain ⟨h3, h⟩ := He.ba h
  obtain ⟨h4, h⟩ := He.ba h
  obtain ⟨h5, h6⟩ := He.ba h
  refine ⟨⟨?_, of_decide_eq_true h1, of_decide_eq_true h2, of_decide_eq_true h3, h4⟩, of_decide_eq_true h5, of_decide_eq_true h6⟩
  unfold shpB at h0
  split at h0
  · rename_i dd kd ks ho
    split at h0
    · rename_i C2 up k0 k1 k2 k3 nw k5 hm hs
      obtain ⟨a, b⟩ := He.ba h0
      obtain ⟨a1, a2⟩ := He.ba a
      obtain ⟨b1, b⟩ := He.ba b
      obtain ⟨b2, b3⟩ := He.ba b
      have e1 : C2 = He.ga K x := of_decide_eq_true a1
      have e2 : nw = "ValueError.__new__" := of_decide_eq_true a2
      have hdel : kd.hasDel = false := by simpa using b1
      obtain ⟨nm, bs, mro, ns, qn, hd, sn, sub, ab, col, del⟩ := kd
      dsimp only at hm hdel b2
      subst hm hdel b2 e1 e2
      have hsl : ks = #[k0, k1, k2, k3, some (.builtin "ValueError.__new__"), k5] := by
        obtain ⟨l⟩ := ks
        simp only at hs
        rw [hs]
      subst hsl
      exact ⟨nm, qn, ns, bs, up, sn, sub, ab, col, dd, k0, k1, k2, k3, k5, ho, b3⟩
    · cases h0
  · cases h0
theorem iso_ok {K : PySem.W.Frag} {x : Str} (h : (Ex.iso x).ok K = true) : ExcC K (He.ga K x) := by
  obtain ⟨h0, h⟩ := He.ba h
  obtain ⟨h1, h⟩ := He.ba h
  obtain ⟨h2, h⟩ := He.ba h
  obtain ⟨h3, h⟩ := He.ba h
  obtain ⟨h4, h⟩ := He.ba h
  obtain ⟨h5, h⟩ := He.ba h
  obtain ⟨h6, h7⟩ := He.ba h
  exact ⟨of_decide_eq_true h0, of_decide_eq_true h1, of_decide_eq_true h2, h3, of_decide_eq_true h4, of_decide_eq_true h5, of_decide_eq_true h6, of_decide_eq_true h7⟩
theorem kit_ok {K : PySem.W.Frag} {x y : Str} {b : Bool} (h : (Ex.kit x y b).ok K = true) : PySem.W.kitOne K (.ref (He.ga K x)) (.ref (He.ga K y)) = some b := of_decide_eq_true h
theorem kiv_ok {K : PySem.W.Frag} {x : Str} (h : (Ex.kiv x).ok K = true) : PySem.W.kitOne K (.ref (He.ga K x)) (.type "ValueError") = some true := of_decide_eq_true h
theorem base_ok {K : PySem.W.Frag} {x : Str} (h : (Ex.base x).ok K = true) : ClX.CRead K (He.ga K x) (.type "type") ∧ PySem.W.findCls K (.ref (He.ga K x)) (.type "type") "__init__" = some (.val (.builtin "ValueError.__init__")) := by
  obtain ⟨h0, h⟩ := He.ba h
  obtain ⟨h1, h2⟩ := He.ba h
  refine ⟨⟨h0, of_decide_eq_true h1⟩, ?_⟩
  split at h2
  · rename_i n e
    have : n = "ValueError.__init__" := of_decide_eq_true h2
    rw [e, this]
  · cases h2
theorem ex_get {K : PySem.W.Frag} (h : exB K = true) {e : Ex} (he : e ∈ exL) : e.ok K = true := List.all_eq_true.mp h e he

/-! ### an error that is held -/
/-- at a: an error of the class cls, its dict at d -/
def XO (cls : Value) (d : Option Addr) (a : Addr) : HO := .ext fun h => ∃ (oe : Obj) (vs : Array Value), h.get? a = some oe ∧ Zc cls d oe ∧ oe.data = .fields vs
theorem xo_ok {P : Program} {w : World} {H : Hp} {h : Heap} {a : Addr} {cls : Value} {d : Option Addr} {oe : Obj} {vs : Array Value} (e : h.get? a = some oe) (z : Zc cls d oe) (hd : oe.data = .fields vs) : ObjOk P w H h a (XO cls d a) :=
  ⟨⟨oe, vs, e, z, hd⟩, ⟨oe, e⟩, fun _ _ ⟨o, v, q, r⟩ k => ⟨o, v, k o q, r⟩⟩
/-- what stands at a held error's dict -/
def XD (H : Hp) (d : Option Addr) : Prop := ∀ x, d = some x → ∃ fs, H x = some (.xd fs)
theorem xo_inst {X : Cx} {pins : List (Addr × Obj)} {σ : L2.St} {H : Hp} {s : Shared} {a D : Addr} {d : Option Addr} (I : Inv X pins σ H s) (ha : H a = some (XO (.ref D) d a)) (hd : XD H d) :
    ∃ oe od, PySem.W.InstAt s.heap a oe D od := by
  obtain ⟨⟨oe, vs, e, ⟨z1, z2⟩, z3⟩, _⟩ := I.hok a _ ha
  obtain ⟨oc, odi, oda, osl⟩ := oe
  dsimp only at z1 z2 z3
  subst z1 z2 z3
  cases odi with
  | none => exact ⟨_, none, e, rfl, rfl, trivial⟩
  | some x =>
    obtain ⟨fs, hx⟩ := hd x rfl
    obtain ⟨mA, ⟨od, _, _, ho, _⟩, _⟩ := I.hok x _ hx
    exact ⟨_, some od, e, rfl, rfl, ho⟩
/-- isinstance(e, c), isinstance(e, (c, ..)) -/
def rIsX (K : PySem.W.Frag) : List V → Hp → VK → Prop := fun xs H Q => ∃ (a D : Addr) (d : Option Addr) (c : V) (u : Value) (b : Bool), xs = [.ref a, c] ∧ H a = some (XO (.ref D) d a) ∧ XD H d ∧ ExcC K D ∧ ClsV c u ∧ PySem.W.kitOne K (.ref D) u = some b ∧ Q (.bl b) H
def rIsXT (K : PySem.W.Frag) : List V → Hp → VK → Prop := fun xs H Q => ∃ (a D tp : Addr) (d : Option Addr) (cs : List V) (us : List Value) (b : Bool), xs = [.ref a, .ref tp] ∧ H a = some (XO (.ref D) d a) ∧ XD H d ∧ ExcC K D ∧
  H tp = some (.tup cs) ∧ Paired ClsV cs us ∧ PySem.W.kitAny K (.ref D) us = some b ∧ Q (.bl b) H
theorem b_isX {X : Cx} : CallR X (.builtin "isinstance") (rIsX X.K) := by
  intro pins s σ H xs us Q I r h
  obtain ⟨a, D, d, c, u, b, rfl, ha, hd, C, k, e, q⟩ := h
  obtain ⟨u1, u2, rfl, r1, r2⟩ := vals2 r
  cases (show u1 = Value.ref a from r1)
  have e2 := k.eq r2
  subst e2
  obtain ⟨oe, od, J⟩ := xo_inst I ha hd
  obtain ⟨cd, hcd, _⟩ := PySem.W.any_some C.hd
  exact PySem.W.kia_one (PySem.W.kitx_exc (by rw [hcd]; rfl) C.hg C.hk C.hs C.ha C.hn C.ht C.hm) I.kIn J e (fun z => nomatch z) fun tk => ⟨.bl b, H, I.tok tk, rfl, q⟩
theorem b_isXT {X : Cx} : CallR X (.builtin "isinstance") (rIsXT X.K) := by
  intro pins s σ H xs us Q I r h
  obtain ⟨a, D, tp, d, cs, ws, b, rfl, ha, hd, C, hT, k, e, q⟩ := h
  obtain ⟨u1, u2, rfl, r1, r2⟩ := vals2 r
  cases (show u1 = Value.ref a from r1)
  cases (show u2 = Value.ref tp from r2)
  obtain ⟨oe, od, J⟩ := xo_inst I ha hd
  obtain ⟨cd, hcd, _⟩ := PySem.W.any_some C.hd
  obtain ⟨_, its, rv, o, h1, h2, n, h3⟩ := (show ObjOk X.prog X.w H s.heap tp (.tup cs) from I.hok tp _ hT)
  have e3 := ClsV.all k rv
  subst e3
  obtain ⟨oc, od2, dt, sl⟩ := o
  simp only at h2 h3
  subst h2 h3
  exact PySem.W.kia_tup (PySem.W.kitx_exc (by rw [hcd]; rfl) C.hg C.hk C.hs C.ha C.hn C.ht C.hm) I.kIn J h1 e (fun z => nomatch z) fun tk => ⟨.bl b, H, I.tok tk, rfl, q⟩

/-! ### try: body, except X as n: y = n, and the error goes on to be held by y -/
/-- an object of ours that was not there at the entry is told from now on -/
theorem Inv.told {X : Cx} {pins : List (Addr × Obj)} {σ : L2.St} {H : Hp} {s : Shared} {a : Addr} {o : HO} {ob : Obj} (J : Inv X pins σ H s) (n0 : X.s_0.heap.get? a = none) (na : H a = none) (nL : a ≠ X.env.locals) (ho : s.heap.get? a = some ob) (hf : ∃ vs, ob.data = .fields vs)
    (np : ∀ p ∈ X.pn ++ pins, p.1 ≠ a) (new : ObjOk X.prog X.w (upd H a o) s.heap a o) : Inv X pins σ (upd H a o) s := by
  have up : ∀ {b : Addr} {u : HO}, H b = some u → upd H a o b = some u := fun {b u} q => upd_old q na
  have st : ∀ {b : Addr} {q : Obj}, X.s_0.heap.get? b = some q → b ≠ a := fun {b q} z e => by rw [e, n0] at z; cases z
  refine ⟨J.ok, J.os, J.bare, ⟨J.base.keep, J.base.slot, fun b q z n x => ?_, J.base.there, fun b q z => up (J.base.tups b q z), fun b q u z => up (J.base.frzs b q u z), fun b q z => ?_⟩, J.loc, J.cell, ?_, fun x c e => ?_, fun p hp => ?_, fun b u e => ?_, J.len⟩
  · rw [upd_ne (st z)]; exact J.base.free b q z n x
  · obtain ⟨m, e⟩ := J.base.tbls b q z
    exact ⟨m, up e⟩
  · rw [upd_ne (Ne.symm nL)]; exact J.free
  · have hc : c ≠ a := fun z => by
      obtain ⟨v, q, e1, e2⟩ := J.cell x c e
      rw [z, ho] at e1
      obtain ⟨vs, e3⟩ := hf
      rw [← Option.some.inj e1, e3] at e2
      cases e2
    rw [upd_ne hc]; exact J.freeC x c e
  · obtain ⟨h1, h2, h3⟩ := J.pin p hp
    exact ⟨h1, by rw [upd_ne (np p hp)]; exact h2, h3⟩
  · by_cases hb : b = a
    · subst hb; rw [upd_same] at e; cases e; exact new
    · rw [upd_ne hb] at e
      exact (J.hok b u e).stay (fun _ _ _ z => z) (fun _ z => up z) fun _ _ z => up z
/-- what is wished of the body's error: the clause takes it, y holds it from then on -/
def wKeep (K : PySem.W.Frag) (c : Value) (i j : Nat) (D : Ends) : WX := fun cls d σ H => PySem.W.exmOne K cls c = some true ∧
  ∀ a, H a = none → D.nx (((σ.set i (some (.ref a))).set j (some (.ref a))).set i none) (upd H a (XO cls d a))
theorem ps_try_keep {X : Cx} {x n y : Str} {c : Value} {i j : Nat} {body : List Stmt} {np py pn2 spos pos pos' : Pos} {tb : WX → TS} (hs : X.stack = X.env :: X.outer) (hf : X.env.frame = some X.env.locals) (hex : X.ex = []) (hN : X.N.Nodup)
    (hi : X.N[i]? = some n) (hj : X.N[j]? = some y) (hln : X.env.scope.names.lookup n = some .local) (hly : X.env.scope.names.lookup y = some .local) (hdn : (n == ("__debug__" : Str)) = false) (hcn : (n == ("__classdict__" : Str)) = false) (hc : Names X x c)
    (hsw : swapsWith (.Name n pn2) (some (.Name y py)) spos.line X.env = pure false)
    (hb : ∀ (W : WX) (pn : List (Addr × Obj)) (xe : Value → Shared → Prop), Takes (X.tr pn xe) W → PassesOwn (model X.prog X.w) X.A X.env xe → PSs (X.tr pn xe) body (tb W)) :
    PS X (.Try body [.ExceptHandler (some (.Name x np)) (some n) [.Assign [.Name y py] (.Name n pn2) spos] pos'] [] [] pos) (fun D σ H => tb (wKeep X.K c i j D) D σ H) := by
  refine ⟨fun pins s σ H D I h => ?_⟩
  have ok := I.ok
  have fr : X.A.frames = some (X.env :: X.outer) := ok.frames.trans (congrArg some hs)
  have lcn : Loc X.env.scope n := .inl hln
  refine wpAny_Try_except (wpAny_mono ((hb (wKeep X.K c i j D) (X.pn ++ pins) (fun e q1 => wpAny (model X.prog X.w) X.A (noteFrame e X.env) (fun _ q2 => wpAny (model X.prog X.w) X.A (setFlight e none) (fun _ q3 =>
    wpAny (model X.prog X.w) X.A (handleBy e X.env [.ExceptHandler (some (.Name x np)) (some n) [.Assign [.Name y py] (.Name n pn2) spos] pos']) (SP X pins D) X.xe q3) X.xe q2) X.xe q1) ?taken PassesOwn.looking).run [] s σ H D (I.toTry _) h) ?plain fun _ _ z => z)
  case plain =>
    intro f s1 z
    cases f with
    | next => obtain ⟨σ', H', J', q⟩ := z; exact wpAny_execs_nil ⟨σ', H', J'.ofTry ok, q⟩
    | brk => obtain ⟨σ', H', J', q⟩ := z; exact ⟨σ', H', J'.ofTry ok, q⟩
    | cont => obtain ⟨σ', H', J', q⟩ := z; exact ⟨σ', H', J'.ofTry ok, q⟩
    | ret u => obtain ⟨v, σ', H', J', r, q⟩ := z; exact ⟨v, σ', H', J'.ofTry ok, r, q⟩
  case taken =>
    intro u s' air
    obtain ⟨a, B, sI, ps', σ', H', cls, d, eu, J0, nb, up, sky, na, os, ag, hm, hgo⟩ := air
    subst eu
    have J : Inv X pins σ' H' sI := J0.ofTry ok
    have sky2 : Sky B (X.env :: X.outer) a (Zc cls d) X.env.locals s'.heap := hs ▸ sky
    show wpAny (model X.prog X.w) X.A (noteFrame (.ref a) X.env) _ _ _
    refine Sky.land Zc.steady fr hf sky2 fun g3 fl3 up3 => ?_
    have J3 : Inv X pins σ' H' { s' with heap := g3 } := J.landed nb fl3.1 (up.trans up3) os ag
    obtain ⟨o3, v3, e3, z3, d3⟩ := fl3.there
    have notIn : a ∉ frs (X.env :: X.outer) := fun hm' => by
      obtain ⟨_, o', e', hnf⟩ := fl3.2.2.1.mem hm'
      rw [e3] at e'
      cases e'
      exact hnf _ d3
    have nL : a ≠ X.env.locals := fun z => notIn (List.mem_filterMap.mpr ⟨X.env, List.mem_cons_self, by rw [hf, z]⟩)
    have nF : a ∉ X.fs := fun hm' => by
      obtain ⟨e, he, q⟩ := List.mem_filterMap.mp hm'
      exact notIn (List.mem_filterMap.mpr ⟨e, List.mem_cons_of_mem _ he, q⟩)
    have nB : B.get? a = none := fl3.2.1
    have nI : sI.heap.get? a = none := by
      cases q : sI.heap.get? a with
      | none => rfl
      | some o =>
        have z := nb a o q (by rw [hs]; exact notIn)
        rw [nB] at z; cases z
    have n0 : X.s_0.heap.get? a = none := by
      cases q : X.s_0.heap.get? a with
      | none => rfl
      | some o =>
        obtain ⟨o', z⟩ := J.base.there a o q (by rw [hex]; simp)
        rw [nI] at z; cases z
    have S3 := J3.suite e3 d3 na nL nF
    refine wpAny_handleBy_cons (codeAny_handlers_test ?_) (by intro q; cases q)
    have LT : PySem.W.Looks (model X.prog X.w) g3 (typeOf (.ref a)) cls := fun A Q E t k q => wpAny_typeOf_ref (k _ _ e3) (by rw [z3.1]; exact q)
    have LM := PySem.W.exm_one (M := model X.prog X.w) J3.kIn LT hm
    have named : ∀ {Q : Value → Shared → Prop} {E : Value → Shared → Prop}, Q c { s' with heap := g3 } → wpAny (model X.prog X.w) (X.A.mark (some (.ref a))) (eval (.Name x np) X.env) Q E { s' with heap := g3 } := fun {Q E} q => by
      obtain ⟨hg, hdbg, w1 | ⟨w1, w2, w3⟩⟩ := hc
      · exact ld_glob (X := X.suite a ((a, o3) :: (X.pn ++ pins))) S3 hg w1 q hdbg
      · exact ld_blt (X := X.suite a ((a, o3) :: (X.pn ++ pins))) S3 hg w1 w2 q w3 hdbg
    refine named (LM.here (codeAny_handlers_suite_as ?_))
    refine HandSPX.lands_againZ fl3 fun g4 fl4 up4 => ?_
    have J4 : Inv X pins σ' H' { s' with heap := g4 } := J.landed nb fl4.1 ((up.trans up3).trans up4) os ag
    obtain ⟨o4, v4, e4, z4, d4⟩ := fl4.there
    have S4 := J4.suite e4 d4 na nL nF
    refine store_ok (X := X.suite a ((a, o4) :: (X.pn ++ pins))) (v := .ref a) S4 hN hi lcn rfl (fun s5 S5 => ?_) (.inr hln)
    have st : PSs (X.suite a ((a, o4) :: (X.pn ++ pins))) [.Assign [.Name y py] (.Name n pn2) spos] (tAsg (tVar i) (gName j)) :=
      pss_one (ps_set hN hj (.inl hly) (pe_var hi (.inl hln) hdn hcn) hsw (.inr hly))
    have hil : i < (σ'.set i (some (V.ref a))).length := by
      rw [List.length_set, J.len]
      exact (List.getElem?_eq_some_iff.mp hi).1
    refine wpAny_mono (st.run [] s5 _ H' ⟨fun σ6 H6 => σ6 = (σ'.set i (some (.ref a))).set j (some (.ref a)) ∧ H6 = H', fun _ _ => False, fun _ _ => False, fun _ _ => False⟩ S5 ⟨.ref a, by rw [List.getElem?_set_self (by rw [List.length_set] at hil; exact hil)], rfl, rfl⟩) (fun f s6 z => ?_) (fun _ _ z => False.elim z)
    cases f with
    | brk => obtain ⟨_, _, _, z⟩ := z; exact z.elim
    | cont => obtain ⟨_, _, _, z⟩ := z; exact z.elim
    | ret v => obtain ⟨_, _, _, _, _, z⟩ := z; exact z.elim
    | next =>
      obtain ⟨σ6, H6, S6, eσ, eH⟩ := z
      subst eσ eH
      have J6 := S6.unsuite ok
      have J6p : Inv X ((a, o4) :: pins) _ H6 s6 := J6.pins_of fun p hp => by
        rcases List.mem_cons.mp hp with e | hp
        · rw [e]
          have w := S6.pin (a, o4) (List.mem_append_left _ List.mem_cons_self)
          exact ⟨w.1, w.2.1, nL, nF, fun v q => by rw [d4] at q; cases q⟩
        · exact J6.pin p (List.mem_append_right _ hp)
      show wpAny (model X.prog X.w) X.A (do bindName X.env n .none; unbindBehindTheSuite X.env n pos') (fun _ s7 => _) X.xe s6
      refine gone_ok J6p hN hi hln fun s7 J7 => ?_
      obtain ⟨p1, p2, _⟩ := J7.pin (a, o4) (List.mem_append_right _ List.mem_cons_self)
      have J8 : Inv X pins _ H6 s7 := J7.pins_of fun p hp => J7.pin p (List.mem_append_right _ (List.mem_cons_of_mem _ hp))
      refine ⟨_, _, Inv.told J8 n0 p2 nL p1 ⟨v4, d4⟩ (fun p hp q => ?_) (xo_ok p1 z4 d4), hgo a na⟩
      have w := (J.pin p hp).1
      rw [q, nI] at w; cases w

/-! ### readings, step by step -/
section
variable {K : PySem.W.Frag} {σ : L2.St} {H : Hp} {Q : VK} {ta tb te tl : TE} {t u : TT} {x y v : V} {A B : Prop}
theorem k_var {i : Nat} (h : σ[i]? = some (some v)) (k : Q v H) : tVar i σ H Q := ⟨v, h, k⟩
theorem k_c (k : Q v H) : tC v σ H Q := k
theorem k_op {r : R2} (k : ta σ H fun x H1 => tb σ H1 fun y H2 => r x y H2 Q) : tOp r ta tb σ H Q := k
theorem k_un {r : V → Hp → VK → Prop} (k : ta σ H fun x H1 => r x H1 Q) : tUn r ta σ H Q := k
theorem k_neg {i : Int} (k : Q (.int (-i)) H) : rU (fun i => .int (-i)) (.int i) H Q := ⟨i, rfl, k⟩
theorem k_I0 {g : Int → Int → V} {i j : Int} (k : Q (g i j) H) : rI0 g (.int i) (.int j) H Q := ⟨i, j, rfl, rfl, k⟩
theorem k_I {C : Int → Int → Prop} {g : Int → Int → V} {i j : Int} (c : C i j) (k : Q (g i j) H) : rI C g (.int i) (.int j) H Q := ⟨i, j, rfl, rfl, c, k⟩
theorem k_eqI {i j : Int} (k : Q (.bl (decide (i = j))) H) : rEq (.int i) (.int j) H Q := ⟨rfl, by rw [dec_int, Bool.beq_eq_decide_eq]; exact k⟩
theorem k_neI {i j : Int} (k : Q (.bl (!decide (i = j))) H) : rNe (.int i) (.int j) H Q := ⟨rfl, by rw [dec_int, Bool.beq_eq_decide_eq]; exact k⟩
theorem k_eqS {a b : List Nat} (k : Q (.bl (decide (a = b))) H) : rEq (.str (mk a)) (.str (mk b)) H Q := ⟨rfl, by rw [mk_dec]; exact k⟩
theorem k_neS {a b : List Nat} (k : Q (.bl (!decide (a = b))) H) : rNe (.str (mk a)) (.str (mk b)) H Q := ⟨rfl, by rw [mk_dec]; exact k⟩
theorem k_neB {a b : Bool} (k : Q (.bl (a != b)) H) : rNe (.bl a) (.bl b) H Q := ⟨rfl, by rw [dec_bl]; exact k⟩
theorem k_test {P : Bool → Hp → Prop} (k : te σ H fun x H2 => ∃ b, x = .bl b ∧ P b H2) : tTest te σ H P := k
theorem k_tB {P : Bool → Hp → Prop} (k : te σ H fun x H' => ∃ b, x = .bl b ∧ P b H') : tB te σ H P := k
theorem k_bl {b : Bool} {P : Bool → Prop} (k : P b) : ∃ c, V.bl b = V.bl c ∧ P c := ⟨b, rfl, k⟩
theorem k_and {P : Bool → Hp → Prop} (k : t σ H fun c H1 => if c = true then u σ H1 P else P false H1) : tAnd t u σ H P := k
theorem k_or {P : Bool → Hp → Prop} (k : t σ H fun c H1 => if c = true then P true H1 else u σ H1 P) : tOr t u σ H P := k
theorem k_not {P : Bool → Hp → Prop} (k : t σ H fun c H1 => P (!c) H1) : tNot t σ H P := k
theorem k_andV (k : ta σ H fun x H1 => ∃ c, x = .bl c ∧ if c = true then tb σ H1 Q else Q (.bl false) H1) : tAndV ta tb σ H Q := k
theorem k_orV (k : ta σ H fun x H1 => ∃ c, x = .bl c ∧ if c = true then Q (.bl true) H1 else tb σ H1 Q) : tOrV ta tb σ H Q := k
theorem k_notV (k : ta σ H fun x H1 => ∃ c, x = .bl c ∧ Q (.bl (!c)) H1) : tNotV ta σ H Q := k
theorem k_chain {r r' : R2} {tc : TE} (k : ta σ H fun x H1 => tb σ H1 fun y H2 => r x y H2 fun z H3 => ∃ k, z = .bl k ∧ (if k = true then tc σ H3 fun w' H4 => r' y w' H4 Q else Q (.bl false) H3)) : tChain r r' ta tb tc σ H Q := k
theorem k_isN (k : ta σ H fun x H1 => Q (.bl (decide (x = .non))) H1) : tIsN ta σ H Q := k
theorem k_notN (k : ta σ H fun x H1 => Q (.bl (!decide (x = .non))) H1) : tNotN ta σ H Q := k
theorem k_itT (k : A) : if true = true then A else B := by rw [if_pos rfl]; exact k
theorem k_itF (k : B) : if false = true then A else B := by rw [if_neg Bool.false_ne_true]; exact k
theorem k_itNT (k : B) : if (!true) = true then A else B := k_itF k
theorem k_itNF (k : A) : if (!false) = true then A else B := k_itT k
theorem k_ite {b : Bool} (h1 : b = true → A) (h2 : b = false → B) : if b = true then A else B := by
  cases b with
  | true => exact k_itT (h1 rfl)
  | false => exact k_itF (h2 rfl)
theorem k_ited {p : Prop} [Decidable p] (h1 : p → A) (h2 : ¬ p → B) : if decide p = true then A else B := k_ite (fun h => h1 (of_decide_eq_true h)) fun h => h2 (of_decide_eq_false h)
theorem k_itend {p : Prop} [Decidable p] (h1 : ¬ p → A) (h2 : p → B) : if (!decide p) = true then A else B := k_ite (fun h => h1 (fun q => by rw [decide_eq_true q] at h; cases h)) fun h => h2 (by simpa using h)
theorem k_itn {b : Bool} (h1 : b = false → A) (h2 : b = true → B) : if (!b) = true then A else B := k_ite (fun h => h1 (by simpa using h)) fun h => h2 (by simpa using h)
/-! calls, displays -/
theorem k_nil {P : List V → Hp → Prop} (k : P [] H) : tNil σ H P := k
theorem k_cons {tr : TA} {P : List V → Hp → Prop} (k : ta σ H fun x H1 => tr σ H1 fun xs H2 => P (x :: xs) H2) : tCons ta tr σ H P := k
theorem k_tup {tr : TA} (k : tr σ H fun xs H1 => xs.length ≤ sizeLine ∧ ∀ p, H1 p = none → Q (.ref p) (upd H1 p (.tup xs))) : tTup tr σ H Q := k
theorem k_lst {tr : TA} (k : tr σ H fun xs H1 => xs.length ≤ sizeLine ∧ ∀ p, H1 p = none → Q (.ref p) (upd H1 p (.lst xs))) : tLst tr σ H Q := k
theorem k_few {xs : List V} (h : Nat.ble xs.length 1000 = true) (k : A) : xs.length ≤ sizeLine ∧ A := ⟨by have := Nat.le_of_ble_eq_true h; rw [sizeLine_eq]; omega, k⟩
theorem k_call {sp : Sp} {dvs : List V} {E : XK} {tr : TA} (k : tr σ H fun vs H1 => sp (vs ++ dvs) H1 Q E) : tCall sp dvs E tr σ H Q := k
theorem k_meth {C : Addr} {m : Str} {sp : Sp} {dvs : List V} {E : XK} {tr : TA} (k : ta σ H fun x H1 => ∃ a dx fs, x = .ref a ∧ H1 a = some (.ins C dx fs) ∧ fs.lookup m = none ∧ tr σ H1 fun vs H2 => sp (x :: (vs ++ dvs)) H2 Q E) : tMeth C m sp dvs E ta tr σ H Q := k
theorem k_CB {r : List V → Hp → VK → Prop} {tr : TA} (k : tr σ H fun vs H1 => r vs H1 Q) : tCB r tr σ H Q := k
theorem k_BM0 {T : String} {r : V → List V → Hp → VK → Prop} (k : ta σ H fun x H1 => tyV K T x H1 ∧ r x [] H1 Q) : tBM0 K T r ta σ H Q := k
theorem k_BM {T : String} {r : V → List V → Hp → VK → Prop} {tr : TA} (k : ta σ H fun x H1 => tyV K T x H1 ∧ tr σ H1 fun xs H2 => r x xs H2 Q) : tBM K T r ta tr σ H Q := k
theorem k_tyS {z : Str} (k : A) : tyV K "str" (.str z) H ∧ A := ⟨rfl, k⟩
theorem k_tyL {p : Addr} {xs : List V} (h : H p = some (.lst xs)) (k : A) : tyV K "list" (.ref p) H ∧ A := ⟨.inl ⟨rfl, xs, SqL.of h⟩, k⟩
/-! built-ins -/
theorem k_lenT {l : List Nat} (h : l.length ≤ 1000) (k : Q (.int (l.length : Nat)) H) : rLenT [.str (mk l)] H Q := ⟨_, rfl, by rw [mk_len, sizeLine_eq]; omega, by rw [mk_len]; exact k⟩
theorem k_lenL {p : Addr} {xs : List V} (h : H p = some (.lst xs)) (k : Q (.int (xs.length : Nat)) H) : rLenQ K [.ref p] H Q := ⟨_, _, rfl, .inl (SqL.of h), k⟩
theorem k_lenU {p : Addr} {xs : List V} (h : H p = some (.tup xs)) (k : Q (.int (xs.length : Nat)) H) : rLenQ K [.ref p] H Q := ⟨_, _, rfl, .inr (SqT.of h), k⟩
theorem k_intB {b : Bool} (k : Q (.int (if b then 1 else 0)) H) : rIntB [.bl b] H Q := ⟨_, rfl, k⟩
theorem k_tupL {p : Addr} {xs : List V} (h : H p = some (.lst xs)) (k : ∀ l, H l = none → Q (.ref l) (upd H l (.tup xs))) : rTupL K [.ref p] H Q := ⟨_, _, rfl, SqL.of h, k⟩
theorem k_lstT {p : Addr} {xs : List V} (h : H p = some (.tup xs)) (k : ∀ l, H l = none → Q (.ref l) (upd H l (.lst xs))) : rLstT K [.ref p] H Q := ⟨_, _, rfl, SqT.of h, k⟩
theorem k_all {p : Addr} {bs : List Bool} (h : H p = some (.lst (bs.map V.bl))) (k : Q (.bl (bs.all id)) H) : rAll K [.ref p] H Q := ⟨_, _, rfl, SqL.of h, k⟩
theorem k_isI {n : String} {T : Value} {b : Bool} (h : TyX K H x T) (e : PySem.W.kitOne K T (.type n) = some b) (k : Q (.bl b) H) : rIsi K [x, .ty n] H Q := ⟨_, _, _, _, b, rfl, .ty n, h, e, k⟩
theorem k_low {z : Str} (h : z.length ≤ 1000) (k : Q (.str (Txt.lower z)) H) : rLow (.str z) [] H Q := ⟨z, rfl, rfl, by omega, k⟩
theorem k_upp {z : Str} (h : z.length ≤ 1000) (k : Q (.str (Txt.upper z)) H) : rUpp (.str z) [] H Q := ⟨z, rfl, rfl, by omega, k⟩
theorem k_addS {a b : List Nat} (h : a.length + b.length ≤ 1000) (k : Q (.str (mk (a ++ b))) H) : rAddS (.str (mk a)) (.str (mk b)) H Q := ⟨_, _, rfl, rfl, by rw [mk_len, mk_len, sizeLine_eq]; omega, by rw [mk_app]; exact k⟩
theorem k_inC {c : Nat} {z : Str} (k : Q (.bl (decide (c ∈ z.cps.toList))) H) : rInC (.str (mk [c])) (.str z) H Q := ⟨c, z, rfl, rfl, k⟩
theorem k_ninC {c : Nat} {z : Str} (k : Q (.bl (!decide (c ∈ z.cps.toList))) H) : rNinC (.str (mk [c])) (.str z) H Q := ⟨c, z, rfl, rfl, k⟩
theorem k_ixT {p : Addr} {xs : List V} {j : Nat} (h : H p = some (.tup xs)) (e : xs[j]? = some v) (k : Q v H) : rIxT K (.ref p) (.int (j : Int)) H Q := ⟨p, xs, _, v, rfl, rfl, SqT.of h, atI_nat e, k⟩
theorem k_ixL {p : Addr} {xs : List V} {j : Nat} (h : H p = some (.lst xs)) (e : xs[j]? = some v) (k : Q v H) : rIxL K (.ref p) (.int (j : Int)) H Q := ⟨p, xs, _, v, rfl, rfl, SqL.of h, atI_nat e, k⟩
theorem k_ixS {l : List Nat} {j c : Nat} (h : l.length ≤ 1000) (e : l[j]? = some c) (k : Q (.str (mk [c])) H) : rIxS (.str (mk l)) (.int (j : Int)) H Q := ⟨mk l, _, c, rfl, rfl, by rw [mk_len, sizeLine_eq]; omega, atI_nat (xs := l) e, k⟩
theorem k_ixT0 {p : Addr} {xs : List V} (h : H p = some (.tup xs)) (e : xs[0]? = some v) (k : Q v H) : rIxT K (.ref p) (.int 0) H Q := k_ixT (j := 0) h e k
theorem k_ixT1 {p : Addr} {xs : List V} (h : H p = some (.tup xs)) (e : xs[1]? = some v) (k : Q v H) : rIxT K (.ref p) (.int 1) H Q := k_ixT (j := 1) h e k
theorem k_ixT2 {p : Addr} {xs : List V} (h : H p = some (.tup xs)) (e : xs[2]? = some v) (k : Q v H) : rIxT K (.ref p) (.int 2) H Q := k_ixT (j := 2) h e k
theorem k_ixT3 {p : Addr} {xs : List V} (h : H p = some (.tup xs)) (e : xs[3]? = some v) (k : Q v H) : rIxT K (.ref p) (.int 3) H Q := k_ixT (j := 3) h e k
theorem k_ixTn {p : Addr} {xs : List V} (h : H p = some (.tup xs)) (e : xs.getLast? = some v) (k : Q v H) : rIxT K (.ref p) (.int (-1)) H Q := by
  refine ⟨p, xs, _, v, rfl, rfl, SqT.of h, ?_, k⟩
  have hn : xs ≠ [] := fun z => by rw [z] at e; cases e
  have := List.dropLast_concat_getLast hn
  rw [List.getLast?_eq_some_getLast hn] at e
  rw [← this, Option.some.inj e]
  exact atI_last _ _
theorem k_fld {a C dx : Addr} {fs : List (Str × V)} {f : Str} (h : H a = some (.ins C dx fs)) (c : Cls K C) (n : NoAttr K C f) (e : fs.lookup f = some v) (k : Q v H) : ∃ a2 C dx fs w, V.ref a = .ref a2 ∧ H a2 = some (.ins C dx fs) ∧ Cls K C ∧ NoAttr K C f ∧ fs.lookup f = some w ∧ Q w H :=
  ⟨a, C, dx, fs, v, rfl, h, c, n, e, k⟩
theorem k_tFld {f : Str} (k : ta σ H fun x H1 => ∃ a C dx fs v, x = .ref a ∧ H1 a = some (.ins C dx fs) ∧ Cls K C ∧ NoAttr K C f ∧ fs.lookup f = some v ∧ Q v H1) : tFld K ta f σ H Q := k
/-! statements -/
section
variable {nx bk ct : L2.St → Hp → Prop} {rt : VK} {D : Ends} {ts tw : TS} {g : TG}
theorem k_seq (k : ts ⟨tw D, D.rt, D.bk, D.ct⟩ σ H) : tSeq ts tw D σ H := k
theorem k_asg (k : te σ H fun x H1 => g x σ H1 nx) : tAsg te g ⟨nx, rt, bk, ct⟩ σ H := k
theorem k_ifs (k : t σ H fun b H1 => if b = true then ts D σ H1 else tw D σ H1) : tIfS t ts tw D σ H := k
theorem k_ret (k : te σ H rt) : tRet te ⟨nx, rt, bk, ct⟩ σ H := k
theorem k_drop (k : te σ H fun _ H1 => nx σ H1) : tDrop te ⟨nx, rt, bk, ct⟩ σ H := k
theorem k_next (k : nx σ H) : tNext ⟨nx, rt, bk, ct⟩ σ H := k
theorem k_gn {i : Nat} {P : L2.St → Hp → Prop} (k : P (σ.set i (some v)) H) : gName i v σ H P := k
theorem k_gt {n : Nat} {gs : TGs} {P : L2.St → Hp → Prop} {p : Addr} {xs : List V} (h : H p = some (.tup xs)) (e : xs.length = n) (k : gs xs σ H P) : gTup K n gs (.ref p) σ H P := ⟨p, xs, rfl, SqT.of h, e, k⟩
theorem k_gnil {P : L2.St → Hp → Prop} (k : P σ H) : gNil [] σ H P := ⟨rfl, k⟩
theorem k_gcons {g : TG} {gs : TGs} {r : List V} {P : L2.St → Hp → Prop} (k : g v σ H fun σ' H' => gs r σ' H' P) : gCons g gs (v :: r) σ H P := ⟨v, r, rfl, k⟩
theorem k_aug {i : Nat} {ti : TIp} (h : σ[i]? = some (some x)) (k : te σ H fun y H1 => ti x y H1 fun z H2 => nx (σ.set i (some z)) H2) : tAug i te ti ⟨nx, rt, bk, ct⟩ σ H := ⟨x, h, k⟩
theorem k_ipI {f : Int → Int → Int} {i j : Int} (k : Q (.int (f i j)) H) : ipI f (.int i) (.int j) H Q := ⟨i, j, rfl, rfl, k⟩
theorem k_app {p : Addr} {xs : List V} (h : H p = some (.lst xs)) (e : xs.length ≤ 1000) (k : Q .non (upd H p (.lst (xs ++ [v])))) : rAppend (.ref p) [v] H Q := ⟨p, xs, v, rfl, rfl, h, by rw [sizeLine_eq]; omega, k⟩
/-! loops, comprehensions: what is asked of the thing walked -/
def forK (g : TG) (tb : TS) (D : Ends) (σ : L2.St) : It → Hp → Prop := fun J H1 => ∃ W : Nat → Nat → L2.St → Hp → Prop, (∃ m, W 0 m σ H1) ∧ ∀ i m σ H, W i m σ H →
  (J.stop i H ∧ D.nx σ H) ∨ (J.go i H ∧ ∃ N : L2.St → Hp → Prop, (∀ σ' H', N σ' H' → ∃ m', m' < m ∧ W (i + 1) m' σ' H') ∧ ∀ x H', J.yld i H x H' → g x σ H' fun σ2 H2 => tb { D with nx := N, ct := N, bk := D.nx } σ2 H2)
theorem k_for {wi : TI} (k : wi σ H (forK g ts D σ)) : tFor wi g ts D σ H := k
def lcK (g : TG) (tt : TT) (te : TE) (vs : List Nat) (σ : L2.St) (Q : VK) : It → Hp → Prop := fun J H1 => ∀ D, H1 D = none → ∃ W : Nat → Nat → Hp → Prop, (∃ m, W 0 m (upd H1 D (.lst []))) ∧ ∀ i m H, W i m H →
  (J.stop i H ∧ Q (.ref D) H) ∨ (J.go i H ∧ ∃ Nx : Hp → Prop, (∀ H', Nx H' → ∃ m', m' < m ∧ W (i + 1) m' H') ∧ ∀ x H', J.yld i H x H' → g x (wipe σ vs) H' fun σ2 H2 => wipe σ2 vs = wipe σ vs ∧ tt σ2 H2 fun b H3 =>
    if b = true then te σ2 H3 fun y H4 => ∃ acc, H4 D = some (.lst acc) ∧ acc.length < sizeLine ∧ Nx (upd H4 D (.lst (acc ++ [y]))) else Nx H3)
theorem k_lc {wi : TI} {vs : List Nat} (k : wi σ H (lcK g t te vs σ Q)) : tLc wi g t te vs σ H Q := k
section
variable {R : It → Hp → Prop}
theorem k_iL (k : tl σ H fun x H1 => ∃ a, x = .ref a ∧ (∃ xs, SqL K H1 a xs) ∧ R (Itl K a) H1) : iList K tl σ H R := k
theorem k_iT (k : tl σ H fun x H1 => ∃ a, x = .ref a ∧ (∃ xs, SqT K H1 a xs) ∧ R (Itt K a) H1) : iTup K tl σ H R := k
theorem k_iS (k : tl σ H fun x H1 => ∃ z, x = .str z ∧ R (Its z) H1) : iStr tl σ H R := k
theorem k_iR1 {tr : TA} (k : tr σ H fun vs H1 => ∃ j : Int, vs = [.int j] ∧ -(2 ^ 62) ≤ j ∧ j < 2 ^ 62 ∧ R (Itr 0 j.toNat) H1) : iRng1 tr σ H R := k
theorem k_iR2 {tr : TA} (k : tr σ H fun vs H1 => ∃ i j : Int, vs = [.int i, .int j] ∧ (-(2 ^ 62) ≤ i ∧ i < 2 ^ 62 ∧ -(2 ^ 62) ≤ j ∧ j < 2 ^ 62) ∧ R (Itr i (j - i).toNat) H1) : iRng2 tr σ H R := k
theorem e_L {p : Addr} {xs : List V} (h : H p = some (.lst xs)) (k : R (Itl K p) H) : ∃ a, V.ref p = .ref a ∧ (∃ xs, SqL K H a xs) ∧ R (Itl K a) H := ⟨p, rfl, ⟨xs, SqL.of h⟩, k⟩
theorem e_T {p : Addr} {xs : List V} (h : H p = some (.tup xs)) (k : R (Itt K p) H) : ∃ a, V.ref p = .ref a ∧ (∃ xs, SqT K H a xs) ∧ R (Itt K a) H := ⟨p, rfl, ⟨xs, SqT.of h⟩, k⟩
theorem e_S {z : Str} (k : R (Its z) H) : ∃ y, V.str z = .str y ∧ R (Its y) H := ⟨z, rfl, k⟩
theorem e_R1 {j : Int} (h : 0 ≤ j ∧ j ≤ 100000) (k : R (Itr 0 j.toNat) H) : ∃ i : Int, [V.int j] = [.int i] ∧ -(2 ^ 62) ≤ i ∧ i < 2 ^ 62 ∧ R (Itr 0 i.toNat) H := ⟨j, rfl, by omega, by omega, k⟩
theorem e_R2 {i j : Int} (h : -100000 ≤ i ∧ i ≤ 100000 ∧ -100000 ≤ j ∧ j ≤ 100000) (k : R (Itr i (j - i).toNat) H) : ∃ a b : Int, [V.int i, V.int j] = [.int a, .int b] ∧ (-(2 ^ 62) ≤ a ∧ a < 2 ^ 62 ∧ -(2 ^ 62) ≤ b ∧ b < 2 ^ 62) ∧ R (Itr a (b - a).toNat) H := ⟨i, j, rfl, ⟨by omega, by omega, by omega, by omega⟩, k⟩
end
theorem f_L {a : Addr} {xs : List V} (Pv : Nat → L2.St → Hp → Prop) (h0 : Pv 0 σ H) (hl : ∀ i σ H, i ≤ xs.length → Pv i σ H → SqL K H a xs)
    (hs : ∀ i x σ H, xs[i]? = some x → Pv i σ H → g x σ H fun σ2 H2 => ts ⟨Pv (i + 1), D.rt, D.nx, Pv (i + 1)⟩ σ2 H2) (hd : ∀ σ H, Pv xs.length σ H → D.nx σ H) : forK g ts D σ (Itl K a) H := for_list Pv h0 hl hs hd
theorem f_T {a : Addr} {xs : List V} (Pv : Nat → L2.St → Hp → Prop) (h0 : Pv 0 σ H) (hl : ∀ i σ H, i ≤ xs.length → Pv i σ H → SqT K H a xs)
    (hs : ∀ i x σ H, xs[i]? = some x → Pv i σ H → g x σ H fun σ2 H2 => ts ⟨Pv (i + 1), D.rt, D.nx, Pv (i + 1)⟩ σ2 H2) (hd : ∀ σ H, Pv xs.length σ H → D.nx σ H) : forK g ts D σ (Itt K a) H := for_tup Pv h0 hl hs hd
theorem f_R {lo : Int} {n : Nat} (Pv : Nat → L2.St → Hp → Prop) (h0 : Pv 0 σ H) (hs : ∀ i σ H, i < n → Pv i σ H → g (.int (lo + (i : Nat))) σ H fun σ2 H2 => ts ⟨Pv (i + 1), D.rt, D.nx, Pv (i + 1)⟩ σ2 H2)
    (hd : ∀ σ H, Pv n σ H → D.nx σ H) : forK g ts D σ (Itr lo n) H := for_range Pv h0 hs hd
theorem f_S {z : Str} (Pv : Nat → L2.St → Hp → Prop) (h0 : Pv 0 σ H) (hs : ∀ i c σ H, z.cps.toList[i]? = some c → Pv i σ H → g (.str (mk [c])) σ H fun σ2 H2 => ts ⟨Pv (i + 1), D.rt, D.nx, Pv (i + 1)⟩ σ2 H2)
    (hd : ∀ σ H, Pv z.cps.toList.length σ H → D.nx σ H) : forK g ts D σ (Its z) H := by
  refine ⟨fun i m σ H => m = z.cps.size - i ∧ i ≤ z.cps.size ∧ Pv i σ H, ⟨z.cps.size, by simp, Nat.zero_le _, h0⟩, ?_⟩
  rintro i m σ H ⟨rfl, hi, p⟩
  by_cases hlt : i < z.cps.size
  · refine .inr ⟨hlt, Pv (i + 1), fun σ' H' p' => ⟨z.cps.size - (i + 1), by omega, rfl, hlt, p'⟩, fun x H' y => ?_⟩
    obtain ⟨e, c, e1, e2⟩ := y
    subst e e2
    exact hs i c σ _ (by simpa using e1) p
  · have e : i = z.cps.toList.length := by rw [Array.length_toList]; omega
    subst e
    exact .inl ⟨by show _ ≤ _; rw [Array.length_toList]; exact Nat.le_refl _, hd σ H p⟩
/-- while: W by a number that falls -/
theorem k_while {tb : TS} (W : Nat → L2.St → Hp → Prop) (m0 : Nat) (h0 : W m0 σ H)
    (hs : ∀ m σ H (T F : Hp → Prop), (∀ H1, tb ⟨fun σ' H' => ∃ m', m' < m ∧ W m' σ' H', D.rt, D.nx, fun σ' H' => ∃ m', m' < m ∧ W m' σ' H'⟩ σ H1 → T H1) → (∀ H1, D.nx σ H1 → F H1) → W m σ H → t σ H fun b H1 => if b = true then T H1 else F H1) : tWhile t tb D σ H := by
  refine ⟨W, ⟨m0, h0⟩, fun m σ H w => ?_⟩
  exact hs m σ H _ _ (fun H1 h => ⟨_, fun σ' H' z => z, h⟩) (fun H1 h => h) w
end
end

/-! ### comprehensions that make lists of data -/
/-- ahead of turn i: the new list at D holds f i; all that stood at H1 stands -/
def Cv (H1 : Hp) (D : Addr) (f : Nat → List PyData) (i : Nat) (H : Hp) : Prop := H1 D = none ∧ Same H1 H ∧ ∃ ys, H D = some (.lst ys) ∧ AtAll H (f i) ys ∧ ys.length ≤ i
theorem Cv.start {H1 : Hp} {D : Addr} {f : Nat → List PyData} (h : H1 D = none) (h0 : f 0 = []) : Cv H1 D f 0 (upd H1 D (.lst [])) := ⟨h, Same.new h, [], upd_same, by rw [h0]; exact aa_nil, Nat.le_refl _⟩
section
variable {H1 H : Hp} {D : Addr} {f : Nat → List PyData} {i : Nat} {σ σ2 : L2.St} {vs : List Nat} {g : TG} {tt : TT} {te : TE} {x : V}
/-- what a turn is to show -/
def CTurn (g : TG) (tt : TT) (te : TE) (vs : List Nat) (σ : L2.St) (f : Nat → List PyData) (i : Nat) (x : V) (H : Hp) : Prop :=
  ∀ (P : V → Hp → Prop) (R : Hp → Prop), (∀ y H4 d, Same H H4 → f (i + 1) = f i ++ [d] → At H4 d y → P y H4) → (∀ H3, Same H H3 → f (i + 1) = f i → R H3) →
    g x (wipe σ vs) H fun σ2 H2 => wipe σ2 vs = wipe σ vs ∧ tt σ2 H2 fun b H3 => if b = true then te σ2 H3 P else R H3
theorem CTurn.go (p : Cv H1 D f i H) (hi : i ≤ 100000) (h : CTurn g tt te vs σ f i x H) :
    g x (wipe σ vs) H fun σ2 H2 => wipe σ2 vs = wipe σ vs ∧ tt σ2 H2 fun b H3 => if b = true then te σ2 H3 fun y H4 => ∃ acc, H4 D = some (.lst acc) ∧ acc.length < sizeLine ∧ Cv H1 D f (i + 1) (upd H4 D (.lst (acc ++ [y]))) else Cv H1 D f (i + 1) H3 := by
  obtain ⟨p1, p2, ys, p3, p4, p5⟩ := p
  refine h _ _ (fun y H4 d e1 e2 e3 => ?_) (fun H3 e1 e2 => ?_)
  · have hD := e1 D _ p3
    refine ⟨ys, hD, by rw [sizeLine_eq]; omega, p1, Same.wr (p2.trans e1) p1, _, upd_same, ?_, by simp; omega⟩
    rw [e2]
    exact (AtAll.mono (Tk.wr hD nofun) _ _ ((AtAll.mono (Tk.same e1) _ _ p4).snoc e3))
  · exact ⟨p1, p2.trans e1, ys, e1 D _ p3, by rw [e2]; exact AtAll.mono (Tk.same e1) _ _ p4, by omega⟩
variable {K : PySem.W.Frag} {Q : VK}
theorem c_L {a : Addr} {xs : List V} (f : Nat → List PyData) (hx : H1 a = some (.lst xs)) (hl : xs.length ≤ 10000) (h0 : f 0 = []) (hs : ∀ i x H, xs[i]? = some x → Same H1 H → CTurn g tt te vs σ f i x H)
    (hd : ∀ D H ys, H1 D = none → Same H1 H → H D = some (.lst ys) → AtAll H (f xs.length) ys → Q (.ref D) H) : lcK g tt te vs σ Q (Itl K a) H1 := fun D hD =>
  lc_list (xs := xs) (Cv H1 D f) (Cv.start hD h0) (fun i H _ p => SqL.of (p.2.1 _ _ hx)) (fun i x H hi p => CTurn.go p (by have := (List.getElem?_eq_some_iff.mp hi).1; omega) (hs i x H hi p.2.1)) fun H p => by
    obtain ⟨p1, p2, ys, p3, p4, _⟩ := p
    exact hd D H ys p1 p2 p3 p4
theorem c_T {a : Addr} {xs : List V} (f : Nat → List PyData) (hx : H1 a = some (.tup xs)) (hl : xs.length ≤ 10000) (h0 : f 0 = []) (hs : ∀ i x H, xs[i]? = some x → Same H1 H → CTurn g tt te vs σ f i x H)
    (hd : ∀ D H ys, H1 D = none → Same H1 H → H D = some (.lst ys) → AtAll H (f xs.length) ys → Q (.ref D) H) : lcK g tt te vs σ Q (Itt K a) H1 := fun D hD =>
  lc_tup (xs := xs) (Cv H1 D f) (Cv.start hD h0) (fun i H _ p => SqT.of (p.2.1 _ _ hx)) (fun i x H hi p => CTurn.go p (by have := (List.getElem?_eq_some_iff.mp hi).1; omega) (hs i x H hi p.2.1)) fun H p => by
    obtain ⟨p1, p2, ys, p3, p4, _⟩ := p
    exact hd D H ys p1 p2 p3 p4
theorem c_R {lo : Int} {n : Nat} (f : Nat → List PyData) (hl : n ≤ 10000) (h0 : f 0 = []) (hs : ∀ i H, i < n → Same H1 H → CTurn g tt te vs σ f i (.int (lo + (i : Nat))) H)
    (hd : ∀ D H ys, H1 D = none → Same H1 H → H D = some (.lst ys) → AtAll H (f n) ys → Q (.ref D) H) : lcK g tt te vs σ Q (Itr lo n) H1 := fun D hD =>
  lc_range (Cv H1 D f) (Cv.start hD h0) (fun i H hi p => CTurn.go p (by omega) (hs i H hi p.2.1)) fun H p => by
    obtain ⟨p1, p2, ys, p3, p4, _⟩ := p
    exact hd D H ys p1 p2 p3 p4
theorem lc_str {z : Str} {D : Addr} {Qd : Hp → Prop} (Pv : Nat → Hp → Prop) (h0 : Pv 0 (upd H1 D (.lst [])))
    (hs : ∀ i c H, z.cps.toList[i]? = some c → Pv i H → g (.str (mk [c])) (wipe σ vs) H fun σ2 H2 => wipe σ2 vs = wipe σ vs ∧ tt σ2 H2 fun b H3 =>
      if b = true then te σ2 H3 fun y H4 => ∃ acc, H4 D = some (.lst acc) ∧ acc.length < sizeLine ∧ Pv (i + 1) (upd H4 D (.lst (acc ++ [y]))) else Pv (i + 1) H3) (hd : ∀ H, Pv z.cps.toList.length H → Qd H) :
    ∃ W : Nat → Nat → Hp → Prop, (∃ m, W 0 m (upd H1 D (.lst []))) ∧ ∀ i m H, W i m H →
      ((Its z).stop i H ∧ Qd H) ∨ ((Its z).go i H ∧ ∃ Nx : Hp → Prop, (∀ H', Nx H' → ∃ m', m' < m ∧ W (i + 1) m' H') ∧ ∀ x H', (Its z).yld i H x H' → g x (wipe σ vs) H' fun σ2 H2 => wipe σ2 vs = wipe σ vs ∧ tt σ2 H2 fun b H3 =>
        if b = true then te σ2 H3 fun y H4 => ∃ acc, H4 D = some (.lst acc) ∧ acc.length < sizeLine ∧ Nx (upd H4 D (.lst (acc ++ [y]))) else Nx H3) := by
  refine ⟨fun i m H => m = z.cps.size - i ∧ i ≤ z.cps.size ∧ Pv i H, ⟨z.cps.size, by simp, Nat.zero_le _, h0⟩, ?_⟩
  rintro i m H ⟨rfl, hi, p⟩
  by_cases hlt : i < z.cps.size
  · refine .inr ⟨hlt, Pv (i + 1), fun H' p' => ⟨z.cps.size - (i + 1), by omega, rfl, hlt, p'⟩, fun x H' y => ?_⟩
    obtain ⟨e, c, e1, e2⟩ := y
    subst e e2
    exact hs i c _ (by simpa using e1) p
  · have e : i = z.cps.toList.length := by rw [Array.length_toList]; omega
    subst e
    exact .inl ⟨by show _ ≤ _; rw [Array.length_toList]; exact Nat.le_refl _, hd H p⟩
theorem c_S {l : List Nat} (f : Nat → List PyData) (hl : l.length ≤ 10000) (h0 : f 0 = []) (hs : ∀ i c H, l[i]? = some c → Same H1 H → CTurn g tt te vs σ f i (.str (mk [c])) H)
    (hd : ∀ D H ys, H1 D = none → Same H1 H → H D = some (.lst ys) → AtAll H (f l.length) ys → Q (.ref D) H) : lcK g tt te vs σ Q (Its (mk l)) H1 := fun D hD =>
  lc_str (z := mk l) (Cv H1 D f) (Cv.start hD h0) (fun i c H hi p => CTurn.go p (by have := (List.getElem?_eq_some_iff.mp hi).1; simp at this; omega) (hs i c H hi p.2.1)) fun H p => by
    obtain ⟨p1, p2, ys, p3, p4, _⟩ := p
    exact hd D H ys p1 p2 p3 p4
end
/-- the data made of the first i items -/
def mp {α : Type} (l : List α) (F : α → PyData) (i : Nat) : List PyData := (l.take i).map F
theorem mp_zero {α : Type} (l : List α) (F : α → PyData) : mp l F 0 = [] := rfl
theorem mp_succ {α : Type} {l : List α} {F : α → PyData} {i : Nat} {x : α} (h : l[i]? = some x) : mp l F (i + 1) = mp l F i ++ [F x] := by
  unfold mp
  rw [List.take_add_one, h, List.map_append]
  rfl
theorem mp_all {α : Type} (l : List α) (F : α → PyData) {n : Nat} (h : l.length ≤ n) : mp l F n = l.map F := by
  unfold mp
  rw [List.take_of_length_le h]
def lowL : List Nat := [97, 98, 99, 100, 101, 102, 103, 104, 105, 106, 107, 108, 109, 110, 111, 112, 113, 114, 115, 116, 117, 118, 119, 120, 121, 122]
def greL : List Nat := [65, 66, 67, 68, 69, 70, 71, 72, 73, 74, 75, 76, 77, 78, 79, 80, 81, 82, 83, 84, 85, 86, 87, 88, 89, 90]
def markL : List Nat := [46, 50, 51, 52, 98, 99, 100]
/-- what the head tells of the written part and of the module's names -/
structure Tx (K : PySem.W.Frag) (mg : Str → Option Value) : Prop where
  x : ∃ h : Heap, K.In h ∧ h.Ns mainGlobals mg
  d : He.SaysD faL fnL K
  e : exB K = true
section
variable {K : PySem.W.Frag} {mg : Str → Option Value} (T : Tx K mg)
include T
theorem Tx.c_is_sign : mg "is_sign" = some (.ref (He.ga K "is_sign")) := by
  obtain ⟨h, X, G⟩ := T.x
  exact He.glo_ok X G (T.d.fact 0 rfl)
theorem Tx.c_letter_of : mg "letter_of" = some (.ref (He.ga K "letter_of")) := by
  obtain ⟨h, X, G⟩ := T.x
  exact He.glo_ok X G (T.d.fact 1 rfl)
theorem Tx.c_tile_of : mg "tile_of" = some (.ref (He.ga K "tile_of")) := by
  obtain ⟨h, X, G⟩ := T.x
  exact He.glo_ok X G (T.d.fact 2 rfl)
theorem Tx.c_without : mg "without" = some (.ref (He.ga K "without")) := by
  obtain ⟨h, X, G⟩ := T.x
  exact He.glo_ok X G (T.d.fact 3 rfl)
theorem Tx.c_left_of : mg "left_of" = some (.ref (He.ga K "left_of")) := by
  obtain ⟨h, X, G⟩ := T.x
  exact He.glo_ok X G (T.d.fact 4 rfl)
theorem Tx.c_is_place : mg "is_place" = some (.ref (He.ga K "is_place")) := by
  obtain ⟨h, X, G⟩ := T.x
  exact He.glo_ok X G (T.d.fact 5 rfl)
theorem Tx.c_is_triple : mg "is_triple" = some (.ref (He.ga K "is_triple")) := by
  obtain ⟨h, X, G⟩ := T.x
  exact He.glo_ok X G (T.d.fact 6 rfl)
theorem Tx.c_is_laying : mg "is_laying" = some (.ref (He.ga K "is_laying")) := by
  obtain ⟨h, X, G⟩ := T.x
  exact He.glo_ok X G (T.d.fact 7 rfl)
theorem Tx.c_cells_of : mg "cells_of" = some (.ref (He.ga K "cells_of")) := by
  obtain ⟨h, X, G⟩ := T.x
  exact He.glo_ok X G (T.d.fact 8 rfl)
theorem Tx.c_way_of : mg "way_of" = some (.ref (He.ga K "way_of")) := by
  obtain ⟨h, X, G⟩ := T.x
  exact He.glo_ok X G (T.d.fact 9 rfl)
theorem Tx.c_formed : mg "formed" = some (.ref (He.ga K "formed")) := by
  obtain ⟨h, X, G⟩ := T.x
  exact He.glo_ok X G (T.d.fact 10 rfl)
theorem Tx.c_between : mg "between" = some (.ref (He.ga K "between")) := by
  obtain ⟨h, X, G⟩ := T.x
  exact He.glo_ok X G (T.d.fact 11 rfl)
theorem Tx.c_is_joined : mg "is_joined" = some (.ref (He.ga K "is_joined")) := by
  obtain ⟨h, X, G⟩ := T.x
  exact He.glo_ok X G (T.d.fact 12 rfl)
theorem Tx.c_check_cells : mg "check_cells" = some (.ref (He.ga K "check_cells")) := by
  obtain ⟨h, X, G⟩ := T.x
  exact He.glo_ok X G (T.d.fact 13 rfl)
theorem Tx.c_check_laying : mg "check_laying" = some (.ref (He.ga K "check_laying")) := by
  obtain ⟨h, X, G⟩ := T.x
  exact He.glo_ok X G (T.d.fact 14 rfl)
theorem Tx.c_is_whole : mg "is_whole" = some (.ref (He.ga K "is_whole")) := by
  obtain ⟨h, X, G⟩ := T.x
  exact He.glo_ok X G (T.d.fact 15 rfl)
theorem Tx.c_are_rows : mg "are_rows" = some (.ref (He.ga K "are_rows")) := by
  obtain ⟨h, X, G⟩ := T.x
  exact He.glo_ok X G (T.d.fact 16 rfl)
theorem Tx.c_is_cell : mg "is_cell" = some (.ref (He.ga K "is_cell")) := by
  obtain ⟨h, X, G⟩ := T.x
  exact He.glo_ok X G (T.d.fact 17 rfl)
theorem Tx.c_turned_rows : mg "turned_rows" = some (.ref (He.ga K "turned_rows")) := by
  obtain ⟨h, X, G⟩ := T.x
  exact He.glo_ok X G (T.d.fact 18 rfl)
theorem Tx.c_check_word : mg "check_word" = some (.ref (He.ga K "check_word")) := by
  obtain ⟨h, X, G⟩ := T.x
  exact He.glo_ok X G (T.d.fact 19 rfl)
theorem Tx.c_law_cell_at : mg "_law_cell_at" = some (.ref (He.ga K "_law_cell_at")) := by
  obtain ⟨h, X, G⟩ := T.x
  exact He.glo_ok X G (T.d.fact 20 rfl)
theorem Tx.c_law_take : mg "_law_take" = some (.ref (He.ga K "_law_take")) := by
  obtain ⟨h, X, G⟩ := T.x
  exact He.glo_ok X G (T.d.fact 21 rfl)
theorem Tx.c_law_rest : mg "_law_rest" = some (.ref (He.ga K "_law_rest")) := by
  obtain ⟨h, X, G⟩ := T.x
  exact He.glo_ok X G (T.d.fact 22 rfl)
theorem Tx.c_law_letters : mg "_law_letters" = some (.ref (He.ga K "_law_letters")) := by
  obtain ⟨h, X, G⟩ := T.x
  exact He.glo_ok X G (T.d.fact 23 rfl)
theorem Tx.c_law_sign : mg "_law_sign" = some (.ref (He.ga K "_law_sign")) := by
  obtain ⟨h, X, G⟩ := T.x
  exact He.glo_ok X G (T.d.fact 24 rfl)
theorem Tx.c_law_rows : mg "_law_rows" = some (.ref (He.ga K "_law_rows")) := by
  obtain ⟨h, X, G⟩ := T.x
  exact He.glo_ok X G (T.d.fact 25 rfl)
theorem Tx.c_law_marks : mg "_law_marks" = some (.ref (He.ga K "_law_marks")) := by
  obtain ⟨h, X, G⟩ := T.x
  exact He.glo_ok X G (T.d.fact 26 rfl)
theorem Tx.c_law_begin : mg "_law_begin" = some (.ref (He.ga K "_law_begin")) := by
  obtain ⟨h, X, G⟩ := T.x
  exact He.glo_ok X G (T.d.fact 27 rfl)
theorem Tx.c_law_grid : mg "_law_grid" = some (.ref (He.ga K "_law_grid")) := by
  obtain ⟨h, X, G⟩ := T.x
  exact He.glo_ok X G (T.d.fact 28 rfl)
theorem Tx.c_law_run : mg "_law_run" = some (.ref (He.ga K "_law_run")) := by
  obtain ⟨h, X, G⟩ := T.x
  exact He.glo_ok X G (T.d.fact 29 rfl)
theorem Tx.c_law_words : mg "_law_words" = some (.ref (He.ga K "_law_words")) := by
  obtain ⟨h, X, G⟩ := T.x
  exact He.glo_ok X G (T.d.fact 30 rfl)
theorem Tx.c_law_is_near : mg "_law_is_near" = some (.ref (He.ga K "_law_is_near")) := by
  obtain ⟨h, X, G⟩ := T.x
  exact He.glo_ok X G (T.d.fact 31 rfl)
theorem Tx.c_law_starts : mg "_law_starts" = some (.ref (He.ga K "_law_starts")) := by
  obtain ⟨h, X, G⟩ := T.x
  exact He.glo_ok X G (T.d.fact 32 rfl)
theorem Tx.c_law_straight : mg "_law_straight" = some (.ref (He.ga K "_law_straight")) := by
  obtain ⟨h, X, G⟩ := T.x
  exact He.glo_ok X G (T.d.fact 33 rfl)
theorem Tx.c_law_joined : mg "_law_joined" = some (.ref (He.ga K "_law_joined")) := by
  obtain ⟨h, X, G⟩ := T.x
  exact He.glo_ok X G (T.d.fact 34 rfl)
theorem Tx.c_law_cells_due : mg "_law_cells_due" = some (.ref (He.ga K "_law_cells_due")) := by
  obtain ⟨h, X, G⟩ := T.x
  exact He.glo_ok X G (T.d.fact 35 rfl)
theorem Tx.c_law_class : mg "_law_class" = some (.ref (He.ga K "_law_class")) := by
  obtain ⟨h, X, G⟩ := T.x
  exact He.glo_ok X G (T.d.fact 36 rfl)
theorem Tx.c_law_caught : mg "_law_caught" = some (.ref (He.ga K "_law_caught")) := by
  obtain ⟨h, X, G⟩ := T.x
  exact He.glo_ok X G (T.d.fact 37 rfl)
theorem Tx.c_law_bent : mg "_law_bent" = some (.ref (He.ga K "_law_bent")) := by
  obtain ⟨h, X, G⟩ := T.x
  exact He.glo_ok X G (T.d.fact 38 rfl)
theorem Tx.c_law_rack : mg "_law_rack" = some (.ref (He.ga K "_law_rack")) := by
  obtain ⟨h, X, G⟩ := T.x
  exact He.glo_ok X G (T.d.fact 39 rfl)
theorem Tx.c_law_known : mg "_law_known" = some (.ref (He.ga K "_law_known")) := by
  obtain ⟨h, X, G⟩ := T.x
  exact He.glo_ok X G (T.d.fact 40 rfl)
theorem Tx.c_law_turned : mg "_law_turned" = some (.ref (He.ga K "_law_turned")) := by
  obtain ⟨h, X, G⟩ := T.x
  exact He.glo_ok X G (T.d.fact 41 rfl)
theorem Tx.c_law_same_words : mg "_law_same_words" = some (.ref (He.ga K "_law_same_words")) := by
  obtain ⟨h, X, G⟩ := T.x
  exact He.glo_ok X G (T.d.fact 42 rfl)
theorem Tx.c_law : mg "law" = some (.ref (He.ga K "law")) := by
  obtain ⟨h, X, G⟩ := T.x
  exact He.glo_ok X G (T.d.fact 43 rfl)
theorem Tx.c_Board : mg "Board" = some (.ref (He.ga K "Board")) := by
  obtain ⟨h, X, G⟩ := T.x
  exact He.glo_ok X G (T.d.fact 44 rfl)
theorem Tx.c_Book : mg "Book" = some (.ref (He.ga K "Book")) := by
  obtain ⟨h, X, G⟩ := T.x
  exact He.glo_ok X G (T.d.fact 45 rfl)
theorem Tx.c_RackError : mg "RackError" = some (.ref (He.ga K "RackError")) := by
  obtain ⟨h, X, G⟩ := T.x
  exact He.glo_ok X G (T.d.fact 46 rfl)
theorem Tx.c_NoText : mg "NoText" = some (.ref (He.ga K "NoText")) := by
  obtain ⟨h, X, G⟩ := T.x
  exact He.glo_ok X G (T.d.fact 47 rfl)
theorem Tx.c_Twice : mg "Twice" = some (.ref (He.ga K "Twice")) := by
  obtain ⟨h, X, G⟩ := T.x
  exact He.glo_ok X G (T.d.fact 48 rfl)
theorem Tx.c_NoWord : mg "NoWord" = some (.ref (He.ga K "NoWord")) := by
  obtain ⟨h, X, G⟩ := T.x
  exact He.glo_ok X G (T.d.fact 49 rfl)
theorem Tx.c_NoBoard : mg "NoBoard" = some (.ref (He.ga K "NoBoard")) := by
  obtain ⟨h, X, G⟩ := T.x
  exact He.glo_ok X G (T.d.fact 50 rfl)
theorem Tx.c_NoLaying : mg "NoLaying" = some (.ref (He.ga K "NoLaying")) := by
  obtain ⟨h, X, G⟩ := T.x
  exact He.glo_ok X G (T.d.fact 51 rfl)
theorem Tx.c_Taken : mg "Taken" = some (.ref (He.ga K "Taken")) := by
  obtain ⟨h, X, G⟩ := T.x
  exact He.glo_ok X G (T.d.fact 52 rfl)
theorem Tx.c_Crooked : mg "Crooked" = some (.ref (He.ga K "Crooked")) := by
  obtain ⟨h, X, G⟩ := T.x
  exact He.glo_ok X G (T.d.fact 53 rfl)
theorem Tx.c_Gap : mg "Gap" = some (.ref (He.ga K "Gap")) := by
  obtain ⟨h, X, G⟩ := T.x
  exact He.glo_ok X G (T.d.fact 54 rfl)
theorem Tx.c_Apart : mg "Apart" = some (.ref (He.ga K "Apart")) := by
  obtain ⟨h, X, G⟩ := T.x
  exact He.glo_ok X G (T.d.fact 55 rfl)
theorem Tx.c_Lacking : mg "Lacking" = some (.ref (He.ga K "Lacking")) := by
  obtain ⟨h, X, G⟩ := T.x
  exact He.glo_ok X G (T.d.fact 56 rfl)
theorem Tx.c_TooFew : mg "TooFew" = some (.ref (He.ga K "TooFew")) := by
  obtain ⟨h, X, G⟩ := T.x
  exact He.glo_ok X G (T.d.fact 57 rfl)
theorem Tx.c_NoDeed : mg "NoDeed" = some (.ref (He.ga K "NoDeed")) := by
  obtain ⟨h, X, G⟩ := T.x
  exact He.glo_ok X G (T.d.fact 58 rfl)
theorem Tx.c_Over : mg "Over" = some (.ref (He.ga K "Over")) := by
  obtain ⟨h, X, G⟩ := T.x
  exact He.glo_ok X G (T.d.fact 59 rfl)
theorem Tx.c_NoBack : mg "NoBack" = some (.ref (He.ga K "NoBack")) := by
  obtain ⟨h, X, G⟩ := T.x
  exact He.glo_ok X G (T.d.fact 60 rfl)
theorem Tx.c_NoRow : mg "NoRow" = some (.ref (He.ga K "NoRow")) := by
  obtain ⟨h, X, G⟩ := T.x
  exact He.glo_ok X G (T.d.fact 61 rfl)
theorem Tx.f_str : mg "str" = none := by
  obtain ⟨h, X, G⟩ := T.x
  exact He.free_ok X G (T.d.fact 62 rfl)
theorem Tx.f_len : mg "len" = none := by
  obtain ⟨h, X, G⟩ := T.x
  exact He.free_ok X G (T.d.fact 63 rfl)
theorem Tx.f_sorted : mg "sorted" = none := by
  obtain ⟨h, X, G⟩ := T.x
  exact He.free_ok X G (T.d.fact 64 rfl)
theorem Tx.f_isinstance : mg "isinstance" = none := by
  obtain ⟨h, X, G⟩ := T.x
  exact He.free_ok X G (T.d.fact 65 rfl)
theorem Tx.f_tuple : mg "tuple" = none := by
  obtain ⟨h, X, G⟩ := T.x
  exact He.free_ok X G (T.d.fact 66 rfl)
theorem Tx.f_int : mg "int" = none := by
  obtain ⟨h, X, G⟩ := T.x
  exact He.free_ok X G (T.d.fact 67 rfl)
theorem Tx.f_bool : mg "bool" = none := by
  obtain ⟨h, X, G⟩ := T.x
  exact He.free_ok X G (T.d.fact 68 rfl)
theorem Tx.f_all : mg "all" = none := by
  obtain ⟨h, X, G⟩ := T.x
  exact He.free_ok X G (T.d.fact 69 rfl)
theorem Tx.f_range : mg "range" = none := by
  obtain ⟨h, X, G⟩ := T.x
  exact He.free_ok X G (T.d.fact 70 rfl)
theorem Tx.f_set : mg "set" = none := by
  obtain ⟨h, X, G⟩ := T.x
  exact He.free_ok X G (T.d.fact 71 rfl)
theorem Tx.f_list : mg "list" = none := by
  obtain ⟨h, X, G⟩ := T.x
  exact He.free_ok X G (T.d.fact 72 rfl)
theorem Tx.f_min : mg "min" = none := by
  obtain ⟨h, X, G⟩ := T.x
  exact He.free_ok X G (T.d.fact 73 rfl)
theorem Tx.f_max : mg "max" = none := by
  obtain ⟨h, X, G⟩ := T.x
  exact He.free_ok X G (T.d.fact 74 rfl)
theorem Tx.f_ValueError : mg "ValueError" = none := by
  obtain ⟨h, X, G⟩ := T.x
  exact He.free_ok X G (T.d.fact 75 rfl)
theorem Tx.g_LETTERS_signs : ∃ t, mg "LETTERS_signs" = some (.str (LR.mk lowL) t) := by
  obtain ⟨h, X, G⟩ := T.x
  obtain ⟨t, e⟩ := He.str_ok X G (T.d.fact 76 rfl)
  exact ⟨t, e.trans (congrArg (fun z => some (Value.str z t)) (by decide +kernel))⟩
theorem Tx.g_GREAT : ∃ t, mg "GREAT" = some (.str (LR.mk greL) t) := by
  obtain ⟨h, X, G⟩ := T.x
  obtain ⟨t, e⟩ := He.str_ok X G (T.d.fact 77 rfl)
  exact ⟨t, e.trans (congrArg (fun z => some (Value.str z t)) (by decide +kernel))⟩
theorem Tx.g_BLANK : ∃ t, mg "BLANK" = some (.str (LR.mk [63]) t) := by
  obtain ⟨h, X, G⟩ := T.x
  obtain ⟨t, e⟩ := He.str_ok X G (T.d.fact 78 rfl)
  exact ⟨t, e.trans (congrArg (fun z => some (Value.str z t)) (by decide +kernel))⟩
theorem Tx.g_FREE : ∃ t, mg "FREE" = some (.str (LR.mk [46]) t) := by
  obtain ⟨h, X, G⟩ := T.x
  obtain ⟨t, e⟩ := He.str_ok X G (T.d.fact 79 rfl)
  exact ⟨t, e.trans (congrArg (fun z => some (Value.str z t)) (by decide +kernel))⟩
theorem Tx.g_MARKS : ∃ t, mg "MARKS" = some (.str (LR.mk markL) t) := by
  obtain ⟨h, X, G⟩ := T.x
  obtain ⟨t, e⟩ := He.str_ok X G (T.d.fact 80 rfl)
  exact ⟨t, e.trans (congrArg (fun z => some (Value.str z t)) (by decide +kernel))⟩
theorem Tx.g_LETTERS_books : ∃ t, mg "LETTERS_books" = some (.str (LR.mk lowL) t) := by
  obtain ⟨h, X, G⟩ := T.x
  obtain ⟨t, e⟩ := He.str_ok X G (T.d.fact 81 rfl)
  exact ⟨t, e.trans (congrArg (fun z => some (Value.str z t)) (by decide +kernel))⟩
theorem Tx.g_MOST_TILES : ∃ t, mg "MOST_TILES" = some (.int 7 t) := by
  obtain ⟨h, X, G⟩ := T.x
  exact He.int_ok X G (T.d.fact 82 rfl)
theorem Tx.g_MOST_CELLS : ∃ t, mg "MOST_CELLS" = some (.int 9 t) := by
  obtain ⟨h, X, G⟩ := T.x
  exact He.int_ok X G (T.d.fact 83 rfl)
theorem Tx.cls_Board : Cls K (He.ga K "Board") := He.cls_ok (T.d.fact 84 rfl)
theorem Tx.mk_Board : Mk K (He.ga K "Board") (He.ma K (He.ga K "Board") "__init__") := He.mkr_ok (T.d.fact 85 rfl)
theorem Tx.na_Board_rows : NoAttr K (He.ga K "Board") "rows" := He.noat_ok (T.d.fact 86 rfl)
theorem Tx.na_Board_marks : NoAttr K (He.ga K "Board") "marks" := He.noat_ok (T.d.fact 87 rfl)
theorem Tx.na_Board_begin : NoAttr K (He.ga K "Board") "begin" := He.noat_ok (T.d.fact 88 rfl)
theorem Tx.cls_Book : Cls K (He.ga K "Book") := He.cls_ok (T.d.fact 89 rfl)
theorem Tx.mk_Book : Mk K (He.ga K "Book") (He.ma K (He.ga K "Book") "__init__") := He.mkr_ok (T.d.fact 90 rfl)
theorem Tx.na_Book_held : NoAttr K (He.ga K "Book") "held" := He.noat_ok (T.d.fact 91 rfl)
theorem Tx.m_Board_at : Meth K (He.ga K "Board") "at" (He.ma K (He.ga K "Board") "at") := He.meth_ok (T.d.fact 92 rfl)
theorem Tx.m_Board_is_free : Meth K (He.ga K "Board") "is_free" (He.ma K (He.ga K "Board") "is_free") := He.meth_ok (T.d.fact 93 rfl)
theorem Tx.m_Board_run : Meth K (He.ga K "Board") "run" (He.ma K (He.ga K "Board") "run") := He.meth_ok (T.d.fact 94 rfl)
theorem Tx.m_Board_turned : Meth K (He.ga K "Board") "turned" (He.ma K (He.ga K "Board") "turned") := He.meth_ok (T.d.fact 95 rfl)
theorem Tx.m_Board_laid : Meth K (He.ga K "Board") "laid" (He.ma K (He.ga K "Board") "laid") := He.meth_ok (T.d.fact 96 rfl)
theorem Tx.m_Book_has : Meth K (He.ga K "Book") "has" (He.ma K (He.ga K "Book") "has") := He.meth_ok (T.d.fact 97 rfl)
theorem Tx.x_NoLaying : PySem.W.excIn K (He.ga K "NoLaying") He.veBase "ValueError.__new__" = true ∧ PySem.W.keepIn K (.ref (He.ga K "NoLaying")) = true ∧ PySem.W.subIn K (.ref (He.ga K "NoLaying")) (.type "BaseException") = some true ∧ PySem.W.typeIn K (.ref (He.ga K "NoLaying")) = some (.type "type") := He.exc_ok (T.d.fact 98 rfl)
theorem Tx.x_Crooked : PySem.W.excIn K (He.ga K "Crooked") He.veBase "ValueError.__new__" = true ∧ PySem.W.keepIn K (.ref (He.ga K "Crooked")) = true ∧ PySem.W.subIn K (.ref (He.ga K "Crooked")) (.type "BaseException") = some true ∧ PySem.W.typeIn K (.ref (He.ga K "Crooked")) = some (.type "type") := He.exc_ok (T.d.fact 99 rfl)
theorem Tx.x_Apart : PySem.W.excIn K (He.ga K "Apart") He.veBase "ValueError.__new__" = true ∧ PySem.W.keepIn K (.ref (He.ga K "Apart")) = true ∧ PySem.W.subIn K (.ref (He.ga K "Apart")) (.type "BaseException") = some true ∧ PySem.W.typeIn K (.ref (He.ga K "Apart")) = some (.type "type") := He.exc_ok (T.d.fact 100 rfl)
theorem Tx.em_NoLaying : PySem.W.exmOne K (.ref (He.ga K "NoLaying")) (.ref (He.ga K "RackError")) = some true := He.exm_ok (T.d.fact 101 rfl)
theorem Tx.em_Taken : PySem.W.exmOne K (.ref (He.ga K "Taken")) (.ref (He.ga K "RackError")) = some true := He.exm_ok (T.d.fact 102 rfl)
theorem Tx.em_Crooked : PySem.W.exmOne K (.ref (He.ga K "Crooked")) (.ref (He.ga K "RackError")) = some true := He.exm_ok (T.d.fact 103 rfl)
theorem Tx.em_Gap : PySem.W.exmOne K (.ref (He.ga K "Gap")) (.ref (He.ga K "RackError")) = some true := He.exm_ok (T.d.fact 104 rfl)
theorem Tx.em_Apart : PySem.W.exmOne K (.ref (He.ga K "Apart")) (.ref (He.ga K "RackError")) = some true := He.exm_ok (T.d.fact 105 rfl)
theorem Tx.em_Lacking : PySem.W.exmOne K (.ref (He.ga K "Lacking")) (.ref (He.ga K "RackError")) = some true := He.exm_ok (T.d.fact 106 rfl)
theorem Tx.em_NoWord : PySem.W.exmOne K (.ref (He.ga K "NoWord")) (.ref (He.ga K "RackError")) = some true := He.exm_ok (T.d.fact 107 rfl)
theorem Tx.na_NoWord_word : NoAttr K (He.ga K "NoWord") "word" := He.noat_ok (T.d.fact 108 rfl)
theorem Tx.na_Taken_row : NoAttr K (He.ga K "Taken") "row" := He.noat_ok (T.d.fact 109 rfl)
theorem Tx.na_Taken_column : NoAttr K (He.ga K "Taken") "column" := He.noat_ok (T.d.fact 110 rfl)
theorem Tx.na_Gap_row : NoAttr K (He.ga K "Gap") "row" := He.noat_ok (T.d.fact 111 rfl)
theorem Tx.na_Gap_column : NoAttr K (He.ga K "Gap") "column" := He.noat_ok (T.d.fact 112 rfl)
theorem Tx.na_Lacking_tile : NoAttr K (He.ga K "Lacking") "tile" := He.noat_ok (T.d.fact 113 rfl)
theorem Tx.w_Taken : OexC K (He.ga K "Taken") ∧ PySem.W.findIn K (.ref (He.ga K "Taken")) "__init__" = some (some (.ref (He.ma K (He.ga K "Taken") "__init__"))) ∧ PySem.W.typeIn K (.ref (He.ma K (He.ga K "Taken") "__init__")) = some (.type "function") := own_ok (ex_get T.e (List.mem_of_getElem? (show exL[0]? = some _ from rfl)))
theorem Tx.w_Gap : OexC K (He.ga K "Gap") ∧ PySem.W.findIn K (.ref (He.ga K "Gap")) "__init__" = some (some (.ref (He.ma K (He.ga K "Gap") "__init__"))) ∧ PySem.W.typeIn K (.ref (He.ma K (He.ga K "Gap") "__init__")) = some (.type "function") := own_ok (ex_get T.e (List.mem_of_getElem? (show exL[1]? = some _ from rfl)))
theorem Tx.w_Lacking : OexC K (He.ga K "Lacking") ∧ PySem.W.findIn K (.ref (He.ga K "Lacking")) "__init__" = some (some (.ref (He.ma K (He.ga K "Lacking") "__init__"))) ∧ PySem.W.typeIn K (.ref (He.ma K (He.ga K "Lacking") "__init__")) = some (.type "function") := own_ok (ex_get T.e (List.mem_of_getElem? (show exL[2]? = some _ from rfl)))
theorem Tx.w_NoWord : OexC K (He.ga K "NoWord") ∧ PySem.W.findIn K (.ref (He.ga K "NoWord")) "__init__" = some (some (.ref (He.ma K (He.ga K "NoWord") "__init__"))) ∧ PySem.W.typeIn K (.ref (He.ma K (He.ga K "NoWord") "__init__")) = some (.type "function") := own_ok (ex_get T.e (List.mem_of_getElem? (show exL[3]? = some _ from rfl)))
theorem Tx.i_NoLaying : ExcC K (He.ga K "NoLaying") := iso_ok (ex_get T.e (List.mem_of_getElem? (show exL[4]? = some _ from rfl)))
theorem Tx.i_Taken : ExcC K (He.ga K "Taken") := iso_ok (ex_get T.e (List.mem_of_getElem? (show exL[5]? = some _ from rfl)))
theorem Tx.i_Crooked : ExcC K (He.ga K "Crooked") := iso_ok (ex_get T.e (List.mem_of_getElem? (show exL[6]? = some _ from rfl)))
theorem Tx.i_Gap : ExcC K (He.ga K "Gap") := iso_ok (ex_get T.e (List.mem_of_getElem? (show exL[7]? = some _ from rfl)))
theorem Tx.i_Apart : ExcC K (He.ga K "Apart") := iso_ok (ex_get T.e (List.mem_of_getElem? (show exL[8]? = some _ from rfl)))
theorem Tx.i_Lacking : ExcC K (He.ga K "Lacking") := iso_ok (ex_get T.e (List.mem_of_getElem? (show exL[9]? = some _ from rfl)))
theorem Tx.i_NoWord : ExcC K (He.ga K "NoWord") := iso_ok (ex_get T.e (List.mem_of_getElem? (show exL[10]? = some _ from rfl)))
theorem Tx.k_NoLaying_NoLaying : PySem.W.kitOne K (.ref (He.ga K "NoLaying")) (.ref (He.ga K "NoLaying")) = some true := kit_ok (ex_get T.e (List.mem_of_getElem? (show exL[11]? = some _ from rfl)))
theorem Tx.k_NoLaying_Taken : PySem.W.kitOne K (.ref (He.ga K "NoLaying")) (.ref (He.ga K "Taken")) = some false := kit_ok (ex_get T.e (List.mem_of_getElem? (show exL[12]? = some _ from rfl)))
theorem Tx.k_NoLaying_Crooked : PySem.W.kitOne K (.ref (He.ga K "NoLaying")) (.ref (He.ga K "Crooked")) = some false := kit_ok (ex_get T.e (List.mem_of_getElem? (show exL[13]? = some _ from rfl)))
theorem Tx.k_NoLaying_Gap : PySem.W.kitOne K (.ref (He.ga K "NoLaying")) (.ref (He.ga K "Gap")) = some false := kit_ok (ex_get T.e (List.mem_of_getElem? (show exL[14]? = some _ from rfl)))
theorem Tx.k_NoLaying_Apart : PySem.W.kitOne K (.ref (He.ga K "NoLaying")) (.ref (He.ga K "Apart")) = some false := kit_ok (ex_get T.e (List.mem_of_getElem? (show exL[15]? = some _ from rfl)))
theorem Tx.k_NoLaying_Lacking : PySem.W.kitOne K (.ref (He.ga K "NoLaying")) (.ref (He.ga K "Lacking")) = some false := kit_ok (ex_get T.e (List.mem_of_getElem? (show exL[16]? = some _ from rfl)))
theorem Tx.k_NoLaying_NoWord : PySem.W.kitOne K (.ref (He.ga K "NoLaying")) (.ref (He.ga K "NoWord")) = some false := kit_ok (ex_get T.e (List.mem_of_getElem? (show exL[17]? = some _ from rfl)))
theorem Tx.k_NoLaying_NoBack : PySem.W.kitOne K (.ref (He.ga K "NoLaying")) (.ref (He.ga K "NoBack")) = some false := kit_ok (ex_get T.e (List.mem_of_getElem? (show exL[18]? = some _ from rfl)))
theorem Tx.k_NoLaying_NoBoard : PySem.W.kitOne K (.ref (He.ga K "NoLaying")) (.ref (He.ga K "NoBoard")) = some false := kit_ok (ex_get T.e (List.mem_of_getElem? (show exL[19]? = some _ from rfl)))
theorem Tx.k_NoLaying_NoDeed : PySem.W.kitOne K (.ref (He.ga K "NoLaying")) (.ref (He.ga K "NoDeed")) = some false := kit_ok (ex_get T.e (List.mem_of_getElem? (show exL[20]? = some _ from rfl)))
theorem Tx.k_NoLaying_NoRow : PySem.W.kitOne K (.ref (He.ga K "NoLaying")) (.ref (He.ga K "NoRow")) = some false := kit_ok (ex_get T.e (List.mem_of_getElem? (show exL[21]? = some _ from rfl)))
theorem Tx.k_NoLaying_NoText : PySem.W.kitOne K (.ref (He.ga K "NoLaying")) (.ref (He.ga K "NoText")) = some false := kit_ok (ex_get T.e (List.mem_of_getElem? (show exL[22]? = some _ from rfl)))
theorem Tx.k_NoLaying_Over : PySem.W.kitOne K (.ref (He.ga K "NoLaying")) (.ref (He.ga K "Over")) = some false := kit_ok (ex_get T.e (List.mem_of_getElem? (show exL[23]? = some _ from rfl)))
theorem Tx.k_NoLaying_TooFew : PySem.W.kitOne K (.ref (He.ga K "NoLaying")) (.ref (He.ga K "TooFew")) = some false := kit_ok (ex_get T.e (List.mem_of_getElem? (show exL[24]? = some _ from rfl)))
theorem Tx.k_NoLaying_Twice : PySem.W.kitOne K (.ref (He.ga K "NoLaying")) (.ref (He.ga K "Twice")) = some false := kit_ok (ex_get T.e (List.mem_of_getElem? (show exL[25]? = some _ from rfl)))
theorem Tx.kv_NoLaying : PySem.W.kitOne K (.ref (He.ga K "NoLaying")) (.type "ValueError") = some true := kiv_ok (ex_get T.e (List.mem_of_getElem? (show exL[26]? = some _ from rfl)))
theorem Tx.k_Taken_NoLaying : PySem.W.kitOne K (.ref (He.ga K "Taken")) (.ref (He.ga K "NoLaying")) = some false := kit_ok (ex_get T.e (List.mem_of_getElem? (show exL[27]? = some _ from rfl)))
theorem Tx.k_Taken_Taken : PySem.W.kitOne K (.ref (He.ga K "Taken")) (.ref (He.ga K "Taken")) = some true := kit_ok (ex_get T.e (List.mem_of_getElem? (show exL[28]? = some _ from rfl)))
theorem Tx.k_Taken_Crooked : PySem.W.kitOne K (.ref (He.ga K "Taken")) (.ref (He.ga K "Crooked")) = some false := kit_ok (ex_get T.e (List.mem_of_getElem? (show exL[29]? = some _ from rfl)))
theorem Tx.k_Taken_Gap : PySem.W.kitOne K (.ref (He.ga K "Taken")) (.ref (He.ga K "Gap")) = some false := kit_ok (ex_get T.e (List.mem_of_getElem? (show exL[30]? = some _ from rfl)))
theorem Tx.k_Taken_Apart : PySem.W.kitOne K (.ref (He.ga K "Taken")) (.ref (He.ga K "Apart")) = some false := kit_ok (ex_get T.e (List.mem_of_getElem? (show exL[31]? = some _ from rfl)))
theorem Tx.k_Taken_Lacking : PySem.W.kitOne K (.ref (He.ga K "Taken")) (.ref (He.ga K "Lacking")) = some false := kit_ok (ex_get T.e (List.mem_of_getElem? (show exL[32]? = some _ from rfl)))
theorem Tx.k_Taken_NoWord : PySem.W.kitOne K (.ref (He.ga K "Taken")) (.ref (He.ga K "NoWord")) = some false := kit_ok (ex_get T.e (List.mem_of_getElem? (show exL[33]? = some _ from rfl)))
theorem Tx.k_Taken_NoBack : PySem.W.kitOne K (.ref (He.ga K "Taken")) (.ref (He.ga K "NoBack")) = some false := kit_ok (ex_get T.e (List.mem_of_getElem? (show exL[34]? = some _ from rfl)))
theorem Tx.k_Taken_NoBoard : PySem.W.kitOne K (.ref (He.ga K "Taken")) (.ref (He.ga K "NoBoard")) = some false := kit_ok (ex_get T.e (List.mem_of_getElem? (show exL[35]? = some _ from rfl)))
theorem Tx.k_Taken_NoDeed : PySem.W.kitOne K (.ref (He.ga K "Taken")) (.ref (He.ga K "NoDeed")) = some false := kit_ok (ex_get T.e (List.mem_of_getElem? (show exL[36]? = some _ from rfl)))
theorem Tx.k_Taken_NoRow : PySem.W.kitOne K (.ref (He.ga K "Taken")) (.ref (He.ga K "NoRow")) = some false := kit_ok (ex_get T.e (List.mem_of_getElem? (show exL[37]? = some _ from rfl)))
theorem Tx.k_Taken_NoText : PySem.W.kitOne K (.ref (He.ga K "Taken")) (.ref (He.ga K "NoText")) = some false := kit_ok (ex_get T.e (List.mem_of_getElem? (show exL[38]? = some _ from rfl)))
theorem Tx.k_Taken_Over : PySem.W.kitOne K (.ref (He.ga K "Taken")) (.ref (He.ga K "Over")) = some false := kit_ok (ex_get T.e (List.mem_of_getElem? (show exL[39]? = some _ from rfl)))
theorem Tx.k_Taken_TooFew : PySem.W.kitOne K (.ref (He.ga K "Taken")) (.ref (He.ga K "TooFew")) = some false := kit_ok (ex_get T.e (List.mem_of_getElem? (show exL[40]? = some _ from rfl)))
theorem Tx.k_Taken_Twice : PySem.W.kitOne K (.ref (He.ga K "Taken")) (.ref (He.ga K "Twice")) = some false := kit_ok (ex_get T.e (List.mem_of_getElem? (show exL[41]? = some _ from rfl)))
theorem Tx.kv_Taken : PySem.W.kitOne K (.ref (He.ga K "Taken")) (.type "ValueError") = some true := kiv_ok (ex_get T.e (List.mem_of_getElem? (show exL[42]? = some _ from rfl)))
theorem Tx.k_Crooked_NoLaying : PySem.W.kitOne K (.ref (He.ga K "Crooked")) (.ref (He.ga K "NoLaying")) = some false := kit_ok (ex_get T.e (List.mem_of_getElem? (show exL[43]? = some _ from rfl)))
theorem Tx.k_Crooked_Taken : PySem.W.kitOne K (.ref (He.ga K "Crooked")) (.ref (He.ga K "Taken")) = some false := kit_ok (ex_get T.e (List.mem_of_getElem? (show exL[44]? = some _ from rfl)))
theorem Tx.k_Crooked_Crooked : PySem.W.kitOne K (.ref (He.ga K "Crooked")) (.ref (He.ga K "Crooked")) = some true := kit_ok (ex_get T.e (List.mem_of_getElem? (show exL[45]? = some _ from rfl)))
theorem Tx.k_Crooked_Gap : PySem.W.kitOne K (.ref (He.ga K "Crooked")) (.ref (He.ga K "Gap")) = some false := kit_ok (ex_get T.e (List.mem_of_getElem? (show exL[46]? = some _ from rfl)))
theorem Tx.k_Crooked_Apart : PySem.W.kitOne K (.ref (He.ga K "Crooked")) (.ref (He.ga K "Apart")) = some false := kit_ok (ex_get T.e (List.mem_of_getElem? (show exL[47]? = some _ from rfl)))
theorem Tx.k_Crooked_Lacking : PySem.W.kitOne K (.ref (He.ga K "Crooked")) (.ref (He.ga K "Lacking")) = some false := kit_ok (ex_get T.e (List.mem_of_getElem? (show exL[48]? = some _ from rfl)))
theorem Tx.k_Crooked_NoWord : PySem.W.kitOne K (.ref (He.ga K "Crooked")) (.ref (He.ga K "NoWord")) = some false := kit_ok (ex_get T.e (List.mem_of_getElem? (show exL[49]? = some _ from rfl)))
theorem Tx.k_Crooked_NoBack : PySem.W.kitOne K (.ref (He.ga K "Crooked")) (.ref (He.ga K "NoBack")) = some false := kit_ok (ex_get T.e (List.mem_of_getElem? (show exL[50]? = some _ from rfl)))
theorem Tx.k_Crooked_NoBoard : PySem.W.kitOne K (.ref (He.ga K "Crooked")) (.ref (He.ga K "NoBoard")) = some false := kit_ok (ex_get T.e (List.mem_of_getElem? (show exL[51]? = some _ from rfl)))
theorem Tx.k_Crooked_NoDeed : PySem.W.kitOne K (.ref (He.ga K "Crooked")) (.ref (He.ga K "NoDeed")) = some false := kit_ok (ex_get T.e (List.mem_of_getElem? (show exL[52]? = some _ from rfl)))
theorem Tx.k_Crooked_NoRow : PySem.W.kitOne K (.ref (He.ga K "Crooked")) (.ref (He.ga K "NoRow")) = some false := kit_ok (ex_get T.e (List.mem_of_getElem? (show exL[53]? = some _ from rfl)))
theorem Tx.k_Crooked_NoText : PySem.W.kitOne K (.ref (He.ga K "Crooked")) (.ref (He.ga K "NoText")) = some false := kit_ok (ex_get T.e (List.mem_of_getElem? (show exL[54]? = some _ from rfl)))
theorem Tx.k_Crooked_Over : PySem.W.kitOne K (.ref (He.ga K "Crooked")) (.ref (He.ga K "Over")) = some false := kit_ok (ex_get T.e (List.mem_of_getElem? (show exL[55]? = some _ from rfl)))
theorem Tx.k_Crooked_TooFew : PySem.W.kitOne K (.ref (He.ga K "Crooked")) (.ref (He.ga K "TooFew")) = some false := kit_ok (ex_get T.e (List.mem_of_getElem? (show exL[56]? = some _ from rfl)))
theorem Tx.k_Crooked_Twice : PySem.W.kitOne K (.ref (He.ga K "Crooked")) (.ref (He.ga K "Twice")) = some false := kit_ok (ex_get T.e (List.mem_of_getElem? (show exL[57]? = some _ from rfl)))
theorem Tx.kv_Crooked : PySem.W.kitOne K (.ref (He.ga K "Crooked")) (.type "ValueError") = some true := kiv_ok (ex_get T.e (List.mem_of_getElem? (show exL[58]? = some _ from rfl)))
theorem Tx.k_Gap_NoLaying : PySem.W.kitOne K (.ref (He.ga K "Gap")) (.ref (He.ga K "NoLaying")) = some false := kit_ok (ex_get T.e (List.mem_of_getElem? (show exL[59]? = some _ from rfl)))
theorem Tx.k_Gap_Taken : PySem.W.kitOne K (.ref (He.ga K "Gap")) (.ref (He.ga K "Taken")) = some false := kit_ok (ex_get T.e (List.mem_of_getElem? (show exL[60]? = some _ from rfl)))
theorem Tx.k_Gap_Crooked : PySem.W.kitOne K (.ref (He.ga K "Gap")) (.ref (He.ga K "Crooked")) = some false := kit_ok (ex_get T.e (List.mem_of_getElem? (show exL[61]? = some _ from rfl)))
theorem Tx.k_Gap_Gap : PySem.W.kitOne K (.ref (He.ga K "Gap")) (.ref (He.ga K "Gap")) = some true := kit_ok (ex_get T.e (List.mem_of_getElem? (show exL[62]? = some _ from rfl)))
theorem Tx.k_Gap_Apart : PySem.W.kitOne K (.ref (He.ga K "Gap")) (.ref (He.ga K "Apart")) = some false := kit_ok (ex_get T.e (List.mem_of_getElem? (show exL[63]? = some _ from rfl)))
theorem Tx.k_Gap_Lacking : PySem.W.kitOne K (.ref (He.ga K "Gap")) (.ref (He.ga K "Lacking")) = some false := kit_ok (ex_get T.e (List.mem_of_getElem? (show exL[64]? = some _ from rfl)))
theorem Tx.k_Gap_NoWord : PySem.W.kitOne K (.ref (He.ga K "Gap")) (.ref (He.ga K "NoWord")) = some false := kit_ok (ex_get T.e (List.mem_of_getElem? (show exL[65]? = some _ from rfl)))
theorem Tx.k_Gap_NoBack : PySem.W.kitOne K (.ref (He.ga K "Gap")) (.ref (He.ga K "NoBack")) = some false := kit_ok (ex_get T.e (List.mem_of_getElem? (show exL[66]? = some _ from rfl)))
theorem Tx.k_Gap_NoBoard : PySem.W.kitOne K (.ref (He.ga K "Gap")) (.ref (He.ga K "NoBoard")) = some false := kit_ok (ex_get T.e (List.mem_of_getElem? (show exL[67]? = some _ from rfl)))
theorem Tx.k_Gap_NoDeed : PySem.W.kitOne K (.ref (He.ga K "Gap")) (.ref (He.ga K "NoDeed")) = some false := kit_ok (ex_get T.e (List.mem_of_getElem? (show exL[68]? = some _ from rfl)))
theorem Tx.k_Gap_NoRow : PySem.W.kitOne K (.ref (He.ga K "Gap")) (.ref (He.ga K "NoRow")) = some false := kit_ok (ex_get T.e (List.mem_of_getElem? (show exL[69]? = some _ from rfl)))
theorem Tx.k_Gap_NoText : PySem.W.kitOne K (.ref (He.ga K "Gap")) (.ref (He.ga K "NoText")) = some false := kit_ok (ex_get T.e (List.mem_of_getElem? (show exL[70]? = some _ from rfl)))
theorem Tx.k_Gap_Over : PySem.W.kitOne K (.ref (He.ga K "Gap")) (.ref (He.ga K "Over")) = some false := kit_ok (ex_get T.e (List.mem_of_getElem? (show exL[71]? = some _ from rfl)))
theorem Tx.k_Gap_TooFew : PySem.W.kitOne K (.ref (He.ga K "Gap")) (.ref (He.ga K "TooFew")) = some false := kit_ok (ex_get T.e (List.mem_of_getElem? (show exL[72]? = some _ from rfl)))
theorem Tx.k_Gap_Twice : PySem.W.kitOne K (.ref (He.ga K "Gap")) (.ref (He.ga K "Twice")) = some false := kit_ok (ex_get T.e (List.mem_of_getElem? (show exL[73]? = some _ from rfl)))
theorem Tx.kv_Gap : PySem.W.kitOne K (.ref (He.ga K "Gap")) (.type "ValueError") = some true := kiv_ok (ex_get T.e (List.mem_of_getElem? (show exL[74]? = some _ from rfl)))
theorem Tx.k_Apart_NoLaying : PySem.W.kitOne K (.ref (He.ga K "Apart")) (.ref (He.ga K "NoLaying")) = some false := kit_ok (ex_get T.e (List.mem_of_getElem? (show exL[75]? = some _ from rfl)))
theorem Tx.k_Apart_Taken : PySem.W.kitOne K (.ref (He.ga K "Apart")) (.ref (He.ga K "Taken")) = some false := kit_ok (ex_get T.e (List.mem_of_getElem? (show exL[76]? = some _ from rfl)))
theorem Tx.k_Apart_Crooked : PySem.W.kitOne K (.ref (He.ga K "Apart")) (.ref (He.ga K "Crooked")) = some false := kit_ok (ex_get T.e (List.mem_of_getElem? (show exL[77]? = some _ from rfl)))
theorem Tx.k_Apart_Gap : PySem.W.kitOne K (.ref (He.ga K "Apart")) (.ref (He.ga K "Gap")) = some false := kit_ok (ex_get T.e (List.mem_of_getElem? (show exL[78]? = some _ from rfl)))
theorem Tx.k_Apart_Apart : PySem.W.kitOne K (.ref (He.ga K "Apart")) (.ref (He.ga K "Apart")) = some true := kit_ok (ex_get T.e (List.mem_of_getElem? (show exL[79]? = some _ from rfl)))
theorem Tx.k_Apart_Lacking : PySem.W.kitOne K (.ref (He.ga K "Apart")) (.ref (He.ga K "Lacking")) = some false := kit_ok (ex_get T.e (List.mem_of_getElem? (show exL[80]? = some _ from rfl)))
theorem Tx.k_Apart_NoWord : PySem.W.kitOne K (.ref (He.ga K "Apart")) (.ref (He.ga K "NoWord")) = some false := kit_ok (ex_get T.e (List.mem_of_getElem? (show exL[81]? = some _ from rfl)))
theorem Tx.k_Apart_NoBack : PySem.W.kitOne K (.ref (He.ga K "Apart")) (.ref (He.ga K "NoBack")) = some false := kit_ok (ex_get T.e (List.mem_of_getElem? (show exL[82]? = some _ from rfl)))
theorem Tx.k_Apart_NoBoard : PySem.W.kitOne K (.ref (He.ga K "Apart")) (.ref (He.ga K "NoBoard")) = some false := kit_ok (ex_get T.e (List.mem_of_getElem? (show exL[83]? = some _ from rfl)))
theorem Tx.k_Apart_NoDeed : PySem.W.kitOne K (.ref (He.ga K "Apart")) (.ref (He.ga K "NoDeed")) = some false := kit_ok (ex_get T.e (List.mem_of_getElem? (show exL[84]? = some _ from rfl)))
theorem Tx.k_Apart_NoRow : PySem.W.kitOne K (.ref (He.ga K "Apart")) (.ref (He.ga K "NoRow")) = some false := kit_ok (ex_get T.e (List.mem_of_getElem? (show exL[85]? = some _ from rfl)))
theorem Tx.k_Apart_NoText : PySem.W.kitOne K (.ref (He.ga K "Apart")) (.ref (He.ga K "NoText")) = some false := kit_ok (ex_get T.e (List.mem_of_getElem? (show exL[86]? = some _ from rfl)))
theorem Tx.k_Apart_Over : PySem.W.kitOne K (.ref (He.ga K "Apart")) (.ref (He.ga K "Over")) = some false := kit_ok (ex_get T.e (List.mem_of_getElem? (show exL[87]? = some _ from rfl)))
theorem Tx.k_Apart_TooFew : PySem.W.kitOne K (.ref (He.ga K "Apart")) (.ref (He.ga K "TooFew")) = some false := kit_ok (ex_get T.e (List.mem_of_getElem? (show exL[88]? = some _ from rfl)))
theorem Tx.k_Apart_Twice : PySem.W.kitOne K (.ref (He.ga K "Apart")) (.ref (He.ga K "Twice")) = some false := kit_ok (ex_get T.e (List.mem_of_getElem? (show exL[89]? = some _ from rfl)))
theorem Tx.kv_Apart : PySem.W.kitOne K (.ref (He.ga K "Apart")) (.type "ValueError") = some true := kiv_ok (ex_get T.e (List.mem_of_getElem? (show exL[90]? = some _ from rfl)))
theorem Tx.k_Lacking_NoLaying : PySem.W.kitOne K (.ref (He.ga K "Lacking")) (.ref (He.ga K "NoLaying")) = some false := kit_ok (ex_get T.e (List.mem_of_getElem? (show exL[91]? = some _ from rfl)))
theorem Tx.k_Lacking_Taken : PySem.W.kitOne K (.ref (He.ga K "Lacking")) (.ref (He.ga K "Taken")) = some false := kit_ok (ex_get T.e (List.mem_of_getElem? (show exL[92]? = some _ from rfl)))
theorem Tx.k_Lacking_Crooked : PySem.W.kitOne K (.ref (He.ga K "Lacking")) (.ref (He.ga K "Crooked")) = some false := kit_ok (ex_get T.e (List.mem_of_getElem? (show exL[93]? = some _ from rfl)))
theorem Tx.k_Lacking_Gap : PySem.W.kitOne K (.ref (He.ga K "Lacking")) (.ref (He.ga K "Gap")) = some false := kit_ok (ex_get T.e (List.mem_of_getElem? (show exL[94]? = some _ from rfl)))
theorem Tx.k_Lacking_Apart : PySem.W.kitOne K (.ref (He.ga K "Lacking")) (.ref (He.ga K "Apart")) = some false := kit_ok (ex_get T.e (List.mem_of_getElem? (show exL[95]? = some _ from rfl)))
theorem Tx.k_Lacking_Lacking : PySem.W.kitOne K (.ref (He.ga K "Lacking")) (.ref (He.ga K "Lacking")) = some true := kit_ok (ex_get T.e (List.mem_of_getElem? (show exL[96]? = some _ from rfl)))
theorem Tx.k_Lacking_NoWord : PySem.W.kitOne K (.ref (He.ga K "Lacking")) (.ref (He.ga K "NoWord")) = some false := kit_ok (ex_get T.e (List.mem_of_getElem? (show exL[97]? = some _ from rfl)))
theorem Tx.k_Lacking_NoBack : PySem.W.kitOne K (.ref (He.ga K "Lacking")) (.ref (He.ga K "NoBack")) = some false := kit_ok (ex_get T.e (List.mem_of_getElem? (show exL[98]? = some _ from rfl)))
theorem Tx.k_Lacking_NoBoard : PySem.W.kitOne K (.ref (He.ga K "Lacking")) (.ref (He.ga K "NoBoard")) = some false := kit_ok (ex_get T.e (List.mem_of_getElem? (show exL[99]? = some _ from rfl)))
theorem Tx.k_Lacking_NoDeed : PySem.W.kitOne K (.ref (He.ga K "Lacking")) (.ref (He.ga K "NoDeed")) = some false := kit_ok (ex_get T.e (List.mem_of_getElem? (show exL[100]? = some _ from rfl)))
theorem Tx.k_Lacking_NoRow : PySem.W.kitOne K (.ref (He.ga K "Lacking")) (.ref (He.ga K "NoRow")) = some false := kit_ok (ex_get T.e (List.mem_of_getElem? (show exL[101]? = some _ from rfl)))
theorem Tx.k_Lacking_NoText : PySem.W.kitOne K (.ref (He.ga K "Lacking")) (.ref (He.ga K "NoText")) = some false := kit_ok (ex_get T.e (List.mem_of_getElem? (show exL[102]? = some _ from rfl)))
theorem Tx.k_Lacking_Over : PySem.W.kitOne K (.ref (He.ga K "Lacking")) (.ref (He.ga K "Over")) = some false := kit_ok (ex_get T.e (List.mem_of_getElem? (show exL[103]? = some _ from rfl)))
theorem Tx.k_Lacking_TooFew : PySem.W.kitOne K (.ref (He.ga K "Lacking")) (.ref (He.ga K "TooFew")) = some false := kit_ok (ex_get T.e (List.mem_of_getElem? (show exL[104]? = some _ from rfl)))
theorem Tx.k_Lacking_Twice : PySem.W.kitOne K (.ref (He.ga K "Lacking")) (.ref (He.ga K "Twice")) = some false := kit_ok (ex_get T.e (List.mem_of_getElem? (show exL[105]? = some _ from rfl)))
theorem Tx.kv_Lacking : PySem.W.kitOne K (.ref (He.ga K "Lacking")) (.type "ValueError") = some true := kiv_ok (ex_get T.e (List.mem_of_getElem? (show exL[106]? = some _ from rfl)))
theorem Tx.k_NoWord_NoLaying : PySem.W.kitOne K (.ref (He.ga K "NoWord")) (.ref (He.ga K "NoLaying")) = some false := kit_ok (ex_get T.e (List.mem_of_getElem? (show exL[107]? = some _ from rfl)))
theorem Tx.k_NoWord_Taken : PySem.W.kitOne K (.ref (He.ga K "NoWord")) (.ref (He.ga K "Taken")) = some false := kit_ok (ex_get T.e (List.mem_of_getElem? (show exL[108]? = some _ from rfl)))
theorem Tx.k_NoWord_Crooked : PySem.W.kitOne K (.ref (He.ga K "NoWord")) (.ref (He.ga K "Crooked")) = some false := kit_ok (ex_get T.e (List.mem_of_getElem? (show exL[109]? = some _ from rfl)))
theorem Tx.k_NoWord_Gap : PySem.W.kitOne K (.ref (He.ga K "NoWord")) (.ref (He.ga K "Gap")) = some false := kit_ok (ex_get T.e (List.mem_of_getElem? (show exL[110]? = some _ from rfl)))
theorem Tx.k_NoWord_Apart : PySem.W.kitOne K (.ref (He.ga K "NoWord")) (.ref (He.ga K "Apart")) = some false := kit_ok (ex_get T.e (List.mem_of_getElem? (show exL[111]? = some _ from rfl)))
theorem Tx.k_NoWord_Lacking : PySem.W.kitOne K (.ref (He.ga K "NoWord")) (.ref (He.ga K "Lacking")) = some false := kit_ok (ex_get T.e (List.mem_of_getElem? (show exL[112]? = some _ from rfl)))
theorem Tx.k_NoWord_NoWord : PySem.W.kitOne K (.ref (He.ga K "NoWord")) (.ref (He.ga K "NoWord")) = some true := kit_ok (ex_get T.e (List.mem_of_getElem? (show exL[113]? = some _ from rfl)))
theorem Tx.k_NoWord_NoBack : PySem.W.kitOne K (.ref (He.ga K "NoWord")) (.ref (He.ga K "NoBack")) = some false := kit_ok (ex_get T.e (List.mem_of_getElem? (show exL[114]? = some _ from rfl)))
theorem Tx.k_NoWord_NoBoard : PySem.W.kitOne K (.ref (He.ga K "NoWord")) (.ref (He.ga K "NoBoard")) = some false := kit_ok (ex_get T.e (List.mem_of_getElem? (show exL[115]? = some _ from rfl)))
theorem Tx.k_NoWord_NoDeed : PySem.W.kitOne K (.ref (He.ga K "NoWord")) (.ref (He.ga K "NoDeed")) = some false := kit_ok (ex_get T.e (List.mem_of_getElem? (show exL[116]? = some _ from rfl)))
theorem Tx.k_NoWord_NoRow : PySem.W.kitOne K (.ref (He.ga K "NoWord")) (.ref (He.ga K "NoRow")) = some false := kit_ok (ex_get T.e (List.mem_of_getElem? (show exL[117]? = some _ from rfl)))
theorem Tx.k_NoWord_NoText : PySem.W.kitOne K (.ref (He.ga K "NoWord")) (.ref (He.ga K "NoText")) = some false := kit_ok (ex_get T.e (List.mem_of_getElem? (show exL[118]? = some _ from rfl)))
theorem Tx.k_NoWord_Over : PySem.W.kitOne K (.ref (He.ga K "NoWord")) (.ref (He.ga K "Over")) = some false := kit_ok (ex_get T.e (List.mem_of_getElem? (show exL[119]? = some _ from rfl)))
theorem Tx.k_NoWord_TooFew : PySem.W.kitOne K (.ref (He.ga K "NoWord")) (.ref (He.ga K "TooFew")) = some false := kit_ok (ex_get T.e (List.mem_of_getElem? (show exL[120]? = some _ from rfl)))
theorem Tx.k_NoWord_Twice : PySem.W.kitOne K (.ref (He.ga K "NoWord")) (.ref (He.ga K "Twice")) = some false := kit_ok (ex_get T.e (List.mem_of_getElem? (show exL[121]? = some _ from rfl)))
theorem Tx.kv_NoWord : PySem.W.kitOne K (.ref (He.ga K "NoWord")) (.type "ValueError") = some true := kiv_ok (ex_get T.e (List.mem_of_getElem? (show exL[122]? = some _ from rfl)))
theorem Tx.up : ClX.CRead K (He.ga K "RackError") (.type "type") ∧ PySem.W.findCls K (.ref (He.ga K "RackError")) (.type "type") "__init__" = some (.val (.builtin "ValueError.__init__")) := base_ok (ex_get T.e (List.mem_of_getElem? (show exL[123]? = some _ from rfl)))
theorem Tx.fn_is_sign : ∃ f fd, mg "is_sign" = some (.ref f) ∧ FunD K "is_sign" "is_sign" (defArgs s_is_sign) (defBody s_is_sign) (defScope s_is_sign) [] [] f fd := by
  obtain ⟨fd, F⟩ := T.d.def_ 0 (d := ⟨("is_sign", none), "is_sign", "is_sign", defArgs s_is_sign, defBody s_is_sign, defScope s_is_sign, [], []⟩) rfl
  exact ⟨_, fd, T.c_is_sign, F⟩
theorem Tx.fn_letter_of : ∃ f fd, mg "letter_of" = some (.ref f) ∧ FunD K "letter_of" "letter_of" (defArgs s_letter_of) (defBody s_letter_of) (defScope s_letter_of) [] [] f fd := by
  obtain ⟨fd, F⟩ := T.d.def_ 1 (d := ⟨("letter_of", none), "letter_of", "letter_of", defArgs s_letter_of, defBody s_letter_of, defScope s_letter_of, [], []⟩) rfl
  exact ⟨_, fd, T.c_letter_of, F⟩
theorem Tx.fn_tile_of : ∃ f fd, mg "tile_of" = some (.ref f) ∧ FunD K "tile_of" "tile_of" (defArgs s_tile_of) (defBody s_tile_of) (defScope s_tile_of) [] [] f fd := by
  obtain ⟨fd, F⟩ := T.d.def_ 2 (d := ⟨("tile_of", none), "tile_of", "tile_of", defArgs s_tile_of, defBody s_tile_of, defScope s_tile_of, [], []⟩) rfl
  exact ⟨_, fd, T.c_tile_of, F⟩
theorem Tx.fn_without : ∃ f fd, mg "without" = some (.ref f) ∧ FunD K "without" "without" (defArgs s_without) (defBody s_without) (defScope s_without) [] [] f fd := by
  obtain ⟨fd, F⟩ := T.d.def_ 3 (d := ⟨("without", none), "without", "without", defArgs s_without, defBody s_without, defScope s_without, [], []⟩) rfl
  exact ⟨_, fd, T.c_without, F⟩
theorem Tx.fn_left_of : ∃ f fd, mg "left_of" = some (.ref f) ∧ FunD K "left_of" "left_of" (defArgs s_left_of) (defBody s_left_of) (defScope s_left_of) [] [] f fd := by
  obtain ⟨fd, F⟩ := T.d.def_ 4 (d := ⟨("left_of", none), "left_of", "left_of", defArgs s_left_of, defBody s_left_of, defScope s_left_of, [], []⟩) rfl
  exact ⟨_, fd, T.c_left_of, F⟩
theorem Tx.fn_is_place : ∃ f fd, mg "is_place" = some (.ref f) ∧ FunD K "is_place" "is_place" (defArgs s_is_place) (defBody s_is_place) (defScope s_is_place) [] [] f fd := by
  obtain ⟨fd, F⟩ := T.d.def_ 5 (d := ⟨("is_place", none), "is_place", "is_place", defArgs s_is_place, defBody s_is_place, defScope s_is_place, [], []⟩) rfl
  exact ⟨_, fd, T.c_is_place, F⟩
theorem Tx.fn_is_triple : ∃ f fd, mg "is_triple" = some (.ref f) ∧ FunD K "is_triple" "is_triple" (defArgs s_is_triple) (defBody s_is_triple) (defScope s_is_triple) [] [] f fd := by
  obtain ⟨fd, F⟩ := T.d.def_ 6 (d := ⟨("is_triple", none), "is_triple", "is_triple", defArgs s_is_triple, defBody s_is_triple, defScope s_is_triple, [], []⟩) rfl
  exact ⟨_, fd, T.c_is_triple, F⟩
theorem Tx.fn_is_laying : ∃ f fd, mg "is_laying" = some (.ref f) ∧ FunD K "is_laying" "is_laying" (defArgs s_is_laying) (defBody s_is_laying) (defScope s_is_laying) [] [] f fd := by
  obtain ⟨fd, F⟩ := T.d.def_ 7 (d := ⟨("is_laying", none), "is_laying", "is_laying", defArgs s_is_laying, defBody s_is_laying, defScope s_is_laying, [], []⟩) rfl
  exact ⟨_, fd, T.c_is_laying, F⟩
theorem Tx.fn_cells_of : ∃ f fd, mg "cells_of" = some (.ref f) ∧ FunD K "cells_of" "cells_of" (defArgs s_cells_of) (defBody s_cells_of) (defScope s_cells_of) [] [] f fd := by
  obtain ⟨fd, F⟩ := T.d.def_ 8 (d := ⟨("cells_of", none), "cells_of", "cells_of", defArgs s_cells_of, defBody s_cells_of, defScope s_cells_of, [], []⟩) rfl
  exact ⟨_, fd, T.c_cells_of, F⟩
theorem Tx.fn_way_of : ∃ f fd, mg "way_of" = some (.ref f) ∧ FunD K "way_of" "way_of" (defArgs s_way_of) (defBody s_way_of) (defScope s_way_of) [] [] f fd := by
  obtain ⟨fd, F⟩ := T.d.def_ 9 (d := ⟨("way_of", none), "way_of", "way_of", defArgs s_way_of, defBody s_way_of, defScope s_way_of, [], []⟩) rfl
  exact ⟨_, fd, T.c_way_of, F⟩
theorem Tx.fn_formed : ∃ f fd, mg "formed" = some (.ref f) ∧ FunD K "formed" "formed" (defArgs s_formed) (defBody s_formed) (defScope s_formed) [] [] f fd := by
  obtain ⟨fd, F⟩ := T.d.def_ 10 (d := ⟨("formed", none), "formed", "formed", defArgs s_formed, defBody s_formed, defScope s_formed, [], []⟩) rfl
  exact ⟨_, fd, T.c_formed, F⟩
theorem Tx.fn_between : ∃ f fd, mg "between" = some (.ref f) ∧ FunD K "between" "between" (defArgs s_between) (defBody s_between) (defScope s_between) [] [] f fd := by
  obtain ⟨fd, F⟩ := T.d.def_ 11 (d := ⟨("between", none), "between", "between", defArgs s_between, defBody s_between, defScope s_between, [], []⟩) rfl
  exact ⟨_, fd, T.c_between, F⟩
theorem Tx.fn_is_joined : ∃ f fd, mg "is_joined" = some (.ref f) ∧ FunD K "is_joined" "is_joined" (defArgs s_is_joined) (defBody s_is_joined) (defScope s_is_joined) [] [] f fd := by
  obtain ⟨fd, F⟩ := T.d.def_ 12 (d := ⟨("is_joined", none), "is_joined", "is_joined", defArgs s_is_joined, defBody s_is_joined, defScope s_is_joined, [], []⟩) rfl
  exact ⟨_, fd, T.c_is_joined, F⟩
theorem Tx.fn_check_cells : ∃ f fd, mg "check_cells" = some (.ref f) ∧ FunD K "check_cells" "check_cells" (defArgs s_check_cells) (defBody s_check_cells) (defScope s_check_cells) [] [] f fd := by
  obtain ⟨fd, F⟩ := T.d.def_ 13 (d := ⟨("check_cells", none), "check_cells", "check_cells", defArgs s_check_cells, defBody s_check_cells, defScope s_check_cells, [], []⟩) rfl
  exact ⟨_, fd, T.c_check_cells, F⟩
theorem Tx.fn_check_laying : ∃ f fd, mg "check_laying" = some (.ref f) ∧ FunD K "check_laying" "check_laying" (defArgs s_check_laying) (defBody s_check_laying) (defScope s_check_laying) [] [] f fd := by
  obtain ⟨fd, F⟩ := T.d.def_ 14 (d := ⟨("check_laying", none), "check_laying", "check_laying", defArgs s_check_laying, defBody s_check_laying, defScope s_check_laying, [], []⟩) rfl
  exact ⟨_, fd, T.c_check_laying, F⟩
theorem Tx.fn_is_whole : ∃ f fd, mg "is_whole" = some (.ref f) ∧ FunD K "is_whole" "is_whole" (defArgs s_is_whole) (defBody s_is_whole) (defScope s_is_whole) [] [] f fd := by
  obtain ⟨fd, F⟩ := T.d.def_ 15 (d := ⟨("is_whole", none), "is_whole", "is_whole", defArgs s_is_whole, defBody s_is_whole, defScope s_is_whole, [], []⟩) rfl
  exact ⟨_, fd, T.c_is_whole, F⟩
theorem Tx.fn_are_rows : ∃ f fd, mg "are_rows" = some (.ref f) ∧ FunD K "are_rows" "are_rows" (defArgs s_are_rows) (defBody s_are_rows) (defScope s_are_rows) [] [] f fd := by
  obtain ⟨fd, F⟩ := T.d.def_ 16 (d := ⟨("are_rows", none), "are_rows", "are_rows", defArgs s_are_rows, defBody s_are_rows, defScope s_are_rows, [], []⟩) rfl
  exact ⟨_, fd, T.c_are_rows, F⟩
theorem Tx.fn_is_cell : ∃ f fd, mg "is_cell" = some (.ref f) ∧ FunD K "is_cell" "is_cell" (defArgs s_is_cell) (defBody s_is_cell) (defScope s_is_cell) [] [] f fd := by
  obtain ⟨fd, F⟩ := T.d.def_ 17 (d := ⟨("is_cell", none), "is_cell", "is_cell", defArgs s_is_cell, defBody s_is_cell, defScope s_is_cell, [], []⟩) rfl
  exact ⟨_, fd, T.c_is_cell, F⟩
theorem Tx.fn_turned_rows : ∃ f fd, mg "turned_rows" = some (.ref f) ∧ FunD K "turned_rows" "turned_rows" (defArgs s_turned_rows) (defBody s_turned_rows) (defScope s_turned_rows) [] [] f fd := by
  obtain ⟨fd, F⟩ := T.d.def_ 18 (d := ⟨("turned_rows", none), "turned_rows", "turned_rows", defArgs s_turned_rows, defBody s_turned_rows, defScope s_turned_rows, [], []⟩) rfl
  exact ⟨_, fd, T.c_turned_rows, F⟩
theorem Tx.fn_check_word : ∃ f fd, mg "check_word" = some (.ref f) ∧ FunD K "check_word" "check_word" (defArgs s_check_word) (defBody s_check_word) (defScope s_check_word) [] [] f fd := by
  obtain ⟨fd, F⟩ := T.d.def_ 19 (d := ⟨("check_word", none), "check_word", "check_word", defArgs s_check_word, defBody s_check_word, defScope s_check_word, [], []⟩) rfl
  exact ⟨_, fd, T.c_check_word, F⟩
theorem Tx.fn_law_cell_at : ∃ f fd, mg "_law_cell_at" = some (.ref f) ∧ FunD K "_law_cell_at" "_law_cell_at" (defArgs s_law_cell_at) (defBody s_law_cell_at) (defScope s_law_cell_at) [] [] f fd := by
  obtain ⟨fd, F⟩ := T.d.def_ 20 (d := ⟨("_law_cell_at", none), "_law_cell_at", "_law_cell_at", defArgs s_law_cell_at, defBody s_law_cell_at, defScope s_law_cell_at, [], []⟩) rfl
  exact ⟨_, fd, T.c_law_cell_at, F⟩
theorem Tx.fn_law_take : ∃ f fd, mg "_law_take" = some (.ref f) ∧ FunD K "_law_take" "_law_take" (defArgs s_law_take) (defBody s_law_take) (defScope s_law_take) [] [] f fd := by
  obtain ⟨fd, F⟩ := T.d.def_ 21 (d := ⟨("_law_take", none), "_law_take", "_law_take", defArgs s_law_take, defBody s_law_take, defScope s_law_take, [], []⟩) rfl
  exact ⟨_, fd, T.c_law_take, F⟩
theorem Tx.fn_law_rest : ∃ f fd, mg "_law_rest" = some (.ref f) ∧ FunD K "_law_rest" "_law_rest" (defArgs s_law_rest) (defBody s_law_rest) (defScope s_law_rest) [] [] f fd := by
  obtain ⟨fd, F⟩ := T.d.def_ 22 (d := ⟨("_law_rest", none), "_law_rest", "_law_rest", defArgs s_law_rest, defBody s_law_rest, defScope s_law_rest, [], []⟩) rfl
  exact ⟨_, fd, T.c_law_rest, F⟩
theorem Tx.fn_law_letters : ∃ f fd, mg "_law_letters" = some (.ref f) ∧ FunD K "_law_letters" "_law_letters" (defArgs s_law_letters) (defBody s_law_letters) (defScope s_law_letters) [] [] f fd := by
  obtain ⟨fd, F⟩ := T.d.def_ 23 (d := ⟨("_law_letters", none), "_law_letters", "_law_letters", defArgs s_law_letters, defBody s_law_letters, defScope s_law_letters, [], []⟩) rfl
  exact ⟨_, fd, T.c_law_letters, F⟩
theorem Tx.fn_law_sign : ∃ f fd, mg "_law_sign" = some (.ref f) ∧ FunD K "_law_sign" "_law_sign" (defArgs s_law_sign) (defBody s_law_sign) (defScope s_law_sign) [] [] f fd := by
  obtain ⟨fd, F⟩ := T.d.def_ 24 (d := ⟨("_law_sign", none), "_law_sign", "_law_sign", defArgs s_law_sign, defBody s_law_sign, defScope s_law_sign, [], []⟩) rfl
  exact ⟨_, fd, T.c_law_sign, F⟩
theorem Tx.fn_law_rows : ∃ f fd, mg "_law_rows" = some (.ref f) ∧ FunD K "_law_rows" "_law_rows" (defArgs s_law_rows) (defBody s_law_rows) (defScope s_law_rows) [] [] f fd := by
  obtain ⟨fd, F⟩ := T.d.def_ 25 (d := ⟨("_law_rows", none), "_law_rows", "_law_rows", defArgs s_law_rows, defBody s_law_rows, defScope s_law_rows, [], []⟩) rfl
  exact ⟨_, fd, T.c_law_rows, F⟩
theorem Tx.fn_law_marks : ∃ f fd, mg "_law_marks" = some (.ref f) ∧ FunD K "_law_marks" "_law_marks" (defArgs s_law_marks) (defBody s_law_marks) (defScope s_law_marks) [] [] f fd := by
  obtain ⟨fd, F⟩ := T.d.def_ 26 (d := ⟨("_law_marks", none), "_law_marks", "_law_marks", defArgs s_law_marks, defBody s_law_marks, defScope s_law_marks, [], []⟩) rfl
  exact ⟨_, fd, T.c_law_marks, F⟩
theorem Tx.fn_law_begin : ∃ f fd, mg "_law_begin" = some (.ref f) ∧ FunD K "_law_begin" "_law_begin" (defArgs s_law_begin) (defBody s_law_begin) (defScope s_law_begin) [] [] f fd := by
  obtain ⟨fd, F⟩ := T.d.def_ 27 (d := ⟨("_law_begin", none), "_law_begin", "_law_begin", defArgs s_law_begin, defBody s_law_begin, defScope s_law_begin, [], []⟩) rfl
  exact ⟨_, fd, T.c_law_begin, F⟩
theorem Tx.fn_law_grid : ∃ f fd, mg "_law_grid" = some (.ref f) ∧ FunD K "_law_grid" "_law_grid" (defArgs s_law_grid) (defBody s_law_grid) (defScope s_law_grid) [] [] f fd := by
  obtain ⟨fd, F⟩ := T.d.def_ 28 (d := ⟨("_law_grid", none), "_law_grid", "_law_grid", defArgs s_law_grid, defBody s_law_grid, defScope s_law_grid, [], []⟩) rfl
  exact ⟨_, fd, T.c_law_grid, F⟩
theorem Tx.fn_law_run : ∃ f fd, mg "_law_run" = some (.ref f) ∧ FunD K "_law_run" "_law_run" (defArgs s_law_run) (defBody s_law_run) (defScope s_law_run) [] [] f fd := by
  obtain ⟨fd, F⟩ := T.d.def_ 29 (d := ⟨("_law_run", none), "_law_run", "_law_run", defArgs s_law_run, defBody s_law_run, defScope s_law_run, [], []⟩) rfl
  exact ⟨_, fd, T.c_law_run, F⟩
theorem Tx.fn_law_words : ∃ f fd, mg "_law_words" = some (.ref f) ∧ FunD K "_law_words" "_law_words" (defArgs s_law_words) (defBody s_law_words) (defScope s_law_words) [] [] f fd := by
  obtain ⟨fd, F⟩ := T.d.def_ 30 (d := ⟨("_law_words", none), "_law_words", "_law_words", defArgs s_law_words, defBody s_law_words, defScope s_law_words, [], []⟩) rfl
  exact ⟨_, fd, T.c_law_words, F⟩
theorem Tx.fn_law_is_near : ∃ f fd, mg "_law_is_near" = some (.ref f) ∧ FunD K "_law_is_near" "_law_is_near" (defArgs s_law_is_near) (defBody s_law_is_near) (defScope s_law_is_near) [] [] f fd := by
  obtain ⟨fd, F⟩ := T.d.def_ 31 (d := ⟨("_law_is_near", none), "_law_is_near", "_law_is_near", defArgs s_law_is_near, defBody s_law_is_near, defScope s_law_is_near, [], []⟩) rfl
  exact ⟨_, fd, T.c_law_is_near, F⟩
theorem Tx.fn_law_starts : ∃ f fd, mg "_law_starts" = some (.ref f) ∧ FunD K "_law_starts" "_law_starts" (defArgs s_law_starts) (defBody s_law_starts) (defScope s_law_starts) [] [] f fd := by
  obtain ⟨fd, F⟩ := T.d.def_ 32 (d := ⟨("_law_starts", none), "_law_starts", "_law_starts", defArgs s_law_starts, defBody s_law_starts, defScope s_law_starts, [], []⟩) rfl
  exact ⟨_, fd, T.c_law_starts, F⟩
theorem Tx.fn_law_straight : ∃ f fd, mg "_law_straight" = some (.ref f) ∧ FunD K "_law_straight" "_law_straight" (defArgs s_law_straight) (defBody s_law_straight) (defScope s_law_straight) [] [] f fd := by
  obtain ⟨fd, F⟩ := T.d.def_ 33 (d := ⟨("_law_straight", none), "_law_straight", "_law_straight", defArgs s_law_straight, defBody s_law_straight, defScope s_law_straight, [], []⟩) rfl
  exact ⟨_, fd, T.c_law_straight, F⟩
theorem Tx.fn_law_joined : ∃ f fd, mg "_law_joined" = some (.ref f) ∧ FunD K "_law_joined" "_law_joined" (defArgs s_law_joined) (defBody s_law_joined) (defScope s_law_joined) [] [] f fd := by
  obtain ⟨fd, F⟩ := T.d.def_ 34 (d := ⟨("_law_joined", none), "_law_joined", "_law_joined", defArgs s_law_joined, defBody s_law_joined, defScope s_law_joined, [], []⟩) rfl
  exact ⟨_, fd, T.c_law_joined, F⟩
theorem Tx.fn_law_cells_due : ∃ f fd, mg "_law_cells_due" = some (.ref f) ∧ FunD K "_law_cells_due" "_law_cells_due" (defArgs s_law_cells_due) (defBody s_law_cells_due) (defScope s_law_cells_due) [] [] f fd := by
  obtain ⟨fd, F⟩ := T.d.def_ 35 (d := ⟨("_law_cells_due", none), "_law_cells_due", "_law_cells_due", defArgs s_law_cells_due, defBody s_law_cells_due, defScope s_law_cells_due, [], []⟩) rfl
  exact ⟨_, fd, T.c_law_cells_due, F⟩
theorem Tx.fn_law_class : ∃ f fd, mg "_law_class" = some (.ref f) ∧ FunD K "_law_class" "_law_class" (defArgs s_law_class) (defBody s_law_class) (defScope s_law_class) [] [] f fd := by
  obtain ⟨fd, F⟩ := T.d.def_ 36 (d := ⟨("_law_class", none), "_law_class", "_law_class", defArgs s_law_class, defBody s_law_class, defScope s_law_class, [], []⟩) rfl
  exact ⟨_, fd, T.c_law_class, F⟩
theorem Tx.fn_law_caught : ∃ f fd, mg "_law_caught" = some (.ref f) ∧ FunD K "_law_caught" "_law_caught" (defArgs s_law_caught) (defBody s_law_caught) (defScope s_law_caught) [] [] f fd := by
  obtain ⟨fd, F⟩ := T.d.def_ 37 (d := ⟨("_law_caught", none), "_law_caught", "_law_caught", defArgs s_law_caught, defBody s_law_caught, defScope s_law_caught, [], []⟩) rfl
  exact ⟨_, fd, T.c_law_caught, F⟩
theorem Tx.fn_law_bent : ∃ f fd, mg "_law_bent" = some (.ref f) ∧ FunD K "_law_bent" "_law_bent" (defArgs s_law_bent) (defBody s_law_bent) (defScope s_law_bent) [] [] f fd := by
  obtain ⟨fd, F⟩ := T.d.def_ 38 (d := ⟨("_law_bent", none), "_law_bent", "_law_bent", defArgs s_law_bent, defBody s_law_bent, defScope s_law_bent, [], []⟩) rfl
  exact ⟨_, fd, T.c_law_bent, F⟩
theorem Tx.fn_law_rack : ∃ f fd, mg "_law_rack" = some (.ref f) ∧ FunD K "_law_rack" "_law_rack" (defArgs s_law_rack) (defBody s_law_rack) (defScope s_law_rack) [] [] f fd := by
  obtain ⟨fd, F⟩ := T.d.def_ 39 (d := ⟨("_law_rack", none), "_law_rack", "_law_rack", defArgs s_law_rack, defBody s_law_rack, defScope s_law_rack, [], []⟩) rfl
  exact ⟨_, fd, T.c_law_rack, F⟩
theorem Tx.fn_law_known : ∃ f fd, mg "_law_known" = some (.ref f) ∧ FunD K "_law_known" "_law_known" (defArgs s_law_known) (defBody s_law_known) (defScope s_law_known) [] [] f fd := by
  obtain ⟨fd, F⟩ := T.d.def_ 40 (d := ⟨("_law_known", none), "_law_known", "_law_known", defArgs s_law_known, defBody s_law_known, defScope s_law_known, [], []⟩) rfl
  exact ⟨_, fd, T.c_law_known, F⟩
theorem Tx.fn_law_turned : ∃ f fd, mg "_law_turned" = some (.ref f) ∧ FunD K "_law_turned" "_law_turned" (defArgs s_law_turned) (defBody s_law_turned) (defScope s_law_turned) [] [] f fd := by
  obtain ⟨fd, F⟩ := T.d.def_ 41 (d := ⟨("_law_turned", none), "_law_turned", "_law_turned", defArgs s_law_turned, defBody s_law_turned, defScope s_law_turned, [], []⟩) rfl
  exact ⟨_, fd, T.c_law_turned, F⟩
theorem Tx.fn_law_same_words : ∃ f fd, mg "_law_same_words" = some (.ref f) ∧ FunD K "_law_same_words" "_law_same_words" (defArgs s_law_same_words) (defBody s_law_same_words) (defScope s_law_same_words) [] [] f fd := by
  obtain ⟨fd, F⟩ := T.d.def_ 42 (d := ⟨("_law_same_words", none), "_law_same_words", "_law_same_words", defArgs s_law_same_words, defBody s_law_same_words, defScope s_law_same_words, [], []⟩) rfl
  exact ⟨_, fd, T.c_law_same_words, F⟩
theorem Tx.fn_law : ∃ f fd, mg "law" = some (.ref f) ∧ FunD K "law" "law" (defArgs s_law) (defBody s_law) (defScope s_law) [] [] f fd := by
  obtain ⟨fd, F⟩ := T.d.def_ 43 (d := ⟨("law", none), "law", "law", defArgs s_law, defBody s_law, defScope s_law, [], []⟩) rfl
  exact ⟨_, fd, T.c_law, F⟩
theorem Tx.fn_NoWord_init : ∃ fd, FunD K "__init__" "NoWord.__init__" (defArgs s_NoWord_init) (defBody s_NoWord_init) (defScope s_NoWord_init) [] [] (He.ma K (He.ga K "NoWord") "__init__") fd := T.d.def_ 44 (d := ⟨("NoWord", some "__init__"), "__init__", "NoWord.__init__", defArgs s_NoWord_init, defBody s_NoWord_init, defScope s_NoWord_init, [], []⟩) rfl
theorem Tx.fn_Taken_init : ∃ fd, FunD K "__init__" "Taken.__init__" (defArgs s_Taken_init) (defBody s_Taken_init) (defScope s_Taken_init) [] [] (He.ma K (He.ga K "Taken") "__init__") fd := T.d.def_ 45 (d := ⟨("Taken", some "__init__"), "__init__", "Taken.__init__", defArgs s_Taken_init, defBody s_Taken_init, defScope s_Taken_init, [], []⟩) rfl
theorem Tx.fn_Gap_init : ∃ fd, FunD K "__init__" "Gap.__init__" (defArgs s_Gap_init) (defBody s_Gap_init) (defScope s_Gap_init) [] [] (He.ma K (He.ga K "Gap") "__init__") fd := T.d.def_ 46 (d := ⟨("Gap", some "__init__"), "__init__", "Gap.__init__", defArgs s_Gap_init, defBody s_Gap_init, defScope s_Gap_init, [], []⟩) rfl
theorem Tx.fn_Lacking_init : ∃ fd, FunD K "__init__" "Lacking.__init__" (defArgs s_Lacking_init) (defBody s_Lacking_init) (defScope s_Lacking_init) [] [] (He.ma K (He.ga K "Lacking") "__init__") fd := T.d.def_ 47 (d := ⟨("Lacking", some "__init__"), "__init__", "Lacking.__init__", defArgs s_Lacking_init, defBody s_Lacking_init, defScope s_Lacking_init, [], []⟩) rfl
theorem Tx.fn_Board_init : ∃ fd, FunD K "__init__" "Board.__init__" (defArgs s_Board_init) (defBody s_Board_init) (defScope s_Board_init) [] [] (He.ma K (He.ga K "Board") "__init__") fd := T.d.def_ 48 (d := ⟨("Board", some "__init__"), "__init__", "Board.__init__", defArgs s_Board_init, defBody s_Board_init, defScope s_Board_init, [], []⟩) rfl
theorem Tx.fn_Board_at : ∃ fd, FunD K "at" "Board.at" (defArgs s_Board_at) (defBody s_Board_at) (defScope s_Board_at) [] [] (He.ma K (He.ga K "Board") "at") fd := T.d.def_ 49 (d := ⟨("Board", some "at"), "at", "Board.at", defArgs s_Board_at, defBody s_Board_at, defScope s_Board_at, [], []⟩) rfl
theorem Tx.fn_Board_is_free : ∃ fd, FunD K "is_free" "Board.is_free" (defArgs s_Board_is_free) (defBody s_Board_is_free) (defScope s_Board_is_free) [] [] (He.ma K (He.ga K "Board") "is_free") fd := T.d.def_ 50 (d := ⟨("Board", some "is_free"), "is_free", "Board.is_free", defArgs s_Board_is_free, defBody s_Board_is_free, defScope s_Board_is_free, [], []⟩) rfl
theorem Tx.fn_Board_run : ∃ fd, FunD K "run" "Board.run" (defArgs s_Board_run) (defBody s_Board_run) (defScope s_Board_run) [] [] (He.ma K (He.ga K "Board") "run") fd := T.d.def_ 51 (d := ⟨("Board", some "run"), "run", "Board.run", defArgs s_Board_run, defBody s_Board_run, defScope s_Board_run, [], []⟩) rfl
theorem Tx.fn_Board_turned : ∃ fd, FunD K "turned" "Board.turned" (defArgs s_Board_turned) (defBody s_Board_turned) (defScope s_Board_turned) [] [] (He.ma K (He.ga K "Board") "turned") fd := T.d.def_ 52 (d := ⟨("Board", some "turned"), "turned", "Board.turned", defArgs s_Board_turned, defBody s_Board_turned, defScope s_Board_turned, [], []⟩) rfl
theorem Tx.fn_Board_laid : ∃ fd, FunD K "laid" "Board.laid" (defArgs s_Board_laid) (defBody s_Board_laid) (defScope s_Board_laid) [] [] (He.ma K (He.ga K "Board") "laid") fd := T.d.def_ 53 (d := ⟨("Board", some "laid"), "laid", "Board.laid", defArgs s_Board_laid, defBody s_Board_laid, defScope s_Board_laid, [], []⟩) rfl
theorem Tx.fn_Book_init : ∃ fd, FunD K "__init__" "Book.__init__" (defArgs s_Book_init) (defBody s_Book_init) (defScope s_Book_init) [] [] (He.ma K (He.ga K "Book") "__init__") fd := T.d.def_ 54 (d := ⟨("Book", some "__init__"), "__init__", "Book.__init__", defArgs s_Book_init, defBody s_Book_init, defScope s_Book_init, [], []⟩) rfl
theorem Tx.fn_Book_has : ∃ fd, FunD K "has" "Book.has" (defArgs s_Book_has) (defBody s_Book_has) (defScope s_Book_has) [] [] (He.ma K (He.ga K "Book") "has") fd := T.d.def_ 55 (d := ⟨("Book", some "has"), "has", "Book.has", defArgs s_Book_has, defBody s_Book_has, defScope s_Book_has, [], []⟩) rfl
end
/-! ### texts written in a def -/
theorem pe_lit {X : Cx} (l : List Nat) {z : Str} {j : Nat} {pos : Pos} (h : z = mk l) : PE X (.Constant (.str z) j pos) (tC (.str (mk l))) := by
  subst h
  exact pe_str
/-! ### an own error with a maker of its own, made -/
structure ErrOk (P : Program) (w : World) (K : PySem.W.Frag) (mg : Str → Option Value) (base : Heap) (x : Str) (k : Nat) (ps : List Str) (sp : Sp) : Prop where
  ex : ∃ fd, mg x = some (.ref (He.ga K x)) ∧ Binds K fd ps [] ∧ FnOk P w K mg base CX0 k (He.ma K (He.ga K x) "__init__") fd ps sp
theorem pe_err {X : Cx} {x : Str} {k : Nat} {ps : List Str} {sp : Sp} {e : Expr} {es : List Expr} {ta : TA} {p pos : Pos} (c : ErrOk X.prog X.w X.K X.mg X.base x k ps sp)
    (u : OexC X.K (He.ga X.K x) ∧ PySem.W.findIn X.K (.ref (He.ga X.K x)) "__init__" = some (some (.ref (He.ma X.K (He.ga X.K x) "__init__"))) ∧ PySem.W.typeIn X.K (.ref (He.ma X.K (He.ga X.K x) "__init__")) = some (.type "function"))
    (hr : Room (k + 1) X.A) (ha : PA X (e :: es) ta) (hg : Gl X x := by rfl) (hdb : (x == ("__debug__" : Str)) = false := by decide) (he : starEach (e :: es) X.env = (false, eval e X.env) :: starEach es X.env := by rfl)
    (hpl : (backTo pos (starEach es X.env)).any (·.1) = false := by rfl) : PMk X (.Call (.Name x p) (e :: es) [] pos) (tMkO (He.ga X.K x) sp [] ta) := by
  obtain ⟨fd, h1, h2, h3⟩ := c.ex
  exact pmk_oex u.1 u.2.1 u.2.2 h3 hr h2 .nil pass0 hg h1 ha hdb he hpl
/-! ### list(a text) -/
def rLstS : List V → Hp → VK → Prop := fun xs H Q => ∃ cs : List Nat, xs = [V.str (mk cs)] ∧ cs.length ≤ 1000 ∧ ∀ l, H l = none → Q (.ref l) (upd H l (.lst (cs.map fun c => V.str (mk [c]))))
theorem b_lstS {X : Cx} (hc : X.calm = true) : CallR X (.type "list") rLstS := by
  intro pins s σ H xs us Q I r h
  obtain ⟨cs, rfl, hlen, q⟩ := h
  obtain ⟨u, rfl, t, rfl⟩ := Vals.one r
  have hsz : (mk cs).cps.size ≤ sizeLine := by rw [sizeLine_eq]; show cs.toArray.size ≤ _; rw [List.size_toArray]; omega
  refine PySem.call_list_str (I.ok.hd hc) (mk cs) t (fun h' tk acc c' hk hl hi => ?_) hsz
  have hal : acc.toList.length = cs.length := by
    have := hi.1
    rw [Array.length_toList, this]
    show cs.toArray.size = _
    rw [List.size_toArray]
  have hE : PySem.W.EachIs (fun u (c : Nat) => RelV (V.str (mk [c])) u) acc.toList cs := signs_vals hal fun j v hj => by
    obtain ⟨c, u, e1, e2⟩ := hi.2 j v (by simpa using hj)
    exact ⟨c, u, by simpa using e1, e2⟩
  have hln : (cs.map fun c => V.str (mk [c])).length ≤ sizeLine := by rw [List.length_map, sizeLine_eq]; omega
  exact ⟨.ref _, upd H s.heap.objs.size (.lst _), I.laid (t' := tk) (h' := h') hk (Nat.le_refl _) ⟨hln, acc.toList, c', vals_signs hE, hl⟩, rfl, q _ I.fresh⟩
/-! ### a def of the text keeps a promise -/
section
variable {P : Program} {w : World} {K : PySem.W.Frag} {mg : Str → Option Value} {base : Heap} {x q : Str} {st : Stmt} {N ps : List Str} {k : Nat} {sp : Sp}
abbrev BindP (x q : Str) (st : Stmt) (ps : List Str) : Prop := ∀ (kV doc pm : Value) (an : Option Addr) (cdv ct : Value) (us : List Value), us.length = ps.length → bindArgs (PySem.W.fnOf x q (defArgs st) (defBody st) (defScope st) .none kV doc pm an cdv ct) ⟨us, []⟩ = pure (ps.zip us)
/-- no error leaves it -/
abbrev BodyP (P : Program) (w : World) (K : PySem.W.Frag) (mg : Str → Option Value) (base : Heap) (q : Str) (st : Stmt) (f : Addr) (N : List Str) (k : Nat) (sp : Sp) : Prop :=
  ∀ (cdv : Value) (A : Around) (outer : List Env) (s : Shared) (H : Hp) (vs : List V) (Q : VK) (E : XK), Room k (A.deeper (envOfC q (defScope st) s.heap.objs.size f cdv)) → sp vs H Q E →
    ∃ t, PSs (cxOf CX0 P w K mg base N q (defScope st) f cdv A outer s H E).nox (defBody st) t ∧ t ⟨fun _ H' => Q .non H', Q, fun _ _ => False, fun _ _ => False⟩ (start N vs) H
abbrev BodyX (P : Program) (w : World) (K : PySem.W.Frag) (mg : Str → Option Value) (base : Heap) (q : Str) (st : Stmt) (f : Addr) (N : List Str) (k : Nat) (sp : Sp) : Prop :=
  ∀ (cdv : Value) (A : Around) (outer : List Env) (s : Shared) (H : Hp) (vs : List V) (Q : VK) (E : XK), Room k (A.deeper (envOfC q (defScope st) s.heap.objs.size f cdv)) → sp vs H Q E →
    ∃ t, PSs (cxOf (L2.CX P w) P w K mg base N q (defScope st) f cdv A outer s H E) (defBody st) t ∧ t ⟨fun _ H' => Q .non H', Q, fun _ _ => False, fun _ _ => False⟩ (start N vs) H
theorem fn0 {f : Addr} {fd : FuncData} (F : FunD K x q (defArgs st) (defBody st) (defScope st) [] [] f fd) (S : FnScope N ps (defScope st)) (len : ∀ vs H Q E, sp vs H Q E → vs.length = ps.length) (b : BodyP P w K mg base q st f N k sp) :
    FnOk P w K mg base CX0 (k + 1) f fd ps sp := F.ok S len fun cdv A outer s H vs Q E hr h => by
  obtain ⟨t, h1, h2⟩ := b cdv A outer s H vs Q E hr h
  exact ⟨t, h1.nox, h2⟩
theorem def0 (h : ∃ f fd, mg x = some (.ref f) ∧ FunD K x x (defArgs st) (defBody st) (defScope st) [] [] f fd) (S : FnScope N ps (defScope st)) (hb : BindP x x st ps) (len : ∀ vs H Q E, sp vs H Q E → vs.length = ps.length)
    (b : ∀ f, BodyP P w K mg base x st f N k sp) : DefOk P w K mg base CX0 x (k + 1) ps sp := by
  obtain ⟨f, fd, h1, F⟩ := h
  exact ⟨f, fd, h1, F.kp, F.bindsN hb, fn0 F S len (b f)⟩
theorem defX (h : ∃ f fd, mg x = some (.ref f) ∧ FunD K x x (defArgs st) (defBody st) (defScope st) [] [] f fd) (S : FnScope N ps (defScope st)) (hb : BindP x x st ps) (len : ∀ vs H Q E, sp vs H Q E → vs.length = ps.length)
    (b : ∀ f, BodyX P w K mg base x st f N k sp) : DefOk P w K mg base (L2.CX P w) x (k + 1) ps sp := by
  obtain ⟨f, fd, h1, F⟩ := h
  exact ⟨f, fd, h1, F.kp, F.bindsN hb, F.ok S len (b f)⟩
theorem meth0 {C : Addr} {f : Addr} (m : Meth K C x f) (h : ∃ fd, FunD K x q (defArgs st) (defBody st) (defScope st) [] [] f fd) (S : FnScope N ps (defScope st)) (hb : BindP x q st ps) (len : ∀ vs H Q E, sp vs H Q E → vs.length = ps.length)
    (b : ∀ f, BodyP P w K mg base q st f N k sp) : MethOk P w K mg base CX0 C x (k + 1) ps sp := by
  obtain ⟨fd, F⟩ := h
  exact ⟨f, fd, m, F.bindsN hb, fn0 F S len (b f)⟩
theorem make0 {C f : Addr} {y : Str} (g : mg y = some (.ref C)) (m : Mk K C f) (h : ∃ fd, FunD K x q (defArgs st) (defBody st) (defScope st) [] [] f fd) (S : FnScope N ps (defScope st)) (hb : BindP x q st ps) (len : ∀ vs H Q E, sp vs H Q E → vs.length = ps.length)
    (b : ∀ f, BodyP P w K mg base q st f N k sp) : MakeOk P w K mg base CX0 C y (k + 1) ps sp := by
  obtain ⟨fd, F⟩ := h
  exact ⟨f, fd, g, m, F.bindsN hb, fn0 F S len (b f)⟩
theorem err0 {y : Str} (g : mg y = some (.ref (He.ga K y))) (h : ∃ fd, FunD K x q (defArgs st) (defBody st) (defScope st) [] [] (He.ma K (He.ga K y) "__init__") fd) (S : FnScope N ps (defScope st)) (hb : BindP x q st ps) (len : ∀ vs H Q E, sp vs H Q E → vs.length = ps.length)
    (b : ∀ f, BodyP P w K mg base q st f N k sp) : ErrOk P w K mg base y (k + 1) ps sp := by
  obtain ⟨fd, F⟩ := h
  exact ⟨fd, g, F.bindsN hb, fn0 F S len (b _)⟩
end

/-! ### what the program reckons, in plain Lean -/
def isSg (c : Nat) : Bool := decide (c ∈ lowL ++ greL)
def lowC (c : Nat) : Nat := if c ∈ greL then c + 32 else c
def tilC (c : Nat) : Nat := if c ∈ greL then 63 else c
abbrev Grid := List (List Nat)
structure GridOk (g : Grid) (h w : Nat) : Prop where
  len : g.length = h
  row : ∀ r ∈ g, r.length = w
  h1 : 1 ≤ h
  h9 : h ≤ 9
  w1 : 1 ≤ w
  w9 : w ≤ 9
  sg : ∀ r ∈ g, ∀ c ∈ r, c = 46 ∨ isSg c = true
structure MarkOk (m : Grid) (h w : Nat) : Prop where
  len : m.length = h
  row : ∀ r ∈ m, r.length = w
  mks : ∀ r ∈ m, ∀ c ∈ r, c ∈ markL
def cel (t : Tri) : Cel := (t.1, t.2.1)
def cLt (a b : Cel) : Prop := a.1 < b.1 ∨ (a.1 = b.1 ∧ a.2 < b.2)
structure LayOk (h w : Nat) (L : List Tri) : Prop where
  ne : L ≠ []
  few : L.length ≤ 7
  inn : ∀ t ∈ L, t.1 < h ∧ t.2.1 < w ∧ isSg t.2.2 = true
  asc : L.Pairwise fun a b => cLt (cel a) (cel b)
def atN (g : Grid) (r c : Nat) : Nat := (g.getD r []).getD c 46
def atI (g : Grid) (r c : Int) : Nat := if 0 ≤ r ∧ 0 ≤ c then atN g r.toNat c.toNat else 46
def freeM (g : Grid) : Bool := g.all fun r => r.all fun c => decide (c = 46)
def setG (g : Grid) (r c s : Nat) : Grid := g.set r ((g.getD r []).set c s)
def laidM (g : Grid) (L : List Tri) : Grid := L.foldl (fun g t => setG g t.1 t.2.1 t.2.2) g
/-- the rows and columns exchanged -/
def trG (w : Nat) (g : Grid) : Grid := (List.range w).map fun c => g.map fun r => r.getD c 46
def backF (a : Grid) (dn ac : Nat) : Nat → Nat → Nat → Nat × Nat
  | 0, r, c => (r, c)
  | n + 1, r, c => if dn ≤ r ∧ ac ≤ c ∧ atN a (r - dn) (c - ac) ≠ 46 then backF a dn ac n (r - dn) (c - ac) else (r, c)
def fwdF (a : Grid) (dn ac : Nat) : Nat → Nat → Nat → List Nat
  | 0, _, _ => []
  | n + 1, r, c => if atN a r c ≠ 46 then atN a r c :: fwdF a dn ac n (r + dn) (c + ac) else []
/-- the run of a cell in a way, as it is told -/
def runM (a : Grid) (r c way : Nat) : Nat × Nat × List Nat :=
  let b := backF a way (1 - way) (r * way + c * (1 - way)) r c
  (b.1, b.2, fwdF a way (1 - way) 9 b.1 b.2)
def runW (a : Grid) (r c way : Nat) : Wrd := let x := runM a r c way; (x.1, x.2.1, way, x.2.2)
def wayL (L : List Tri) : Nat := if (L.headD (0, 0, 0)).1 ≠ (L.getLastD (0, 0, 0)).1 then 1 else 0
def formedM (g : Grid) (L : List Tri) : List Wrd :=
  ((runW (laidM g L) (L.headD (0, 0, 0)).1 (L.headD (0, 0, 0)).2.1 (wayL L)) :: L.map fun t => runW (laidM g L) t.1 t.2.1 (1 - wayL L)).filter fun x => decide (1 < x.2.2.2.length)
def betw (L : List Tri) : List Cel :=
  if wayL L = 0 then (List.range ((L.getLastD (0, 0, 0)).2.1 + 1 - (L.headD (0, 0, 0)).2.1)).map fun i => ((L.headD (0, 0, 0)).1, (L.headD (0, 0, 0)).2.1 + i)
  else (List.range ((L.getLastD (0, 0, 0)).1 + 1 - (L.headD (0, 0, 0)).1)).map fun i => ((L.headD (0, 0, 0)).1 + i, (L.headD (0, 0, 0)).2.1)
def nearM (g : Grid) (c : Cel) : Bool := decide (atI g ((c.1 : Int) + -1) c.2 ≠ 46) || decide (atI g c.1 ((c.2 : Int) + -1) ≠ 46) || decide (atI g c.1 ((c.2 : Int) + 1) ≠ 46) || decide (atI g ((c.1 : Int) + 1) c.2 ≠ 46)
def joinM (g : Grid) (beg : Cel) (cs : List Cel) : Bool := if freeM g = true then cs.any (fun c => decide (c = beg)) else cs.any (nearM g)
def takenM (g : Grid) (L : List Tri) : Bool := L.any fun t => decide (atN g t.1 t.2.1 ≠ 46)
def crookM (L : List Tri) : Bool := !(L.all fun t => decide (t.1 = (L.headD (0, 0, 0)).1)) && !(L.all fun t => decide (t.2.1 = (L.headD (0, 0, 0)).2.1))
def gapM (g : Grid) (L : List Tri) : Bool := (betw L).any fun c => decide (atN g c.1 c.2 = 46) && !((L.map cel).any fun z => decide (z = c))
/-- the first rule of cells that is broken; 0: none -/
def cellsM (g : Grid) (beg : Cel) (L : List Tri) : Nat :=
  if takenM g L = true then 1 else if crookM L = true then 2 else if gapM g L = true then 3 else if joinM g beg (L.map cel) = true then 0 else 4
def lackM : List Nat → List Nat → Bool
  | _, [] => false
  | l, t :: ts => if t ∈ l then lackM (l.erase t) ts else true
def wordsM (ws : List (List Nat)) (fs : List Wrd) : Bool := fs.any (fun x => !decide (x.2.2.2.map lowC ∈ ws)) || fs.isEmpty
def checkM (g : Grid) (beg : Cel) (ws : List (List Nat)) (rack : List Nat) (L : List Tri) : Nat :=
  if cellsM g beg L ≠ 0 then cellsM g beg L else if lackM rack (L.map fun t => tilC t.2.2) = true then 5 else if wordsM ws (formedM g L) = true then 6 else 0
def errN : Nat → Str
  | 1 => "Taken"
  | 2 => "Crooked"
  | 3 => "Gap"
  | 4 => "Apart"
  | 5 => "Lacking"
  | 6 => "NoWord"
  | _ => "NoLaying"
def swp (c : Cel) : Cel := (c.2, c.1)
def swT (t : Tri) : Tri := (t.2.1, t.1, t.2.2)
/-- by rows, then columns, then signs -/
def turnL (L : List Tri) : List Tri := (L.map swT).mergeSort fun a b => PySem.W.dataLe false id (triD a) (triD b)
def OneLine (L : List Tri) : Prop := (∀ t ∈ L, t.1 = (L.headD (0, 0, 0)).1) ∨ (∀ t ∈ L, t.2.1 = (L.headD (0, 0, 0)).2.1)
def LetOk (ls : List Nat) : Prop := 2 ≤ ls.length ∧ ls.length ≤ 26 ∧ ∀ c ∈ ls, c ∈ lowL
def WordOk (t : List Nat) : Prop := 2 ≤ t.length ∧ t.length ≤ 9 ∧ ∀ c ∈ t, c ∈ lowL
def WrdOk (x : Wrd) : Prop := 2 ≤ x.2.2.2.length ∧ x.2.2.2.length ≤ 9 ∧ ∀ c ∈ x.2.2.2, isSg c = true

/-! ### what stands in the heap -/
section
variable (K : PySem.W.Frag)
def fsB (v1 v2 v3 : V) : List (Str × V) := putF "begin" v3 (putF "marks" v2 (putF "rows" v1 []))
def BoardAt (H : Hp) (b : Addr) (g m : Grid) (beg : Cel) : Prop := ∃ dx v1 v2 v3, H b = some (.ins (He.ga K "Board") dx (fsB v1 v2 v3)) ∧ At H (rowsD g) v1 ∧ At H (rowsD m) v2 ∧ At H (cellD beg) v3
def BookAt (H : Hp) (k : Addr) (ws : List (List Nat)) : Prop := ∃ dx hd kvs, H k = some (.ins (He.ga K "Book") dx (putF "held" (.ref hd) [])) ∧ H hd = some (.dK kvs) ∧ ∀ t, (valV kvs (Sum.inr (mk t))).isSome = decide (t ∈ ws)
end
def wrdsD (ws : List Wrd) : PyData := .tuple (ws.map wrdD)
def chV (c : Nat) : V := .str (mk [c])
/-- a list of one number -/
def RestAt (H : Hp) (r : Addr) : Prop := ∃ n : Int, H r = some (.lst [.int n])
/-- a list of lists of signs, no list twice -/
def GridAt (H : Hp) (p : Addr) (G : Grid) : Prop := ∃ qs : List Addr, H p = some (.lst (qs.map V.ref)) ∧ qs.Nodup ∧ qs.length = G.length ∧ ∀ (i : Nat) (q : Addr) (r : List Nat), qs[i]? = some q → G[i]? = some r → H q = some (.lst (r.map chV))

/-! ### the promises -/
section
variable (K : PySem.W.Frag)
def spIsSign : Sp := fun vs H Q _ => ∃ (c : Nat), vs = [.str (mk [c])] ∧ Q (.bl (isSg c)) H
def spLetterOf : Sp := fun vs H Q _ => ∃ (c : Nat), vs = [.str (mk [c])] ∧ isSg c = true ∧ Q (.str (mk [lowC c])) H
def spTileOf : Sp := fun vs H Q _ => ∃ (c : Nat), vs = [.str (mk [c])] ∧ Q (.str (mk [tilC c])) H
def spWithout : Sp := fun vs H Q E => ∃ (rack : List Nat) (p : Addr) (ts : List Nat), vs = [.str (mk rack), .ref p] ∧ H p = some (.lst (ts.map chV)) ∧ rack.length ≤ 1000 ∧ ts.length ≤ 1000 ∧
  (lackM rack ts = false → ∀ v H', Same H H' → Q v H') ∧ (lackM rack ts = true → ∀ d H', Same H H' → XD H' d → E (.ref (He.ga K "Lacking")) d H')
def spLeftOf : Sp := fun vs H Q E => ∃ (rack : List Nat) (ss : List Nat), vs = [.str (mk rack), .str (mk ss)] ∧ rack.length ≤ 1000 ∧ ss.length ≤ 1000 ∧
  (lackM rack (ss.map tilC) = false → ∀ v H', Same H H' → Q v H') ∧ (lackM rack (ss.map tilC) = true → ∀ d H', Same H H' → XD H' d → E (.ref (He.ga K "Lacking")) d H')
def spIsPlace : Sp := fun vs H Q _ => ∃ i n : Int, vs = [.int i, .int n] ∧ Q (.bl (decide (0 ≤ i) && decide (i < n))) H
def spIsTriple : Sp := fun vs H Q _ => ∃ (b : Addr) (v : V) (g : Grid) (m : Grid) (beg : Cel) (h : Nat) (w : Nat) (t : Tri), vs = [.ref b, v] ∧ BoardAt K H b g m beg ∧ GridOk g h w ∧ At H (triD t) v ∧ t.1 < h ∧ t.2.1 < w ∧ isSg t.2.2 = true ∧ Q (.bl true) H
def spIsLaying : Sp := fun vs H Q _ => ∃ (b : Addr) (v : V) (g : Grid) (m : Grid) (beg : Cel) (h : Nat) (w : Nat) (L : List Tri), vs = [.ref b, v] ∧ BoardAt K H b g m beg ∧ GridOk g h w ∧ At H (layD L) v ∧ LayOk h w L ∧ ∀ H', Same H H' → Q (.bl true) H'
def spCellsOf : Sp := fun vs H Q _ => ∃ (v : V) (L : List Tri), vs = [v] ∧ At H (layD L) v ∧ L.length ≤ 1000 ∧ ∀ p H', Same H H' → H p = none → LsAt H' p ((L.map cel).map cellD) → Q (.ref p) H'
def spWayOf : Sp := fun vs H Q _ => ∃ (v : V) (L : List Tri), vs = [v] ∧ At H (layD L) v ∧ L ≠ [] ∧ Q (.int (wayL L : Nat)) H
def spFormed : Sp := fun vs H Q _ => ∃ (b : Addr) (v : V) (g : Grid) (m : Grid) (beg : Cel) (h : Nat) (w : Nat) (L : List Tri), vs = [.ref b, v] ∧ BoardAt K H b g m beg ∧ GridOk g h w ∧ MarkOk m h w ∧ beg.1 < h ∧ beg.2 < w ∧ At H (layD L) v ∧ LayOk h w L ∧ ∀ u H', Same H H' → At H' (wrdsD (formedM g L)) u → Q u H'
def spBetween : Sp := fun vs H Q _ => ∃ (v : V) (L : List Tri), vs = [v] ∧ At H (layD L) v ∧ L ≠ [] ∧ (∀ t ∈ L, t.1 < 9 ∧ t.2.1 < 9) ∧ ∀ p H', Same H H' → H p = none → LsAt H' p ((betw L).map cellD) → Q (.ref p) H'
def spIsJoined : Sp := fun vs H Q _ => ∃ (b : Addr) (p : Addr) (g : Grid) (m : Grid) (beg : Cel) (h : Nat) (w : Nat) (cs : List Cel), vs = [.ref b, .ref p] ∧ BoardAt K H b g m beg ∧ GridOk g h w ∧ LsAt H p (cs.map cellD) ∧ cs.length ≤ 1000 ∧ ∀ H', Same H H' → Q (.bl (joinM g beg cs)) H'
def spCheckCells : Sp := fun vs H Q E => ∃ (b : Addr) (v : V) (g : Grid) (m : Grid) (beg : Cel) (h : Nat) (w : Nat) (L : List Tri), vs = [.ref b, v] ∧ BoardAt K H b g m beg ∧ GridOk g h w ∧ At H (layD L) v ∧ LayOk h w L ∧
  (cellsM g beg L = 0 → ∀ H', Same H H' → Q .non H') ∧ (cellsM g beg L ≠ 0 → ∀ d H', Same H H' → XD H' d → E (.ref (He.ga K (errN (cellsM g beg L)))) d H')
def spCheckLaying : Sp := fun vs H Q E => ∃ (b : Addr) (k : Addr) (rack : List Nat) (v : V) (g : Grid) (m : Grid) (beg : Cel) (h : Nat) (w : Nat) (ws : List (List Nat)) (L : List Tri), vs = [.ref b, .ref k, .str (mk rack), v] ∧ BoardAt K H b g m beg ∧ GridOk g h w ∧ MarkOk m h w ∧ beg.1 < h ∧ beg.2 < w ∧ BookAt K H k ws ∧ rack.length ≤ 1000 ∧ At H (layD L) v ∧ LayOk h w L ∧
  (checkM g beg ws rack L = 0 → ∀ H', Same H H' → Q .non H') ∧ (checkM g beg ws rack L ≠ 0 → ∀ d H', Same H H' → XD H' d → E (.ref (He.ga K (errN (checkM g beg ws rack L)))) d H')
def spIsWhole : Sp := fun vs H Q _ => ∃ i : Int, vs = [.int i] ∧ Q (.bl true) H
def spAreRows : Sp := fun vs H Q _ => ∃ (v : V) (g : Grid) (w : Nat), vs = [v] ∧ At H (rowsD g) v ∧ 1 ≤ g.length ∧ g.length ≤ 9 ∧ (∀ r ∈ g, r.length = w) ∧ 1 ≤ w ∧ w ≤ 9 ∧ Q (.bl true) H
def spIsCell : Sp := fun vs H Q _ => ∃ (v : V) (u : V) (g : Grid) (w : Nat) (c : Cel), vs = [v, u] ∧ At H (rowsD g) v ∧ (∀ r ∈ g, r.length = w) ∧ w ≤ 9 ∧ At H (cellD c) u ∧ c.1 < g.length ∧ c.2 < w ∧ Q (.bl true) H
def spTurnedRows : Sp := fun vs H Q _ => ∃ (v : V) (g : Grid) (w : Nat), vs = [v] ∧ At H (rowsD g) v ∧ 1 ≤ g.length ∧ g.length ≤ 9 ∧ (∀ r ∈ g, r.length = w) ∧ 1 ≤ w ∧ w ≤ 9 ∧ ∀ u H', Same H H' → At H' (rowsD (trG w g)) u → Q u H'
def spBoardInit : Sp := fun vs H Q _ => ∃ (x : Addr) (dx : Addr) (v1 : V) (v2 : V) (v3 : V) (g : Grid) (m : Grid) (beg : Cel) (h : Nat) (w : Nat), vs = [.ref x, v1, v2, v3] ∧ H x = some (.ins (He.ga K "Board") dx []) ∧ At H (rowsD g) v1 ∧ At H (rowsD m) v2 ∧ At H (cellD beg) v3 ∧ GridOk g h w ∧ MarkOk m h w ∧ beg.1 < h ∧ beg.2 < w ∧
  ∀ H', Sb x H H' → H' x = some (.ins (He.ga K "Board") dx (fsB v1 v2 v3)) → Q .non H'
def spBoardAt : Sp := fun vs H Q _ => ∃ (b : Addr) (r : Int) (c : Int) (g : Grid) (m : Grid) (beg : Cel) (h : Nat) (w : Nat), vs = [.ref b, .int r, .int c] ∧ BoardAt K H b g m beg ∧ GridOk g h w ∧ Q (.str (mk [atI g r c])) H
def spBoardFree : Sp := fun vs H Q _ => ∃ (b : Addr) (g : Grid) (m : Grid) (beg : Cel) (h : Nat) (w : Nat), vs = [.ref b] ∧ BoardAt K H b g m beg ∧ GridOk g h w ∧ ∀ H', Same H H' → Q (.bl (freeM g)) H'
def spBoardRun : Sp := fun vs H Q _ => ∃ (b : Addr) (r : Nat) (c : Nat) (way : Nat) (g : Grid) (m : Grid) (beg : Cel) (h : Nat) (w : Nat), vs = [.ref b, .int ((r : Nat) : Int), .int ((c : Nat) : Int), .int ((way : Nat) : Int)] ∧ BoardAt K H b g m beg ∧ GridOk g h w ∧ r < h ∧ c < w ∧ way ≤ 1 ∧
  ∀ p H', Same H H' → H p = none → H' p = some (.tup [.int ((runM g r c way).1 : Nat), .int ((runM g r c way).2.1 : Nat), .str (mk (runM g r c way).2.2)]) → Q (.ref p) H'
def spBoardTurned : Sp := fun vs H Q _ => ∃ (b : Addr) (g : Grid) (m : Grid) (beg : Cel) (h : Nat) (w : Nat), vs = [.ref b] ∧ BoardAt K H b g m beg ∧ GridOk g h w ∧ MarkOk m h w ∧ beg.1 < h ∧ beg.2 < w ∧ ∀ b2 H', Same H H' → BoardAt K H' b2 (trG w g) (trG w m) (swp beg) → Q (.ref b2) H'
def spBoardLaid : Sp := fun vs H Q _ => ∃ (b : Addr) (v : V) (g : Grid) (m : Grid) (beg : Cel) (h : Nat) (w : Nat) (L : List Tri), vs = [.ref b, v] ∧ BoardAt K H b g m beg ∧ GridOk g h w ∧ MarkOk m h w ∧ beg.1 < h ∧ beg.2 < w ∧ At H (layD L) v ∧ LayOk h w L ∧ ∀ b2 H', Same H H' → BoardAt K H' b2 (laidM g L) m beg → Q (.ref b2) H'
def spCheckWord : Sp := fun vs H Q _ => ∃ (t : List Nat), vs = [.str (mk t)] ∧ WordOk t ∧ ∀ H', Same H H' → Q .non H'
def spBookInit : Sp := fun vs H Q _ => ∃ (x : Addr) (dx : Addr) (p : Addr) (ws : List (List Nat)), vs = [.ref x, .ref p] ∧ H x = some (.ins (He.ga K "Book") dx []) ∧ H p = some (.lst (ws.map fun t => V.str (mk t))) ∧ ws.length ≤ 1000 ∧ (∀ t ∈ ws, WordOk t) ∧ ∀ H', Sb x H H' → BookAt K H' x ws → Q .non H'
def spBookHas : Sp := fun vs H Q _ => ∃ (k : Addr) (t : List Nat) (ws : List (List Nat)), vs = [.ref k, .str (mk t)] ∧ BookAt K H k ws ∧ Q (.bl (decide (t ∈ ws))) H
/-- an error's maker of one field, of two -/
def spInit1 (x f : Str) : Sp := fun vs H Q _ => ∃ (a : Addr) (y : V), vs = [.ref a, y] ∧ H a = some (exo a (He.ga K x) none) ∧ ∀ dx, H dx = none → dx ≠ a → Q .non (upd (upd H dx (exd dx [(f, y)])) a (exo a (He.ga K x) (some dx)))
def spInit2 (x f1 f2 : Str) : Sp := fun vs H Q _ => ∃ (a : Addr) (y : V) (z : V), vs = [.ref a, y, z] ∧ H a = some (exo a (He.ga K x) none) ∧ ∀ dx, H dx = none → dx ≠ a → Q .non (upd (upd (upd H dx (exd dx [(f1, y)])) a (exo a (He.ga K x) (some dx))) dx (exd dx [(f2, z), (f1, y)]))
/-! the law's own -/
def spCellAt : Sp := fun vs H Q _ => ∃ (a : Addr) (ns : List Int) (k : Int), vs = [.ref a, .int k] ∧ SqL K H a (ns.map V.int) ∧ ns.length ≤ 63 ∧ 0 ≤ k ∧ ∀ i : Int, Q (.int i) H
def spTake : Sp := fun vs H Q _ => ∃ (r : Addr) (n base : Int), vs = [.ref r, .int base] ∧ H r = some (.lst [.int n]) ∧ 0 < base ∧ base ≤ 1000000 ∧ ∀ d n' : Int, 0 ≤ d → d < base → Q (.int d) (upd H r (.lst [.int n']))
def spRest : Sp := fun vs H Q _ => ∃ n : Int, vs = [.int n] ∧ ∀ (p : Addr) (n' : Int), H p = none → Q (.ref p) (upd H p (.lst [.int n']))
def spLetters : Sp := fun vs H Q _ => ∃ (r : Addr), vs = [.ref r] ∧ RestAt H r ∧ ∀ (ls : List Nat) H', Sb r H H' → RestAt H' r → LetOk ls → Q (.str (mk ls)) H'
def spSign : Sp := fun vs H Q _ => ∃ (r : Addr) (ls : List Nat) (b : Bool), vs = [.ref r, .str (mk ls), .bl b] ∧ RestAt H r ∧ LetOk ls ∧ ∀ (c : Nat) H', Sb r H H' → RestAt H' r → isSg c = true → Q (.str (mk [c])) H'
def spRows : Sp := fun vs H Q _ => ∃ (r : Addr) (ls : List Nat), vs = [.ref r, .str (mk ls), .int 6] ∧ RestAt H r ∧ LetOk ls ∧ ∀ (v : V) (g : Grid) (h w : Nat) H', Sb r H H' → RestAt H' r → At H' (rowsD g) v → GridOk g h w → (∃ i j, i < h ∧ j < w ∧ atN g i j = 46) → Q v H'
def spMarks : Sp := fun vs H Q _ => ∃ (r : Addr) (v : V) (g : Grid) (h : Nat) (w : Nat), vs = [.ref r, v] ∧ RestAt H r ∧ At H (rowsD g) v ∧ GridOk g h w ∧ ∀ (u : V) (m : Grid) H', Sb r H H' → RestAt H' r → At H' (rowsD m) u → MarkOk m h w → Q u H'
def spBegin : Sp := fun vs H Q _ => ∃ (r : Addr) (v : V) (g : Grid) (h : Nat) (w : Nat), vs = [.ref r, v] ∧ RestAt H r ∧ At H (rowsD g) v ∧ GridOk g h w ∧ ∀ (u : V) (c : Cel) H', Sb r H H' → RestAt H' r → At H' (cellD c) u → c.1 < h → c.2 < w → Q u H'
def spGrid : Sp := fun vs H Q _ => ∃ (v : V) (u : V) (g : Grid) (h : Nat) (w : Nat) (L : List Tri), vs = [v, u] ∧ At H (rowsD g) v ∧ GridOk g h w ∧ At H (layD L) u ∧ LayOk h w L ∧ ∀ (p : Addr) (G : Grid) H', Same H H' → H p = none → GridAt H' p G → GridOk G h w → Q (.ref p) H'
def spRun : Sp := fun vs H Q _ => ∃ (p : Addr) (G : Grid) (h : Nat) (w : Nat) (r : Nat) (c : Nat) (way : Nat), vs = [.ref p, .int ((r : Nat) : Int), .int ((c : Nat) : Int), .int ((way : Nat) : Int)] ∧ GridAt H p G ∧ GridOk G h w ∧ r < h ∧ c < w ∧ way ≤ 1 ∧
  ∀ (u : V) (x : Wrd) (H' : Hp), Same H H' → At H' (wrdD x) u → x.2.2.2.length ≤ 9 → (∀ c ∈ x.2.2.2, isSg c = true) → Q u H'
def spWords : Sp := fun vs H Q _ => ∃ (v : V) (u : V) (g : Grid) (h : Nat) (w : Nat) (L : List Tri), vs = [v, u] ∧ At H (rowsD g) v ∧ GridOk g h w ∧ At H (layD L) u ∧ LayOk h w L ∧ ∀ (z : V) (ws : List Wrd) H', Same H H' → At H' (wrdsD ws) z → ws.length ≤ 8 → (∀ x ∈ ws, WrdOk x) → Q z H'
def spIsNear : Sp := fun vs H Q _ => ∃ (v : V) (r : Int) (c : Int) (g : Grid) (h : Nat) (w : Nat), vs = [v, .int r, .int c] ∧ At H (rowsD g) v ∧ GridOk g h w ∧ ∀ (b : Bool) H', Same H H' → Q (.bl b) H'
def spStarts : Sp := fun vs H Q _ => ∃ (v : V) (r : Addr) (g : Grid) (h : Nat) (w : Nat), vs = [v, .ref r] ∧ RestAt H r ∧ At H (rowsD g) v ∧ GridOk g h w ∧ (∃ i j, i < h ∧ j < w ∧ atN g i j = 46) ∧ ∀ (u : V) (c : Cel) H', Sb r H H' → RestAt H' r → At H' (cellD c) u → c.1 < h → c.2 < w → atN g c.1 c.2 = 46 → Q u H'
def spStraight : Sp := fun vs H Q _ => ∃ (v : V) (r : Addr) (ls : List Nat) (g : Grid) (h : Nat) (w : Nat), vs = [v, .ref r, .str (mk ls)] ∧ RestAt H r ∧ LetOk ls ∧ At H (rowsD g) v ∧ GridOk g h w ∧ (∃ i j, i < h ∧ j < w ∧ atN g i j = 46) ∧ ∀ (u : V) (L : List Tri) H', Sb r H H' → RestAt H' r → At H' (layD L) u → LayOk h w L → Q u H'
def spJoined : Sp := fun vs H Q _ => ∃ (v : V) (u : V) (p : Addr) (g : Grid) (h : Nat) (w : Nat) (c : Cel) (cs : List Cel), vs = [v, u, .ref p] ∧ At H (rowsD g) v ∧ GridOk g h w ∧ At H (cellD c) u ∧ LsAt H p (cs.map cellD) ∧ cs.length ≤ 1000 ∧ ∀ (b : Bool) H', Same H H' → Q (.bl b) H'
def spCellsDue : Sp := fun vs H Q _ => ∃ (v : V) (u : V) (z : V) (g : Grid) (h : Nat) (w : Nat) (c : Cel) (L : List Tri), vs = [v, u, z] ∧ At H (rowsD g) v ∧ GridOk g h w ∧ At H (cellD c) u ∧ At H (layD L) z ∧ LayOk h w L ∧ ∀ (p : Addr) (n a b : Int) H', Same H H' → H' p = some (.tup [.int n, .int a, .int b]) → (3 < n → OneLine L) → Q (.ref p) H'
def spClass : Sp := fun vs H Q _ => ∃ (e : Addr) (d : Option Addr) (k : Nat), vs = [.ref e] ∧ H e = some (XO (.ref (He.ga K (errN k))) d e) ∧ XD H d ∧ 1 ≤ k ∧ k ≤ 6 ∧ ∀ H', Same H H' → Q (.int (k : Nat)) H'
def spCaught : Sp := fun vs H Q _ => ∃ (b : Addr) (k : Addr) (rack : List Nat) (v : V) (g : Grid) (m : Grid) (beg : Cel) (h : Nat) (w : Nat) (ws : List (List Nat)) (L : List Tri), vs = [.ref b, .ref k, .str (mk rack), v] ∧ BoardAt K H b g m beg ∧ GridOk g h w ∧ MarkOk m h w ∧ beg.1 < h ∧ beg.2 < w ∧ BookAt K H k ws ∧ rack.length ≤ 1000 ∧ At H (layD L) v ∧ LayOk h w L ∧
  (checkM g beg ws rack L = 0 → ∀ H', Same H H' → Q .non H') ∧ (checkM g beg ws rack L ≠ 0 → ∀ e d H', Same H H' → H' e = some (XO (.ref (He.ga K (errN (checkM g beg ws rack L)))) d e) → XD H' d → Q (.ref e) H')
def spBent : Sp := fun vs H Q _ => ∃ (z : V) (r : Addr) (v : V) (g : Grid) (h : Nat) (w : Nat) (L : List Tri), vs = [z, .ref r, v] ∧ RestAt H r ∧ At H (rowsD g) v ∧ GridOk g h w ∧ At H (layD L) z ∧ LayOk h w L ∧ ∀ (u : V) (M : List Tri) H', Sb r H H' → RestAt H' r → At H' (layD M) u → LayOk h w M → Q u H'
def spRack : Sp := fun vs H Q _ => ∃ (z : V) (r : Addr) (ls : List Nat) (h : Nat) (w : Nat) (L : List Tri), vs = [z, .ref r, .str (mk ls)] ∧ RestAt H r ∧ LetOk ls ∧ At H (layD L) z ∧ LayOk h w L ∧ ∀ (rk : List Nat) H', Sb r H H' → RestAt H' r → rk.length ≤ 1000 → Q (.str (mk rk)) H'
def spKnown : Sp := fun vs H Q _ => ∃ (v : V) (z : V) (r : Addr) (ls : List Nat) (g : Grid) (h : Nat) (w : Nat) (L : List Tri), vs = [v, z, .ref r, .str (mk ls)] ∧ RestAt H r ∧ LetOk ls ∧ At H (rowsD g) v ∧ GridOk g h w ∧ At H (layD L) z ∧ LayOk h w L ∧
  ∀ (p : Addr) (ws : List (List Nat)) H', Sb r H H' → RestAt H' r → H' p = some (.lst (ws.map fun t => V.str (mk t))) → ws.length ≤ 1000 → (∀ t ∈ ws, WordOk t) → Q (.ref p) H'
def spTurned : Sp := fun vs H Q _ => ∃ (v : V) (L : List Tri), vs = [v] ∧ At H (layD L) v ∧ L.length ≤ 1000 ∧ ∀ u H', Same H H' → At H' (layD (turnL L)) u → Q u H'
def spSame : Sp := fun vs H Q _ => ∃ (b : Addr) (v : V) (g : Grid) (m : Grid) (beg : Cel) (h : Nat) (w : Nat) (L : List Tri), vs = [.ref b, v] ∧ BoardAt K H b g m beg ∧ GridOk g h w ∧ MarkOk m h w ∧ beg.1 < h ∧ beg.2 < w ∧ At H (layD L) v ∧ LayOk h w L ∧ OneLine L ∧ ∀ H', Same H H' → Q (.bl true) H'
def spLaw : Sp := fun vs H Q _ => ∃ (a : Addr) (ns : List Int), vs = [.ref a] ∧ SqL K H a (ns.map V.int) ∧ ns.length ≤ 63 ∧ ∀ H', Q (.bl true) H'
end

abbrev N_is_sign : List Str := ["thing"]
theorem sc_is_sign : FnScope N_is_sign ["thing"] (defScope s_is_sign) := ⟨rfl, rfl, rfl, by decide +kernel, rfl, by decide +kernel, by decide +kernel⟩
theorem nd_is_sign : N_is_sign.Nodup := sc_is_sign.nd
theorem bp_is_sign : BindP "is_sign" "is_sign" s_is_sign ["thing"] := fun _ _ _ _ _ _ us hl => match us, hl with | [_], _ => rfl
abbrev N_letter_of : List Str := ["sign"]
theorem sc_letter_of : FnScope N_letter_of ["sign"] (defScope s_letter_of) := ⟨rfl, rfl, rfl, by decide +kernel, rfl, by decide +kernel, by decide +kernel⟩
theorem nd_letter_of : N_letter_of.Nodup := sc_letter_of.nd
theorem bp_letter_of : BindP "letter_of" "letter_of" s_letter_of ["sign"] := fun _ _ _ _ _ _ us hl => match us, hl with | [_], _ => rfl
abbrev N_tile_of : List Str := ["sign"]
theorem sc_tile_of : FnScope N_tile_of ["sign"] (defScope s_tile_of) := ⟨rfl, rfl, rfl, by decide +kernel, rfl, by decide +kernel, by decide +kernel⟩
theorem nd_tile_of : N_tile_of.Nodup := sc_tile_of.nd
theorem bp_tile_of : BindP "tile_of" "tile_of" s_tile_of ["sign"] := fun _ _ _ _ _ _ us hl => match us, hl with | [_], _ => rfl
abbrev N_without : List Str := ["rack", "tiles", "left", "tile"]
theorem sc_without : FnScope N_without ["rack", "tiles"] (defScope s_without) := ⟨rfl, rfl, rfl, by decide +kernel, rfl, by decide +kernel, by decide +kernel⟩
theorem nd_without : N_without.Nodup := sc_without.nd
theorem bp_without : BindP "without" "without" s_without ["rack", "tiles"] := fun _ _ _ _ _ _ us hl => match us, hl with | [_, _], _ => rfl
abbrev N_left_of : List Str := ["rack", "signs", "sign"]
theorem sc_left_of : FnScope N_left_of ["rack", "signs"] (defScope s_left_of) := ⟨rfl, rfl, rfl, by decide +kernel, rfl, by decide +kernel, by decide +kernel⟩
theorem nd_left_of : N_left_of.Nodup := sc_left_of.nd
theorem bp_left_of : BindP "left_of" "left_of" s_left_of ["rack", "signs"] := fun _ _ _ _ _ _ us hl => match us, hl with | [_, _], _ => rfl
abbrev N_is_place : List Str := ["thing", "many"]
theorem sc_is_place : FnScope N_is_place ["thing", "many"] (defScope s_is_place) := ⟨rfl, rfl, rfl, by decide +kernel, rfl, by decide +kernel, by decide +kernel⟩
theorem nd_is_place : N_is_place.Nodup := sc_is_place.nd
theorem bp_is_place : BindP "is_place" "is_place" s_is_place ["thing", "many"] := fun _ _ _ _ _ _ us hl => match us, hl with | [_, _], _ => rfl
abbrev N_is_triple : List Str := ["board", "thing"]
theorem sc_is_triple : FnScope N_is_triple ["board", "thing"] (defScope s_is_triple) := ⟨rfl, rfl, rfl, by decide +kernel, rfl, by decide +kernel, by decide +kernel⟩
theorem nd_is_triple : N_is_triple.Nodup := sc_is_triple.nd
theorem bp_is_triple : BindP "is_triple" "is_triple" s_is_triple ["board", "thing"] := fun _ _ _ _ _ _ us hl => match us, hl with | [_, _], _ => rfl
abbrev N_is_laying : List Str := ["board", "thing", "cells", "one", "k"]
theorem sc_is_laying : FnScope N_is_laying ["board", "thing"] (defScope s_is_laying) := ⟨rfl, rfl, rfl, by decide +kernel, rfl, by decide +kernel, by decide +kernel⟩
theorem nd_is_laying : N_is_laying.Nodup := sc_is_laying.nd
theorem bp_is_laying : BindP "is_laying" "is_laying" s_is_laying ["board", "thing"] := fun _ _ _ _ _ _ us hl => match us, hl with | [_, _], _ => rfl
abbrev N_cells_of : List Str := ["laying", "row", "column", "sign"]
theorem sc_cells_of : FnScope N_cells_of ["laying"] (defScope s_cells_of) := ⟨rfl, rfl, rfl, by decide +kernel, rfl, by decide +kernel, by decide +kernel⟩
theorem nd_cells_of : N_cells_of.Nodup := sc_cells_of.nd
theorem bp_cells_of : BindP "cells_of" "cells_of" s_cells_of ["laying"] := fun _ _ _ _ _ _ us hl => match us, hl with | [_], _ => rfl
abbrev N_way_of : List Str := ["laying"]
theorem sc_way_of : FnScope N_way_of ["laying"] (defScope s_way_of) := ⟨rfl, rfl, rfl, by decide +kernel, rfl, by decide +kernel, by decide +kernel⟩
theorem nd_way_of : N_way_of.Nodup := sc_way_of.nd
theorem bp_way_of : BindP "way_of" "way_of" s_way_of ["laying"] := fun _ _ _ _ _ _ us hl => match us, hl with | [_], _ => rfl
abbrev N_formed : List Str := ["board", "laying", "after", "line", "asked", "found", "triple", "way", "row", "column", "signs"]
theorem sc_formed : FnScope N_formed ["board", "laying"] (defScope s_formed) := ⟨rfl, rfl, rfl, by decide +kernel, rfl, by decide +kernel, by decide +kernel⟩
theorem nd_formed : N_formed.Nodup := sc_formed.nd
theorem bp_formed : BindP "formed" "formed" s_formed ["board", "laying"] := fun _ _ _ _ _ _ us hl => match us, hl with | [_, _], _ => rfl
abbrev N_between : List Str := ["laying", "first", "last", "column", "row"]
theorem sc_between : FnScope N_between ["laying"] (defScope s_between) := ⟨rfl, rfl, rfl, by decide +kernel, rfl, by decide +kernel, by decide +kernel⟩
theorem nd_between : N_between.Nodup := sc_between.nd
theorem bp_between : BindP "between" "between" s_between ["laying"] := fun _ _ _ _ _ _ us hl => match us, hl with | [_], _ => rfl
abbrev N_is_joined : List Str := ["board", "cells", "row", "column", "down", "over"]
theorem sc_is_joined : FnScope N_is_joined ["board", "cells"] (defScope s_is_joined) := ⟨rfl, rfl, rfl, by decide +kernel, rfl, by decide +kernel, by decide +kernel⟩
theorem nd_is_joined : N_is_joined.Nodup := sc_is_joined.nd
theorem bp_is_joined : BindP "is_joined" "is_joined" s_is_joined ["board", "cells"] := fun _ _ _ _ _ _ us hl => match us, hl with | [_, _], _ => rfl
abbrev N_check_cells : List Str := ["board", "laying", "cells", "row", "column"]
theorem sc_check_cells : FnScope N_check_cells ["board", "laying"] (defScope s_check_cells) := ⟨rfl, rfl, rfl, by decide +kernel, rfl, by decide +kernel, by decide +kernel⟩
theorem nd_check_cells : N_check_cells.Nodup := sc_check_cells.nd
theorem bp_check_cells : BindP "check_cells" "check_cells" s_check_cells ["board", "laying"] := fun _ _ _ _ _ _ us hl => match us, hl with | [_, _], _ => rfl
abbrev N_check_laying : List Str := ["board", "book", "rack", "laying", "words", "row", "column", "way", "signs", "sign"]
theorem sc_check_laying : FnScope N_check_laying ["board", "book", "rack", "laying"] (defScope s_check_laying) := ⟨rfl, rfl, rfl, by decide +kernel, rfl, by decide +kernel, by decide +kernel⟩
theorem nd_check_laying : N_check_laying.Nodup := sc_check_laying.nd
theorem bp_check_laying : BindP "check_laying" "check_laying" s_check_laying ["board", "book", "rack", "laying"] := fun _ _ _ _ _ _ us hl => match us, hl with | [_, _, _, _], _ => rfl
abbrev N_is_whole : List Str := ["thing"]
theorem sc_is_whole : FnScope N_is_whole ["thing"] (defScope s_is_whole) := ⟨rfl, rfl, rfl, by decide +kernel, rfl, by decide +kernel, by decide +kernel⟩
theorem nd_is_whole : N_is_whole.Nodup := sc_is_whole.nd
theorem bp_is_whole : BindP "is_whole" "is_whole" s_is_whole ["thing"] := fun _ _ _ _ _ _ us hl => match us, hl with | [_], _ => rfl
abbrev N_are_rows : List Str := ["thing", "row"]
theorem sc_are_rows : FnScope N_are_rows ["thing"] (defScope s_are_rows) := ⟨rfl, rfl, rfl, by decide +kernel, rfl, by decide +kernel, by decide +kernel⟩
theorem nd_are_rows : N_are_rows.Nodup := sc_are_rows.nd
theorem bp_are_rows : BindP "are_rows" "are_rows" s_are_rows ["thing"] := fun _ _ _ _ _ _ us hl => match us, hl with | [_], _ => rfl
abbrev N_is_cell : List Str := ["rows", "thing"]
theorem sc_is_cell : FnScope N_is_cell ["rows", "thing"] (defScope s_is_cell) := ⟨rfl, rfl, rfl, by decide +kernel, rfl, by decide +kernel, by decide +kernel⟩
theorem nd_is_cell : N_is_cell.Nodup := sc_is_cell.nd
theorem bp_is_cell : BindP "is_cell" "is_cell" s_is_cell ["rows", "thing"] := fun _ _ _ _ _ _ us hl => match us, hl with | [_, _], _ => rfl
abbrev N_turned_rows : List Str := ["rows", "column", "row"]
theorem sc_turned_rows : FnScope N_turned_rows ["rows"] (defScope s_turned_rows) := ⟨rfl, rfl, rfl, by decide +kernel, rfl, by decide +kernel, by decide +kernel⟩
theorem nd_turned_rows : N_turned_rows.Nodup := sc_turned_rows.nd
theorem bp_turned_rows : BindP "turned_rows" "turned_rows" s_turned_rows ["rows"] := fun _ _ _ _ _ _ us hl => match us, hl with | [_], _ => rfl
abbrev N_Board_init : List Str := ["self", "rows", "marks", "begin", "sign", "mark"]
theorem sc_Board_init : FnScope N_Board_init ["self", "rows", "marks", "begin"] (defScope s_Board_init) := ⟨rfl, rfl, rfl, by decide +kernel, rfl, by decide +kernel, by decide +kernel⟩
theorem nd_Board_init : N_Board_init.Nodup := sc_Board_init.nd
theorem bp_Board_init : BindP "__init__" "Board.__init__" s_Board_init ["self", "rows", "marks", "begin"] := fun _ _ _ _ _ _ us hl => match us, hl with | [_, _, _, _], _ => rfl
abbrev N_Board_at : List Str := ["self", "row", "column"]
theorem sc_Board_at : FnScope N_Board_at ["self", "row", "column"] (defScope s_Board_at) := ⟨rfl, rfl, rfl, by decide +kernel, rfl, by decide +kernel, by decide +kernel⟩
theorem nd_Board_at : N_Board_at.Nodup := sc_Board_at.nd
theorem bp_Board_at : BindP "at" "Board.at" s_Board_at ["self", "row", "column"] := fun _ _ _ _ _ _ us hl => match us, hl with | [_, _, _], _ => rfl
abbrev N_Board_is_free : List Str := ["self", "sign"]
theorem sc_Board_is_free : FnScope N_Board_is_free ["self"] (defScope s_Board_is_free) := ⟨rfl, rfl, rfl, by decide +kernel, rfl, by decide +kernel, by decide +kernel⟩
theorem nd_Board_is_free : N_Board_is_free.Nodup := sc_Board_is_free.nd
theorem bp_Board_is_free : BindP "is_free" "Board.is_free" s_Board_is_free ["self"] := fun _ _ _ _ _ _ us hl => match us, hl with | [_], _ => rfl
abbrev N_Board_run : List Str := ["self", "row", "column", "way", "down", "across", "signs"]
theorem sc_Board_run : FnScope N_Board_run ["self", "row", "column", "way"] (defScope s_Board_run) := ⟨rfl, rfl, rfl, by decide +kernel, rfl, by decide +kernel, by decide +kernel⟩
theorem nd_Board_run : N_Board_run.Nodup := sc_Board_run.nd
theorem bp_Board_run : BindP "run" "Board.run" s_Board_run ["self", "row", "column", "way"] := fun _ _ _ _ _ _ us hl => match us, hl with | [_, _, _, _], _ => rfl
abbrev N_Board_turned : List Str := ["self"]
theorem sc_Board_turned : FnScope N_Board_turned ["self"] (defScope s_Board_turned) := ⟨rfl, rfl, rfl, by decide +kernel, rfl, by decide +kernel, by decide +kernel⟩
theorem nd_Board_turned : N_Board_turned.Nodup := sc_Board_turned.nd
theorem bp_Board_turned : BindP "turned" "Board.turned" s_Board_turned ["self"] := fun _ _ _ _ _ _ us hl => match us, hl with | [_], _ => rfl
abbrev N_Board_laid : List Str := ["self", "laying", "rows", "row", "column", "sign"]
theorem sc_Board_laid : FnScope N_Board_laid ["self", "laying"] (defScope s_Board_laid) := ⟨rfl, rfl, rfl, by decide +kernel, rfl, by decide +kernel, by decide +kernel⟩
theorem nd_Board_laid : N_Board_laid.Nodup := sc_Board_laid.nd
theorem bp_Board_laid : BindP "laid" "Board.laid" s_Board_laid ["self", "laying"] := fun _ _ _ _ _ _ us hl => match us, hl with | [_, _], _ => rfl
abbrev N_check_word : List Str := ["thing", "letter"]
theorem sc_check_word : FnScope N_check_word ["thing"] (defScope s_check_word) := ⟨rfl, rfl, rfl, by decide +kernel, rfl, by decide +kernel, by decide +kernel⟩
theorem nd_check_word : N_check_word.Nodup := sc_check_word.nd
theorem bp_check_word : BindP "check_word" "check_word" s_check_word ["thing"] := fun _ _ _ _ _ _ us hl => match us, hl with | [_], _ => rfl
abbrev N_Book_init : List Str := ["self", "words", "word"]
theorem sc_Book_init : FnScope N_Book_init ["self", "words"] (defScope s_Book_init) := ⟨rfl, rfl, rfl, by decide +kernel, rfl, by decide +kernel, by decide +kernel⟩
theorem nd_Book_init : N_Book_init.Nodup := sc_Book_init.nd
theorem bp_Book_init : BindP "__init__" "Book.__init__" s_Book_init ["self", "words"] := fun _ _ _ _ _ _ us hl => match us, hl with | [_, _], _ => rfl
abbrev N_Book_has : List Str := ["self", "text"]
theorem sc_Book_has : FnScope N_Book_has ["self", "text"] (defScope s_Book_has) := ⟨rfl, rfl, rfl, by decide +kernel, rfl, by decide +kernel, by decide +kernel⟩
theorem nd_Book_has : N_Book_has.Nodup := sc_Book_has.nd
theorem bp_Book_has : BindP "has" "Book.has" s_Book_has ["self", "text"] := fun _ _ _ _ _ _ us hl => match us, hl with | [_, _], _ => rfl
abbrev N_NoWord_init : List Str := ["self", "word"]
theorem sc_NoWord_init : FnScope N_NoWord_init ["self", "word"] (defScope s_NoWord_init) := ⟨rfl, rfl, rfl, by decide +kernel, rfl, by decide +kernel, by decide +kernel⟩
theorem nd_NoWord_init : N_NoWord_init.Nodup := sc_NoWord_init.nd
theorem bp_NoWord_init : BindP "__init__" "NoWord.__init__" s_NoWord_init ["self", "word"] := fun _ _ _ _ _ _ us hl => match us, hl with | [_, _], _ => rfl
abbrev N_Taken_init : List Str := ["self", "row", "column"]
theorem sc_Taken_init : FnScope N_Taken_init ["self", "row", "column"] (defScope s_Taken_init) := ⟨rfl, rfl, rfl, by decide +kernel, rfl, by decide +kernel, by decide +kernel⟩
theorem nd_Taken_init : N_Taken_init.Nodup := sc_Taken_init.nd
theorem bp_Taken_init : BindP "__init__" "Taken.__init__" s_Taken_init ["self", "row", "column"] := fun _ _ _ _ _ _ us hl => match us, hl with | [_, _, _], _ => rfl
abbrev N_Gap_init : List Str := ["self", "row", "column"]
theorem sc_Gap_init : FnScope N_Gap_init ["self", "row", "column"] (defScope s_Gap_init) := ⟨rfl, rfl, rfl, by decide +kernel, rfl, by decide +kernel, by decide +kernel⟩
theorem nd_Gap_init : N_Gap_init.Nodup := sc_Gap_init.nd
theorem bp_Gap_init : BindP "__init__" "Gap.__init__" s_Gap_init ["self", "row", "column"] := fun _ _ _ _ _ _ us hl => match us, hl with | [_, _, _], _ => rfl
abbrev N_Lacking_init : List Str := ["self", "tile"]
theorem sc_Lacking_init : FnScope N_Lacking_init ["self", "tile"] (defScope s_Lacking_init) := ⟨rfl, rfl, rfl, by decide +kernel, rfl, by decide +kernel, by decide +kernel⟩
theorem nd_Lacking_init : N_Lacking_init.Nodup := sc_Lacking_init.nd
theorem bp_Lacking_init : BindP "__init__" "Lacking.__init__" s_Lacking_init ["self", "tile"] := fun _ _ _ _ _ _ us hl => match us, hl with | [_, _], _ => rfl
abbrev N_law_cell_at : List Str := ["_law_script", "_law_k"]
theorem sc_law_cell_at : FnScope N_law_cell_at ["_law_script", "_law_k"] (defScope s_law_cell_at) := ⟨rfl, rfl, rfl, by decide +kernel, rfl, by decide +kernel, by decide +kernel⟩
theorem nd_law_cell_at : N_law_cell_at.Nodup := sc_law_cell_at.nd
theorem bp_law_cell_at : BindP "_law_cell_at" "_law_cell_at" s_law_cell_at ["_law_script", "_law_k"] := fun _ _ _ _ _ _ us hl => match us, hl with | [_, _], _ => rfl
abbrev N_law_take : List Str := ["_law_rest_here", "_law_base", "_law_digit"]
theorem sc_law_take : FnScope N_law_take ["_law_rest_here", "_law_base"] (defScope s_law_take) := ⟨rfl, rfl, rfl, by decide +kernel, rfl, by decide +kernel, by decide +kernel⟩
theorem nd_law_take : N_law_take.Nodup := sc_law_take.nd
theorem bp_law_take : BindP "_law_take" "_law_take" s_law_take ["_law_rest_here", "_law_base"] := fun _ _ _ _ _ _ us hl => match us, hl with | [_, _], _ => rfl
abbrev N_law_rest : List Str := ["_law_cell", "_law_number", "_law_found", "_law_k"]
theorem sc_law_rest : FnScope N_law_rest ["_law_cell"] (defScope s_law_rest) := ⟨rfl, rfl, rfl, by decide +kernel, rfl, by decide +kernel, by decide +kernel⟩
theorem nd_law_rest : N_law_rest.Nodup := sc_law_rest.nd
theorem bp_law_rest : BindP "_law_rest" "_law_rest" s_law_rest ["_law_cell"] := fun _ _ _ _ _ _ us hl => match us, hl with | [_], _ => rfl
abbrev N_law_letters : List Str := ["_law_rest_here", "_law_every", "_law_found", "_law_k", "_law_left", "_law_letter"]
theorem sc_law_letters : FnScope N_law_letters ["_law_rest_here"] (defScope s_law_letters) := ⟨rfl, rfl, rfl, by decide +kernel, rfl, by decide +kernel, by decide +kernel⟩
theorem nd_law_letters : N_law_letters.Nodup := sc_law_letters.nd
theorem bp_law_letters : BindP "_law_letters" "_law_letters" s_law_letters ["_law_rest_here"] := fun _ _ _ _ _ _ us hl => match us, hl with | [_], _ => rfl
abbrev N_law_sign : List Str := ["_law_rest_here", "_law_letters_here", "_law_great", "_law_letter"]
theorem sc_law_sign : FnScope N_law_sign ["_law_rest_here", "_law_letters_here", "_law_great"] (defScope s_law_sign) := ⟨rfl, rfl, rfl, by decide +kernel, rfl, by decide +kernel, by decide +kernel⟩
theorem nd_law_sign : N_law_sign.Nodup := sc_law_sign.nd
theorem bp_law_sign : BindP "_law_sign" "_law_sign" s_law_sign ["_law_rest_here", "_law_letters_here", "_law_great"] := fun _ _ _ _ _ _ us hl => match us, hl with | [_, _, _], _ => rfl
abbrev N_law_rows : List Str := ["_law_rest_here", "_law_letters_here", "_law_most", "_law_size", "_law_tall", "_law_wide", "_law_full", "_law_rows_here", "_law_row", "_law_text", "_law_column", "_law_free", "_law_line", "_law_spot"]
theorem sc_law_rows : FnScope N_law_rows ["_law_rest_here", "_law_letters_here", "_law_most"] (defScope s_law_rows) := ⟨rfl, rfl, rfl, by decide +kernel, rfl, by decide +kernel, by decide +kernel⟩
theorem nd_law_rows : N_law_rows.Nodup := sc_law_rows.nd
theorem bp_law_rows : BindP "_law_rows" "_law_rows" s_law_rows ["_law_rest_here", "_law_letters_here", "_law_most"] := fun _ _ _ _ _ _ us hl => match us, hl with | [_, _, _], _ => rfl
abbrev N_law_marks : List Str := ["_law_rest_here", "_law_rows_here", "_law_found", "_law_row", "_law_sign_here"]
theorem sc_law_marks : FnScope N_law_marks ["_law_rest_here", "_law_rows_here"] (defScope s_law_marks) := ⟨rfl, rfl, rfl, by decide +kernel, rfl, by decide +kernel, by decide +kernel⟩
theorem nd_law_marks : N_law_marks.Nodup := sc_law_marks.nd
theorem bp_law_marks : BindP "_law_marks" "_law_marks" s_law_marks ["_law_rest_here", "_law_rows_here"] := fun _ _ _ _ _ _ us hl => match us, hl with | [_, _], _ => rfl
abbrev N_law_begin : List Str := ["_law_rest_here", "_law_rows_here", "_law_spot"]
theorem sc_law_begin : FnScope N_law_begin ["_law_rest_here", "_law_rows_here"] (defScope s_law_begin) := ⟨rfl, rfl, rfl, by decide +kernel, rfl, by decide +kernel, by decide +kernel⟩
theorem nd_law_begin : N_law_begin.Nodup := sc_law_begin.nd
theorem bp_law_begin : BindP "_law_begin" "_law_begin" s_law_begin ["_law_rest_here", "_law_rows_here"] := fun _ _ _ _ _ _ us hl => match us, hl with | [_, _], _ => rfl
abbrev N_law_grid : List Str := ["_law_rows_here", "_law_laying", "_law_grid_here", "_law_row", "_law_column", "_law_sign_here"]
theorem sc_law_grid : FnScope N_law_grid ["_law_rows_here", "_law_laying"] (defScope s_law_grid) := ⟨rfl, rfl, rfl, by decide +kernel, rfl, by decide +kernel, by decide +kernel⟩
theorem nd_law_grid : N_law_grid.Nodup := sc_law_grid.nd
theorem bp_law_grid : BindP "_law_grid" "_law_grid" s_law_grid ["_law_rows_here", "_law_laying"] := fun _ _ _ _ _ _ us hl => match us, hl with | [_, _], _ => rfl
abbrev N_law_run : List Str := ["_law_grid_here", "_law_row", "_law_column", "_law_way", "_law_signs", "_law_here"]
theorem sc_law_run : FnScope N_law_run ["_law_grid_here", "_law_row", "_law_column", "_law_way"] (defScope s_law_run) := ⟨rfl, rfl, rfl, by decide +kernel, rfl, by decide +kernel, by decide +kernel⟩
theorem nd_law_run : N_law_run.Nodup := sc_law_run.nd
theorem bp_law_run : BindP "_law_run" "_law_run" s_law_run ["_law_grid_here", "_law_row", "_law_column", "_law_way"] := fun _ _ _ _ _ _ us hl => match us, hl with | [_, _, _, _], _ => rfl
abbrev N_law_words : List Str := ["_law_rows_here", "_law_laying", "_law_grid_here", "_law_line", "_law_runs", "_law_row", "_law_column", "_law_sign_here", "_law_run_here"]
theorem sc_law_words : FnScope N_law_words ["_law_rows_here", "_law_laying"] (defScope s_law_words) := ⟨rfl, rfl, rfl, by decide +kernel, rfl, by decide +kernel, by decide +kernel⟩
theorem nd_law_words : N_law_words.Nodup := sc_law_words.nd
theorem bp_law_words : BindP "_law_words" "_law_words" s_law_words ["_law_rows_here", "_law_laying"] := fun _ _ _ _ _ _ us hl => match us, hl with | [_, _], _ => rfl
abbrev N_law_is_near : List Str := ["_law_rows_here", "_law_row", "_law_column", "_law_there"]
theorem sc_law_is_near : FnScope N_law_is_near ["_law_rows_here", "_law_row", "_law_column"] (defScope s_law_is_near) := ⟨rfl, rfl, rfl, by decide +kernel, rfl, by decide +kernel, by decide +kernel⟩
theorem nd_law_is_near : N_law_is_near.Nodup := sc_law_is_near.nd
theorem bp_law_is_near : BindP "_law_is_near" "_law_is_near" s_law_is_near ["_law_rows_here", "_law_row", "_law_column"] := fun _ _ _ _ _ _ us hl => match us, hl with | [_, _, _], _ => rfl
abbrev N_law_starts : List Str := ["_law_rows_here", "_law_rest_here", "_law_free", "_law_near", "_law_row", "_law_column"]
theorem sc_law_starts : FnScope N_law_starts ["_law_rows_here", "_law_rest_here"] (defScope s_law_starts) := ⟨rfl, rfl, rfl, by decide +kernel, rfl, by decide +kernel, by decide +kernel⟩
theorem nd_law_starts : N_law_starts.Nodup := sc_law_starts.nd
theorem bp_law_starts : BindP "_law_starts" "_law_starts" s_law_starts ["_law_rows_here", "_law_rest_here"] := fun _ _ _ _ _ _ us hl => match us, hl with | [_, _], _ => rfl
abbrev N_law_straight : List Str := ["_law_rows_here", "_law_rest_here", "_law_letters_here", "_law_way", "_law_many", "_law_row", "_law_column", "_law_found", "_law_blanks", "_law_sign_here"]
theorem sc_law_straight : FnScope N_law_straight ["_law_rows_here", "_law_rest_here", "_law_letters_here"] (defScope s_law_straight) := ⟨rfl, rfl, rfl, by decide +kernel, rfl, by decide +kernel, by decide +kernel⟩
theorem nd_law_straight : N_law_straight.Nodup := sc_law_straight.nd
theorem bp_law_straight : BindP "_law_straight" "_law_straight" s_law_straight ["_law_rows_here", "_law_rest_here", "_law_letters_here"] := fun _ _ _ _ _ _ us hl => match us, hl with | [_, _, _], _ => rfl
abbrev N_law_joined : List Str := ["_law_rows_here", "_law_begin_here", "_law_cells", "_law_text", "_law_cell"]
theorem sc_law_joined : FnScope N_law_joined ["_law_rows_here", "_law_begin_here", "_law_cells"] (defScope s_law_joined) := ⟨rfl, rfl, rfl, by decide +kernel, rfl, by decide +kernel, by decide +kernel⟩
theorem nd_law_joined : N_law_joined.Nodup := sc_law_joined.nd
theorem bp_law_joined : BindP "_law_joined" "_law_joined" s_law_joined ["_law_rows_here", "_law_begin_here", "_law_cells"] := fun _ _ _ _ _ _ us hl => match us, hl with | [_, _, _], _ => rfl
abbrev N_law_cells_due : List Str := ["_law_rows_here", "_law_begin_here", "_law_laying", "_law_cells", "_law_row", "_law_column", "_law_sign_here"]
theorem sc_law_cells_due : FnScope N_law_cells_due ["_law_rows_here", "_law_begin_here", "_law_laying"] (defScope s_law_cells_due) := ⟨rfl, rfl, rfl, by decide +kernel, rfl, by decide +kernel, by decide +kernel⟩
theorem nd_law_cells_due : N_law_cells_due.Nodup := sc_law_cells_due.nd
theorem bp_law_cells_due : BindP "_law_cells_due" "_law_cells_due" s_law_cells_due ["_law_rows_here", "_law_begin_here", "_law_laying"] := fun _ _ _ _ _ _ us hl => match us, hl with | [_, _, _], _ => rfl
abbrev N_law_class : List Str := ["_law_error", "_law_some", "_law_one"]
theorem sc_law_class : FnScope N_law_class ["_law_error"] (defScope s_law_class) := ⟨rfl, rfl, rfl, by decide +kernel, rfl, by decide +kernel, by decide +kernel⟩
theorem nd_law_class : N_law_class.Nodup := sc_law_class.nd
theorem bp_law_class : BindP "_law_class" "_law_class" s_law_class ["_law_error"] := fun _ _ _ _ _ _ us hl => match us, hl with | [_], _ => rfl
abbrev N_law_caught : List Str := ["_law_board", "_law_book", "_law_rack_here", "_law_laying", "_law_caught_here", "e"]
theorem sc_law_caught : FnScope N_law_caught ["_law_board", "_law_book", "_law_rack_here", "_law_laying"] (defScope s_law_caught) := ⟨rfl, rfl, rfl, by decide +kernel, rfl, by decide +kernel, by decide +kernel⟩
theorem nd_law_caught : N_law_caught.Nodup := sc_law_caught.nd
theorem bp_law_caught : BindP "_law_caught" "_law_caught" s_law_caught ["_law_board", "_law_book", "_law_rack_here", "_law_laying"] := fun _ _ _ _ _ _ us hl => match us, hl with | [_, _, _, _], _ => rfl
abbrev N_law_bent : List Str := ["_law_laying", "_law_rest_here", "_law_rows_here", "_law_some", "_law_bend", "_law_at", "_law_spot", "_law_found", "_law_row", "_law_column", "_law_sign_here", "_law_one"]
theorem sc_law_bent : FnScope N_law_bent ["_law_laying", "_law_rest_here", "_law_rows_here"] (defScope s_law_bent) := ⟨rfl, rfl, rfl, by decide +kernel, rfl, by decide +kernel, by decide +kernel⟩
theorem nd_law_bent : N_law_bent.Nodup := sc_law_bent.nd
theorem bp_law_bent : BindP "_law_bent" "_law_bent" s_law_bent ["_law_laying", "_law_rest_here", "_law_rows_here"] := fun _ _ _ _ _ _ us hl => match us, hl with | [_, _, _], _ => rfl
abbrev N_law_rack : List Str := ["_law_laying", "_law_rest_here", "_law_letters_here", "_law_tiles", "_law_row", "_law_column", "_law_sign_here", "_law_turn", "_law_some", "_law_found", "_law_tile", "_law_more"]
theorem sc_law_rack : FnScope N_law_rack ["_law_laying", "_law_rest_here", "_law_letters_here"] (defScope s_law_rack) := ⟨rfl, rfl, rfl, by decide +kernel, rfl, by decide +kernel, by decide +kernel⟩
theorem nd_law_rack : N_law_rack.Nodup := sc_law_rack.nd
theorem bp_law_rack : BindP "_law_rack" "_law_rack" s_law_rack ["_law_laying", "_law_rest_here", "_law_letters_here"] := fun _ _ _ _ _ _ us hl => match us, hl with | [_, _, _], _ => rfl
abbrev N_law_known : List Str := ["_law_rows_here", "_law_laying", "_law_rest_here", "_law_letters_here", "_law_words_here", "_law_row", "_law_column", "_law_way", "_law_signs", "_law_k"]
theorem sc_law_known : FnScope N_law_known ["_law_rows_here", "_law_laying", "_law_rest_here", "_law_letters_here"] (defScope s_law_known) := ⟨rfl, rfl, rfl, by decide +kernel, rfl, by decide +kernel, by decide +kernel⟩
theorem nd_law_known : N_law_known.Nodup := sc_law_known.nd
theorem bp_law_known : BindP "_law_known" "_law_known" s_law_known ["_law_rows_here", "_law_laying", "_law_rest_here", "_law_letters_here"] := fun _ _ _ _ _ _ us hl => match us, hl with | [_, _, _, _], _ => rfl
abbrev N_law_turned : List Str := ["_law_laying", "_law_row", "_law_column", "_law_sign_here"]
theorem sc_law_turned : FnScope N_law_turned ["_law_laying"] (defScope s_law_turned) := ⟨rfl, rfl, rfl, by decide +kernel, rfl, by decide +kernel, by decide +kernel⟩
theorem nd_law_turned : N_law_turned.Nodup := sc_law_turned.nd
theorem bp_law_turned : BindP "_law_turned" "_law_turned" s_law_turned ["_law_laying"] := fun _ _ _ _ _ _ us hl => match us, hl with | [_], _ => rfl
abbrev N_law_same_words : List Str := ["_law_board", "_law_laying", "_law_ones", "_law_others", "_law_row", "_law_column", "_law_way", "_law_signs"]
theorem sc_law_same_words : FnScope N_law_same_words ["_law_board", "_law_laying"] (defScope s_law_same_words) := ⟨rfl, rfl, rfl, by decide +kernel, rfl, by decide +kernel, by decide +kernel⟩
theorem nd_law_same_words : N_law_same_words.Nodup := sc_law_same_words.nd
theorem bp_law_same_words : BindP "_law_same_words" "_law_same_words" s_law_same_words ["_law_board", "_law_laying"] := fun _ _ _ _ _ _ us hl => match us, hl with | [_, _], _ => rfl
abbrev N_law : List Str := ["_law_script", "_law_letters_here", "_law_rows_here", "_law_rest_here", "_law_begin_here", "_law_board", "_law_other", "_law_cell", "_law_laying", "_law_rack_here", "_law_words_here", "_law_good", "_law_book", "_law_one", "_law_two"]
theorem sc_law : FnScope N_law ["_law_script"] (defScope s_law) := ⟨rfl, rfl, rfl, by decide +kernel, rfl, by decide +kernel, by decide +kernel⟩
theorem nd_law : N_law.Nodup := sc_law.nd
theorem bp_law : BindP "law" "law" s_law ["_law_script"] := fun _ _ _ _ _ _ us hl => match us, hl with | [_], _ => rfl
theorem un65 {k : Nat} {A : Around} (hr : Room k A) : A.units + 65 < cLine := by have := hr.un; omega
section
variable {K : PySem.W.Frag} {σ : L2.St} {H : Hp} {Q : VK} {A : Prop}
theorem k_isS {z : Str} (k : Q (.bl true) H) : rIsi K [.str z, .ty "str"] H Q := k_isI (.base (.str z)) rfl k
theorem k_isInt {i : Int} (k : Q (.bl true) H) : rIsi K [.int i, .ty "int"] H Q := k_isI (.base (.int i)) rfl k
theorem k_isIB {i : Int} (k : Q (.bl false) H) : rIsi K [.int i, .ty "bool"] H Q := k_isI (.base (.int i)) rfl k
theorem k_isT {p : Addr} {xs : List V} (h : H p = some (.tup xs)) (k : Q (.bl true) H) : rIsi K [.ref p, .ty "tuple"] H Q := k_isI (.base (.tup h)) rfl k
theorem k_yes {P : Bool → Hp → Prop} (k : P true H) : tYes σ H P := k
theorem k_lenT1 {c : Nat} (k : Q (.int 1) H) : rLenT [.str (mk [c])] H Q := k_lenT (l := [c]) (by simp) k
theorem k_itTr {A B : Prop} {p : Prop} [Decidable p] (h : p) (k : A) : if decide p = true then A else B := k_ited (fun _ => k) fun n => (n h).elim
theorem k_itFa {A B : Prop} {p : Prop} [Decidable p] (h : ¬ p) (k : B) : if decide p = true then A else B := k_ited (fun q => (h q).elim) fun _ => k
theorem k_itnTr {A B : Prop} {p : Prop} [Decidable p] (h : p) (k : B) : if (!decide p) = true then A else B := k_itend (fun n => (n h).elim) fun _ => k
theorem k_itnFa {A B : Prop} {p : Prop} [Decidable p] (h : ¬ p) (k : A) : if (!decide p) = true then A else B := k_itend (fun _ => k) fun q => (h q).elim
theorem q_bl {a b : Bool} (e : a = b) (k : Q (.bl b) H) : Q (.bl a) H := by rw [e]; exact k
theorem q_int {a b : Int} (e : a = b) (k : Q (.int b) H) : Q (.int a) H := by rw [e]; exact k
theorem q_str {a b : List Nat} (e : a = b) (k : Q (.str (mk b)) H) : Q (.str (mk a)) H := by rw [e]; exact k
end
section
variable {K : PySem.W.Frag} {σ : L2.St} {H : Hp} {Q : VK} {α : Type} {F : α → PyData} {l : List α} {vs : List V} {i : Nat} {x : V} {t d : α}
theorem lay_open {L : List Tri} {v : V} (h : At H (layD L) v) : ∃ a vs, v = .ref a ∧ H a = some (.tup vs) ∧ AtAll H (L.map triD) vs := at_tup' h
theorem map_get (h : AtAll H (l.map F) vs) (e : vs[i]? = some x) : ∃ t, l[i]? = some t ∧ At H (F t) x := by
  obtain ⟨d, e1, e2⟩ := h.get e
  rw [List.getElem?_map] at e1
  cases q : l[i]? with
  | none => rw [q] at e1; cases e1
  | some t => rw [q] at e1; cases e1; exact ⟨t, rfl, e2⟩
theorem map_get' (h : AtAll H (l.map F) vs) (e : l[i]? = some t) : ∃ x, vs[i]? = some x ∧ At H (F t) x := h.get' (by rw [List.getElem?_map, e]; rfl)
theorem map_len (h : AtAll H (l.map F) vs) : vs.length = l.length := by rw [h.len, List.length_map]
theorem head_get (ne : l ≠ []) : l[0]? = some (l.headD d) := by cases l with | nil => exact (ne rfl).elim | cons a r => rfl
theorem last_get (ne : l ≠ []) : l.getLast? = some (l.getLastD d) := by
  rw [List.getLast?_eq_some_getLast ne, List.getLastD_eq_getLast?, List.getLast?_eq_some_getLast ne]; rfl
theorem map_head (h : AtAll H (l.map F) vs) (ne : l ≠ []) : ∃ x, vs[0]? = some x ∧ At H (F (l.headD d)) x := map_get' h (head_get ne)
theorem map_last (h : AtAll H (l.map F) vs) (ne : l ≠ []) : ∃ x, vs.getLast? = some x ∧ At H (F (l.getLastD d)) x := by
  have e : l[l.length - 1]? = some (l.getLastD d) := by rw [← List.getLast?_eq_getElem?]; exact last_get ne
  obtain ⟨x, e1, e2⟩ := map_get' h e
  refine ⟨x, ?_, e2⟩
  rw [List.getLast?_eq_getElem?, map_len h]; exact e1
theorem atN_row {g : Grid} {r c : Nat} (h : g.length ≤ r) : atN g r c = 46 := by
  unfold atN
  rw [List.getD_eq_getElem?_getD (l := g), List.getElem?_eq_none h]; rfl
theorem atN_col {g : Grid} {w r c : Nat} (k : ∀ r ∈ g, r.length = w) (h : w ≤ c) : atN g r c = 46 := by
  unfold atN
  by_cases q : r < g.length
  · rw [List.getD_eq_getElem?_getD (l := g), List.getElem?_eq_getElem q, Option.getD_some, List.getD_eq_getElem?_getD, List.getElem?_eq_none (by rw [k _ (List.getElem_mem q)]; exact h)]; rfl
  · exact atN_row (by omega)
theorem atN_get {g : Grid} {w r c : Nat} (k : ∀ r ∈ g, r.length = w) (hr : r < g.length) (hc : c < w) : ∃ l, g[r]? = some l ∧ l.length = w ∧ l[c]? = some (atN g r c) := by
  refine ⟨g[r], List.getElem?_eq_getElem hr, k _ (List.getElem_mem hr), ?_⟩
  unfold atN
  have q : c < g[r].length := by rw [k _ (List.getElem_mem hr)]; exact hc
  rw [List.getD_eq_getElem?_getD (l := g), List.getElem?_eq_getElem hr, Option.getD_some, List.getD_eq_getElem?_getD, List.getElem?_eq_getElem q]; rfl
theorem atI_nat' {g : Grid} {r c : Nat} : LR.atI g r c = atN g r c := by
  unfold LR.atI
  rw [if_pos ⟨by omega, by omega⟩]; rfl
theorem gmap {g : Grid} {r : Nat} {l : List Nat} (h : g[r]? = some l) : (g.map fun l => V.str (mk l))[r]? = some (.str (mk l)) := by rw [List.getElem?_map, h]; rfl
theorem GridOk.pos {g : Grid} {h w : Nat} (k : GridOk g h w) : 0 < g.length := by rw [k.len]; exact k.h1
theorem GridOk.ne {g : Grid} {h w : Nat} (k : GridOk g h w) : g ≠ [] := fun e => by have := k.pos; rw [e] at this; cases this
theorem GridOk.top {g : Grid} {h w : Nat} (k : GridOk g h w) : ∃ l, g[0]? = some l ∧ l.length = w := ⟨g[0]'k.pos, List.getElem?_eq_getElem k.pos, k.row _ (List.getElem_mem k.pos)⟩
end
section
variable {K : PySem.W.Frag} {σ : L2.St} {H : Hp} {Q : VK} {A B : Prop}
theorem k_bT {b : Bool} (h : b = true) (k : A) : if b = true then A else B := by rw [if_pos h]; exact k
theorem k_bF {b : Bool} (h : b = false) (k : B) : if b = true then A else B := by rw [if_neg (by rw [h]; exact Bool.false_ne_true)]; exact k
theorem k_nT {b : Bool} (h : b = true) (k : B) : if (!b) = true then A else B := k_bF (by rw [h]; rfl) k
theorem k_nF {b : Bool} (h : b = false) (k : A) : if (!b) = true then A else B := k_bT (by rw [h]; rfl) k
theorem BoardAt.same {H' : Hp} {b : Addr} {g m : Grid} {beg : Cel} (x : Same H H') (h : BoardAt K H b g m beg) : BoardAt K H' b g m beg := by
  obtain ⟨dx, v1, v2, v3, hb, h1, h2, h3⟩ := h
  exact ⟨dx, v1, v2, v3, x _ _ hb, h1.mono (Tk.same x), h2.mono (Tk.same x), h3.mono (Tk.same x)⟩
theorem LsAt.same {H' : Hp} {p : Addr} {ds : List PyData} (x : Same H H') (h : LsAt H p ds) : LsAt H' p ds := by
  obtain ⟨vs, h1, h2⟩ := h
  exact ⟨vs, x _ _ h1, h2.mono (Tk.same x)⟩
theorem At.same {H' : Hp} {d : PyData} {v : V} (x : Same H H') (h : At H d v) : At H' d v := h.mono (Tk.same x)
theorem AtAll.same {H' : Hp} {d : List PyData} {v : List V} (x : Same H H') (h : AtAll H d v) : AtAll H' d v := h.mono (Tk.same x)
end
section
variable {X : Cx}
theorem ix_of {X : Cx} {r : R2} (r' : R2) (h : IxR X r) (e : r = r') : IxR X r' := e ▸ h
theorem op_of {X : Cx} {f : Value → Value → Sem Value} {r : R2} (r' : R2) (h : OpR X f r) (e : r = r') : OpR X f r' := e ▸ h
theorem call_of {X : Cx} {f : Value} {r : List V → Hp → VK → Prop} (r' : List V → Hp → VK → Prop) (h : CallR X f r) (e : r = r') : CallR X f r' := e ▸ h
theorem mt_of {X : Cx} {id : String} {r : V → List V → Hp → VK → Prop} (r' : V → List V → Hp → VK → Prop) (h : MtR X id r) (e : r = r') : MtR X id r' := e ▸ h
variable {o e : Expr} {es : List Expr} {to : TE} {t : TA} {name : Str} {apos cpos : Pos} {T id : String} {r : V → List V → Hp → VK → Prop} {K : PySem.W.Frag}
theorem pe_bm0E (hK : X.K = K) (pa : PlainAttrs T) (slot : Slot T name id) (hty : typeOf (.builtin id) = pure (.type "method_descriptor")) (hm : MtR X id r) (ho : PE X o to)
    (hbase : attributeBase o name X.env (eval o X.env) = eval o X.env := by rfl) (hline : (apos.endLine == cpos.line) = true := by rfl) : PE X (.Call (.Attribute o name apos) [] [] cpos) (tBM0 K T r to) := by
  rw [← hK]
  exact pe_bm0 pa slot hty hm ho hbase hline
theorem pe_bmE (hK : X.K = K) (pa : PlainAttrs T) (slot : Slot T name id) (hty : typeOf (.builtin id) = pure (.type "method_descriptor")) (hm : MtR X id r) (ho : PE X o to) (ha : PA X (e :: es) t)
    (hbase : attributeBase o name X.env (eval o X.env) = eval o X.env := by rfl)
    (hfew : ((backTo cpos (starEach (e :: es) X.env)).all (fun x => !x.1) && (backToKw cpos (keywordEach [] X.env)).all (fun x => x.1.isSome)
      && decide ((e :: es).length + ([] : List Keyword).length + (if ([] : List Keyword).isEmpty then 0 else 1) < 30)) = true := by rfl)
    (hline : (apos.endLine == cpos.line) = true := by rfl) (hs : starEach (e :: es) X.env = (false, eval e X.env) :: starEach es X.env := by rfl) (hplain : (backTo cpos (starEach es X.env)).any (·.1) = false := by rfl) :
    PE X (.Call (.Attribute o name apos) (e :: es) [] cpos) (tBM K T r to t) := by
  rw [← hK]
  exact pe_bm pa slot hty hm ho ha hbase hfew hline hs hplain
end
/-! ### data: layable, equal -/
theorem lay_str {l : List Nat} (h : ∀ c ∈ l, c < 1114112) : (sD l).canLay0 = true := by
  simp only [PyData.canLay0, PyData.strOk]
  rw [Array.all_eq_true]
  intro i hi
  simp only [decide_eq_true_eq]
  exact h _ (by simpa using Array.getElem_mem hi)
theorem lay_list {ds : List PyData} (h : ∀ d ∈ ds, d.canLay0 = true) : PyData.canLayAll0 ds = true := by
  induction ds with
  | nil => rfl
  | cons d r ih => rw [PyData.canLayAll0, h d (List.mem_cons_self ..), ih fun x m => h x (List.mem_cons_of_mem _ m)]; rfl
theorem dep_list {ds : List PyData} {n : Nat} (h : ∀ d ∈ ds, d.depth ≤ n) : PyData.depthAll ds ≤ n := by
  induction ds with
  | nil => exact Nat.zero_le _
  | cons d r ih =>
    rw [PyData.depthAll]
    exact Nat.max_le.mpr ⟨h d (List.mem_cons_self ..), ih fun x m => h x (List.mem_cons_of_mem _ m)⟩
theorem shp {d : PyData} (h : d.canLay0 = true) (k : d.depth ≤ 64) : SeqAt.shaped d = true := by
  show (d.canLay0 && decide (d.depth ≤ 64)) = true
  rw [h, decide_eq_true k]; rfl
theorem shp_list {ds : List PyData} (h : ∀ d ∈ ds, d.canLay0 = true ∧ d.depth ≤ 60) : SeqAt.shaped (.list ds) = true := shp (by simp only [PyData.canLay0]; exact lay_list fun d m => (h d m).1) (by
  simp only [PyData.depth]
  have := dep_list (n := 60) fun d m => (h d m).2
  omega)
theorem shp_tup {ds : List PyData} (h : ∀ d ∈ ds, d.canLay0 = true ∧ d.depth ≤ 60) : SeqAt.shaped (.tuple ds) = true := shp (by simp only [PyData.canLay0]; exact lay_list fun d m => (h d m).1) (by
  simp only [PyData.depth]
  have := dep_list (n := 60) fun d m => (h d m).2
  omega)
theorem cell_lay (c : Cel) : (cellD c).canLay0 = true ∧ (cellD c).depth ≤ 60 := ⟨rfl, by simp [cellD, PyData.depth, PyData.depthAll]⟩
theorem cell_shp (c : Cel) : SeqAt.shaped (cellD c) = true := shp (cell_lay c).1 (by have := (cell_lay c).2; omega)
theorem cells_shp (cs : List Cel) : SeqAt.shaped (.list (cs.map cellD)) = true := shp_list fun d m => by
  obtain ⟨c, _, rfl⟩ := List.mem_map.mp m
  exact cell_lay c
theorem cell_eqv (z d : Cel) : PyData.eqv (cellD z) (cellD d) = decide (z = d) := by
  obtain ⟨a, b⟩ := z
  obtain ⟨c, e⟩ := d
  have q : PyData.eqv (cellD (a, b)) (cellD (c, e)) = (((a : Int) == (c : Int)) && (((b : Int) == (e : Int)) && true)) := by simp only [cellD, PyData.eqv, PyData.eqvAll]
  rw [q, Bool.and_true]
  by_cases h1 : a = c
  · by_cases h2 : b = e
    · subst h1 h2; simp
    · have e2 : ((b : Int) == (e : Int)) = false := beq_eq_false_iff_ne.mpr (by omega)
      rw [e2, decide_eq_false (by intro z; cases z; exact h2 rfl), Bool.and_false]
  · have e1 : ((a : Int) == (c : Int)) = false := beq_eq_false_iff_ne.mpr (by omega)
    rw [e1, decide_eq_false (by intro z; cases z; exact h1 rfl), Bool.false_and]
theorem cells_any (cs : List Cel) (d : Cel) : ((cs.map cellD).any fun z => PyData.eqv z (cellD d)) = cs.any fun z => decide (z = d) := by
  rw [List.any_map]
  congr 1
  funext z
  exact cell_eqv z d
section
variable {K : PySem.W.Frag} {H : Hp} {Q : VK}
theorem k_inCells {x : V} {p : Addr} {c : Cel} {cs : List Cel} (h : At H (cellD c) x) (k : LsAt H p (cs.map cellD)) (q : Q (.bl (cs.any fun z => decide (z = c))) H) : rInD K x (.ref p) H Q := by
  obtain ⟨vs, h1, h2⟩ := k
  exact ⟨cellD c, cs.map cellD, h.dp _ _, .lst (SqL.of h1) (h2.dp _ _), cell_shp c, cells_shp cs, by rw [cells_any]; exact q⟩
theorem k_ninCells {x : V} {p : Addr} {c : Cel} {cs : List Cel} (h : At H (cellD c) x) (k : LsAt H p (cs.map cellD)) (q : Q (.bl (!cs.any fun z => decide (z = c))) H) : rNotInD K x (.ref p) H Q := by
  obtain ⟨vs, h1, h2⟩ := k
  exact ⟨cellD c, cs.map cellD, h.dp _ _, .lst (SqL.of h1) (h2.dp _ _), cell_shp c, cells_shp cs, by rw [cells_any]; exact q⟩
theorem k_ltC {a b : Addr} {c d : Cel} (h : H a = some (.tup [.int (c.1 : Int), .int (c.2 : Int)])) (k : H b = some (.tup [.int (d.1 : Int), .int (d.2 : Int)])) (lt : cLt c d) (q : Q (.bl true) H) : rLtT K (.ref a) (.ref b) H Q := by
  refine ⟨a, b, [(c.1 : Int), (c.2 : Int)], [(d.1 : Int), (d.2 : Int)], rfl, rfl, SqT.of h, SqT.of k, ?_⟩
  have e : HT.lexLt [(c.1 : Int), (c.2 : Int)] [(d.1 : Int), (d.2 : Int)] = true := by
    rw [HT.lexLt_cons, HT.lexLt_cons]
    rcases lt with lt | ⟨l1, l2⟩
    · rw [if_neg (by omega)]; exact decide_eq_true (by omega)
    · rw [if_pos (by omega), if_neg (by omega)]; exact decide_eq_true (by omega)
  rw [e]; exact q
end
theorem headD_mem {α : Type} {l : List α} (d : α) (h : l ≠ []) : l.headD d ∈ l := by cases l with | nil => exact (h rfl).elim | cons a r => exact List.mem_cons_self ..
theorem lastD_mem {α : Type} {l : List α} (d : α) (h : l ≠ []) : l.getLastD d ∈ l := by
  have := last_get (d := d) h
  rw [List.getLast?_eq_some_getLast h] at this
  rw [← Option.some.inj this]; exact List.getLast_mem h
theorem any_take {α : Type} {l : List α} {f : α → Bool} {i : Nat} {x : α} (h : l[i]? = some x) : (l.take (i + 1)).any f = ((l.take i).any f || f x) := by
  rw [List.take_add_one, h, List.any_append]; simp
theorem any_at {α : Type} {l : List α} {f : α → Bool} {i : Nat} {x : α} (h : l[i]? = some x) (k : f x = true) : l.any f = true := List.any_eq_true.mpr ⟨x, List.mem_of_getElem? h, k⟩
theorem LayOk.lt {h w : Nat} {L : List Tri} (o : LayOk h w L) {i : Nat} {a b : Tri} (e : L[i]? = some a) (k : L[i + 1]? = some b) : cLt (cel a) (cel b) := by
  obtain ⟨h1, e1⟩ := List.getElem?_eq_some_iff.mp e
  obtain ⟨h2, e2⟩ := List.getElem?_eq_some_iff.mp k
  rw [← e1, ← e2]
  exact List.pairwise_iff_getElem.mp o.asc i (i + 1) h1 h2 (by omega)
/-! ### joins, fields, dicts -/
theorem join_e (l : List (List Nat)) : Txt.join (mk []) (l.map mk) = mk l.flatten := by
  have h : ∀ l : List (List Nat), TL.joinL [] l = l.flatten := by
    intro l
    induction l with
    | nil => rfl
    | cons a r ih =>
      cases r with
      | nil => simp [TL.joinL]
      | cons b r => simp only [TL.joinL, List.flatten_cons] at ih ⊢; rw [List.nil_append, ih]
  rw [TL.join_eq]
  refine TL.ext_tl ?_
  rw [TL.tl_join, List.map_map]
  show TL.joinL [] (l.map fun x => x) = _
  rw [List.map_id', h]
theorem len_sum (l : List (List Nat)) : (l.map fun x => (mk x).length).sum = l.flatten.length := by
  induction l with
  | nil => rfl
  | cons a r ih => rw [List.map_cons, List.sum_cons, ih, List.flatten_cons, List.length_append, mk_len]
theorem flat_len (l : List (List Nat)) (n : Nat) (h : ∀ x ∈ l, x.length ≤ n) : l.flatten.length ≤ l.length * n := by
  induction l with
  | nil => simp
  | cons a r ih =>
    rw [List.flatten_cons, List.length_append, List.length_cons, Nat.succ_mul]
    have := h a (List.mem_cons_self ..)
    have := ih fun x m => h x (List.mem_cons_of_mem _ m)
    omega
section
variable {K : PySem.W.Frag} {σ : L2.St} {H : Hp} {Q : VK} {ta tb td ty tv : TE} {nx bk ct : L2.St → Hp → Prop} {rt : VK} {x y : V}
theorem k_join {p : Addr} {l : List (List Nat)} (h : H p = some (.lst (l.map fun t => V.str (mk t))) ∨ H p = some (.tup (l.map fun t => V.str (mk t)))) (hn : l.flatten.length ≤ 100000) (k : Q (.str (mk l.flatten)) H) : rJoin K (.str (mk [])) [.ref p] H Q := by
  refine ⟨mk [], p, l.map mk, rfl, rfl, ?_, ?_, by rw [join_e]; exact k⟩
  · rw [List.map_map]
    rcases h with h | h
    · exact .inl (SqL.of h)
    · exact .inr (SqT.of h)
  · rw [List.map_map, show ((fun z : Str => z.length) ∘ mk) = (fun x => (mk x).length) from rfl, len_sum, mk_len]
    show _ + _ * 0 ≤ _
    omega
theorem k_sfld {f : Str} (k : tv σ H fun y H1 => ta σ H1 fun x H2 => ∃ a C dx fs, x = .ref a ∧ H2 a = some (.ins C dx fs) ∧ Cls K C ∧ NoAttr K C f ∧ fs.length < 1000 ∧ nx σ (upd H2 a (.ins C dx (putF f y fs)))) : sFld K ta tv f ⟨nx, rt, bk, ct⟩ σ H := k
theorem k_sf {f : Str} {a C dx : Addr} {fs : List (Str × V)} {Qh : Hp → Prop} (h : H a = some (.ins C dx fs)) (c : Cls K C) (n : NoAttr K C f) (l : Nat.blt fs.length 1000 = true) (k : Qh (upd H a (.ins C dx (putF f y fs)))) :
    ∃ a2 C dx fs, V.ref a = .ref a2 ∧ H a2 = some (.ins C dx fs) ∧ Cls K C ∧ NoAttr K C f ∧ fs.length < 1000 ∧ Qh (upd H a2 (.ins C dx (putF f y fs))) := ⟨a, C, dx, fs, rfl, h, c, n, by have := Nat.le_of_ble_eq_true l; omega, k⟩
theorem k_dnK (k : ∀ p, H p = none → Q (.ref p) (upd H p (.dK []))) : tDNewK σ H Q := k
theorem k_dnT (k : ∀ p, H p = none → Q (.ref p) (upd H p (.dT []))) : tDNewT σ H Q := k
theorem k_dput (k : tv σ H fun v H1 => td σ H1 fun x H2 => ty σ H2 fun y H3 => ∃ a H4, x = .ref a ∧ DPut H3 a y v H4 ∧ nx σ H4) : sDPut td ty tv ⟨nx, rt, bk, ct⟩ σ H := k
theorem k_din (k : ty σ H fun y H1 => td σ H1 fun x H2 => ∃ a o, x = .ref a ∧ DGet H2 a y o ∧ Q (.bl o.isSome) H2) : tDIn ty td σ H Q := k
theorem k_dget (k : td σ H fun x H1 => ty σ H1 fun y H2 => ∃ a v, x = .ref a ∧ DGet H2 a y (some v) ∧ Q v H2) : tDGet td ty σ H Q := k
theorem k_make {C : Addr} {sp : Sp} {dvs : List V} {E : XK} {t : TA} (k : t σ H fun vs H1 => ∀ x dx, H1 x = none → H1 dx = none → dx ≠ x → sp (.ref x :: (vs ++ dvs)) (upd (upd H1 dx (.own x)) x (.ins C dx [])) (fun v H2 => v = .non ∧ Q (.ref x) H2) E) : tMake C sp dvs E t σ H Q := k
theorem k_set {p : Addr} {xs : List V} {j : Nat} {v : V} {Qh : Hp → Prop} (h : H p = some (.lst xs)) (hj : j < xs.length) (k : Qh (upd H p (.lst (xs.set j v)))) : rSetL (.ref p) (.int (j : Int)) v H Qh :=
  ⟨p, xs, j, j, rfl, rfl, h, by unfold ixN; rw [if_pos (by omega)]; simp; omega, k⟩
theorem k_gsub {ti : TE} {ts : TSet} {v : V} {P : L2.St → Hp → Prop} (k : ta σ H fun o H1 => ti σ H1 fun i H2 => ts o i v H2 fun H3 => P σ H3) : gSub ta ti ts v σ H P := k
end
theorem free_eq (g : Grid) : ((g.flatten.map fun c => decide ([c] = [46])).all id) = freeM g := by
  rw [List.all_map, List.all_flatten]
  unfold freeM
  congr 1
  funext r
  congr 1
  funext c
  by_cases h : c = 46
  · simp [h]
  · simp [h]
def nearD : List (Int × Int) := [(-1, 0), (0, -1), (0, 1), (1, 0)]
theorem nearM_eq (g : Grid) (c : Cel) : nearM g c = nearD.any fun d => decide (LR.atI g ((c.1 : Int) + d.1) ((c.2 : Int) + d.2) ≠ 46) := by
  simp [nearM, nearD, Bool.or_assoc]
theorem trG_row {g : Grid} {w : Nat} : ∀ r ∈ trG w g, r.length = g.length := fun r m => by
  unfold trG at m
  obtain ⟨c, _, rfl⟩ := List.mem_map.mp m
  rw [List.length_map]
theorem trG_len {g : Grid} {w : Nat} : (trG w g).length = w := by unfold trG; rw [List.length_map, List.length_range]
theorem trG_mem {g : Grid} {w : Nat} (hr : ∀ r ∈ g, r.length = w) : ∀ r ∈ trG w g, ∀ c ∈ r, ∃ q ∈ g, c ∈ q := fun r m c k => by
  unfold trG at m
  obtain ⟨i, hi, rfl⟩ := List.mem_map.mp m
  obtain ⟨q, hq, rfl⟩ := List.mem_map.mp k
  refine ⟨q, hq, ?_⟩
  have : i < q.length := by rw [hr q hq]; exact List.mem_range.mp hi
  rw [List.getD_eq_getElem?_getD, List.getElem?_eq_getElem this]
  exact List.getElem_mem this
theorem GridOk.tr {g : Grid} {h w : Nat} (k : GridOk g h w) : GridOk (trG w g) w h := ⟨trG_len, fun r m => by rw [trG_row r m, k.len], k.w1, k.w9, k.h1, k.h9, fun r m c j => by
  obtain ⟨q, h1, h2⟩ := trG_mem k.row r m c j
  exact k.sg q h1 c h2⟩
theorem MarkOk.tr {g m : Grid} {h w : Nat} (k : MarkOk m h w) (_ : GridOk g h w) : MarkOk (trG w m) w h := ⟨trG_len, fun r q => by rw [trG_row r q, k.len], fun r m c j => by
  obtain ⟨q, h1, h2⟩ := trG_mem k.row r m c j
  exact k.mks q h1 c h2⟩
/-- the dict of a book -/
def bookD (ws : List (List Nat)) : List (Key × V) := ws.foldl (fun kvs t => putK kvs (Sum.inr (mk t)) (.bl true)) []
theorem bookD_take {ws : List (List Nat)} {i : Nat} {t : List Nat} (h : ws[i]? = some t) : bookD (ws.take (i + 1)) = putK (bookD (ws.take i)) (Sum.inr (mk t)) (.bl true) := by
  unfold bookD
  rw [List.take_add_one, h, List.foldl_append]; rfl
theorem putK_len {κ : Type} [DecidableEq κ] (kvs : List (κ × V)) (k : κ) (v : V) : (putK kvs k v).length ≤ kvs.length + 1 := by
  unfold putK
  split
  · rw [List.length_map]; omega
  · rw [List.length_append]; exact Nat.le_refl _
theorem bookD_len (ws : List (List Nat)) : (bookD ws).length ≤ ws.length := by
  have h : ∀ (ws : List (List Nat)) (a : List (Key × V)), (ws.foldl (fun kvs t => putK kvs (Sum.inr (mk t)) (.bl true)) a).length ≤ a.length + ws.length := by
    intro ws
    induction ws with
    | nil => intro a; exact Nat.le_refl _
    | cons t r ih =>
      intro a
      have h1 := ih (putK a (Sum.inr (mk t)) (.bl true))
      have h2 := putK_len a (Sum.inr (mk t)) (.bl true)
      rw [List.foldl_cons, List.length_cons]
      omega
  have := h ws []
  simpa [bookD] using this
theorem bookD_val (ws : List (List Nat)) (t : List Nat) : (valV (bookD ws) (Sum.inr (mk t))).isSome = decide (t ∈ ws) := by
  have h : ∀ (ws : List (List Nat)) (a : List (Key × V)), (valV (ws.foldl (fun kvs t => putK kvs (Sum.inr (mk t)) (.bl true)) a) (Sum.inr (mk t))).isSome = (decide (t ∈ ws) || (valV a (Sum.inr (mk t))).isSome) := by
    intro ws
    induction ws with
    | nil => intro a; simp
    | cons y r ih =>
      intro a
      rw [List.foldl_cons, ih, valV_put]
      by_cases e : t = y
      · subst e; simp
      · rw [if_neg (fun q => e (mk_inj (Sum.inr.inj q)))]
        simp [e]
  have := h ws []
  simpa [bookD, valV_nil] using this

theorem pi_of {X : Cx} {tg iter : Expr} {t : TI} (t' : TI) (h : PI X tg iter t) (e : t = t') : PI X tg iter t' := e ▸ h
theorem flat_single {α : Type} (f : α → Nat) (l : List α) : (l.map fun r => [f r]).flatten = l.map f := by
  induction l with
  | nil => rfl
  | cons a r ih => rw [List.map_cons, List.flatten_cons, ih]; rfl

section
variable {K : PySem.W.Frag} {σ : L2.St} {H : Hp} {Q : VK} {to te : TE} {ta : TA} {nx bk ct : L2.St → Hp → Prop} {rt : VK}
theorem k_vei (k : ta σ H fun vs H1 => ∃ (a C : Addr) (ws : List V), vs = .ref a :: ws ∧ ws.length ≤ 1000 ∧ OexC K C ∧ H1 a = some (exo a C none) ∧ Q .non H1) : tVeI K ta σ H Q := k
theorem k_ost {f : Str} (k : te σ H fun y H1 => to σ H1 fun x H2 => ∃ a C : Addr, x = .ref a ∧ OexC K C ∧ PySem.W.findIn K (.ref C) f = some none ∧
  ((H2 a = some (exo a C none) ∧ ∀ dx, H2 dx = none → dx ≠ a → nx σ (upd (upd H2 dx (exd dx [(f, y)])) a (exo a C (some dx)))) ∨
    ∃ (dx : Addr) (fs : List (Str × V)), H2 a = some (exo a C (some dx)) ∧ H2 dx = some (exd dx fs) ∧ fs.length ≤ 900 ∧ nx σ (upd H2 dx (exd dx ((f, y) :: fs))))) : tOst K f to te ⟨nx, rt, bk, ct⟩ σ H := k
end
/-! ### runs -/
def backM (a : Grid) (dn ac r c : Nat) : Nat × Nat := backF a dn ac (r * dn + c * ac) r c
theorem way_two {dn ac : Nat} (h : dn + ac = 1) : (dn = 0 ∧ ac = 1) ∨ (dn = 1 ∧ ac = 0) := by omega
theorem back_stop {a : Grid} {dn ac r c : Nat} (k : ¬ (dn ≤ r ∧ ac ≤ c ∧ atN a (r - dn) (c - ac) ≠ 46)) : backM a dn ac r c = (r, c) := by
  unfold backM
  cases r * dn + c * ac with
  | zero => rfl
  | succ n => unfold backF; rw [if_neg k]
theorem back_go {a : Grid} {dn ac r c : Nat} (h : dn + ac = 1) (k : dn ≤ r ∧ ac ≤ c ∧ atN a (r - dn) (c - ac) ≠ 46) : backM a dn ac r c = backM a dn ac (r - dn) (c - ac) := by
  unfold backM
  rcases way_two h with ⟨rfl, rfl⟩ | ⟨rfl, rfl⟩
  · obtain ⟨n, rfl⟩ : ∃ n, c = n + 1 := ⟨c - 1, by omega⟩
    simp only [Nat.mul_zero, Nat.mul_one, Nat.zero_add]
    rw [backF, if_pos k]; rfl
  · obtain ⟨n, rfl⟩ : ∃ n, r = n + 1 := ⟨r - 1, by omega⟩
    simp only [Nat.mul_zero, Nat.mul_one, Nat.add_zero]
    rw [backF, if_pos k]; rfl
theorem fwd_stop {a : Grid} {dn ac r c n : Nat} (h : atN a r c = 46) : fwdF a dn ac n r c = [] := by
  cases n with
  | zero => rfl
  | succ n => unfold fwdF; rw [if_neg (fun q => q h)]
theorem fwd_go {a : Grid} {dn ac r c n : Nat} (h : atN a r c ≠ 46) : fwdF a dn ac (n + 1) r c = atN a r c :: fwdF a dn ac n (r + dn) (c + ac) := by
  rw [fwdF, if_pos h]
theorem GridOk.inn {g : Grid} {h w r c : Nat} (k : GridOk g h w) (q : atN g r c ≠ 46) : r < h ∧ c < w := by
  constructor
  · exact Nat.lt_of_not_le fun z => q (atN_row (by rw [k.len]; exact z))
  · exact Nat.lt_of_not_le fun z => q (atN_col k.row z)
theorem atI_back {g : Grid} {dn ac r c : Nat} : (LR.atI g ((r : Int) - (dn : Int)) ((c : Int) - (ac : Int)) ≠ 46) ↔ (dn ≤ r ∧ ac ≤ c ∧ atN g (r - dn) (c - ac) ≠ 46) := by
  unfold LR.atI
  by_cases h : dn ≤ r ∧ ac ≤ c
  · rw [if_pos ⟨by omega, by omega⟩]
    have e1 : ((r : Int) - (dn : Int)).toNat = r - dn := by omega
    have e2 : ((c : Int) - (ac : Int)).toNat = c - ac := by omega
    rw [e1, e2]
    exact ⟨fun q => ⟨h.1, h.2, q⟩, fun q => q.2.2⟩
  · rw [if_neg (by omega)]
    exact ⟨fun q => (q rfl).elim, fun q => (h ⟨q.1, q.2.1⟩).elim⟩
theorem run_eq {a : Grid} {r c way : Nat} : runM a r c way = ((backM a way (1 - way) r c).1, (backM a way (1 - way) r c).2, fwdF a way (1 - way) 9 (backM a way (1 - way) r c).1 (backM a way (1 - way) r c).2) := rfl
/-! ### lists of lists of signs -/
/-- a new one: nothing of it stood at H0 -/
def GridN (H0 H : Hp) (p : Addr) (G : Grid) : Prop := H0 p = none ∧ Same H0 H ∧ ∃ qs : List Addr, H p = some (.lst (qs.map V.ref)) ∧ qs.Nodup ∧ qs.length = G.length ∧ (∀ (i : Nat) (q : Addr) (r : List Nat), qs[i]? = some q → G[i]? = some r → H q = some (.lst (r.map chV))) ∧ ∀ q ∈ qs, H0 q = none
theorem GridN.grid {H0 H : Hp} {p : Addr} {G : Grid} (h : GridN H0 H p G) : GridAt H p G := by
  obtain ⟨_, _, qs, h1, h2, h3, h4, _⟩ := h
  exact ⟨qs, h1, h2, h3, h4⟩
theorem setG_len {g : Grid} {r c s : Nat} : (setG g r c s).length = g.length := by unfold setG; rw [List.length_set]
theorem setG_get {g : Grid} {r c s : Nat} {l : List Nat} (h : g[r]? = some l) (i : Nat) : (setG g r c s)[i]? = if r = i then some (l.set c s) else g[i]? := by
  unfold setG
  have hr := (List.getElem?_eq_some_iff.mp h).1
  rw [List.getElem?_set, List.getD_eq_getElem?_getD, h]
  by_cases e : r = i
  · rw [if_pos e, if_pos e, if_pos hr]; rfl
  · rw [if_neg e, if_neg e]
theorem GridAt.row {H : Hp} {p : Addr} {G : Grid} {i : Nat} {r : List Nat} (h : GridAt H p G) (e : G[i]? = some r) : ∃ (qs : List V) (q : Addr), H p = some (.lst qs) ∧ qs.length = G.length ∧ qs[i]? = some (.ref q) ∧ H q = some (.lst (r.map chV)) := by
  obtain ⟨qs, h1, h2, h3, h4⟩ := h
  have hi : i < qs.length := by rw [h3]; exact (List.getElem?_eq_some_iff.mp e).1
  exact ⟨_, qs[i], h1, by rw [List.length_map, h3], by rw [List.getElem?_map, List.getElem?_eq_getElem hi]; rfl, h4 i _ r (List.getElem?_eq_getElem hi) e⟩
theorem GridN.set {H0 H : Hp} {p q : Addr} {G : Grid} {i c s : Nat} {r : List Nat} {vs : List V} (h : GridN H0 H p G) (e : G[i]? = some r) (hv : H p = some (.lst vs)) (hq : vs[i]? = some (.ref q)) (hc : c < r.length) :
    GridN H0 (upd H q (.lst ((r.map chV).set c (chV s)))) p (setG G i c s) := by
  obtain ⟨h0, hs, qs, h1, h2, h3, h4, h5⟩ := h
  rw [h1] at hv
  cases hv
  rw [List.getElem?_map] at hq
  obtain ⟨q', eq, hq⟩ := Option.map_eq_some_iff.mp hq
  cases hq
  have hrow := h4 i q r eq e
  have hqm := List.mem_of_getElem? eq
  have hpq : p ≠ q := fun z => by
    rw [← z, h1] at hrow
    have hrow := HO.lst.inj (Option.some.inj hrow)
    cases r with
    | nil => cases hc
    | cons x y =>
      cases qs with
      | nil => cases hrow
      | cons a b => cases hrow
  refine ⟨h0, Same.wr hs (h5 q hqm), qs, by rw [upd_ne hpq]; exact h1, h2, by rw [setG_len]; exact h3, fun j q2 r2 e1 e2 => ?_, h5⟩
  rw [setG_get e] at e2
  by_cases ij : i = j
  · subst ij
    rw [if_pos rfl] at e2
    rw [eq] at e1
    cases e1
    cases e2
    rw [upd_same, List.map_set]
  · rw [if_neg ij] at e2
    have nq : q2 ≠ q := fun z => by
      subst z
      obtain ⟨l1, a1⟩ := List.getElem?_eq_some_iff.mp eq
      obtain ⟨l2, a2⟩ := List.getElem?_eq_some_iff.mp e1
      exact ij ((List.getElem_inj h2).mp (a1.trans a2.symm))
    rw [upd_ne nq]
    exact h4 j q2 r2 e1 e2
theorem c_grid {K : PySem.W.Frag} {H1 : Hp} {Q : VK} {gg : TG} {tt : TT} {te : TE} {vs : List Nat} {σ : L2.St} {a : Addr} {g : Grid} (hx : H1 a = some (.tup (g.map fun l => V.str (mk l)))) (hl : g.length ≤ 1000)
    (hs : ∀ r ∈ g, ∀ (H : Hp) (P : VK) (R : Hp → Prop), (∀ l, H l = none → P (.ref l) (upd H l (.lst (r.map chV)))) → gg (.str (mk r)) (wipe σ vs) H fun σ2 H2 => wipe σ2 vs = wipe σ vs ∧ tt σ2 H2 fun b H3 => if b = true then te σ2 H3 P else R H3)
    (hd : ∀ D H, GridN H1 H D g → Q (.ref D) H) : lcK gg tt te vs σ Q (Itt K a) H1 := fun D hD => by
  refine lc_tup (xs := g.map fun l => V.str (mk l)) (fun i H => Same H1 H ∧ ∃ qs : List Addr, H D = some (.lst (qs.map V.ref)) ∧ qs.Nodup ∧ qs.length = i ∧ (∀ (j : Nat) (q : Addr) (r : List Nat), qs[j]? = some q → g[j]? = some r → H q = some (.lst (r.map chV))) ∧ ∀ q ∈ qs, H1 q = none ∧ q ≠ D ∧ ∃ o, H q = some o)
    ⟨Same.new hD, [], upd_same, List.nodup_nil, rfl, fun j q r e => (by cases e), fun q m => (by cases m)⟩ (fun i H _ p => SqT.of (p.1 _ _ hx)) (fun i x H hi p => ?_) fun H p => ?_
  · rw [List.getElem?_map] at hi
    obtain ⟨r, er, rfl⟩ := Option.map_eq_some_iff.mp hi
    obtain ⟨s1, qs, h1, h2, h3, h4, h5⟩ := p
    have hig := (List.getElem?_eq_some_iff.mp er).1
    refine hs r (List.mem_of_getElem? er) H _ _ fun l hn => ?_
    have nlD : D ≠ l := fun z => by rw [← z, h1] at hn; cases hn
    have nlq : ∀ q ∈ qs, q ≠ l := fun q m z => by
      obtain ⟨_, _, o, ho⟩ := h5 q m
      rw [z, hn] at ho; cases ho
    refine ⟨qs.map V.ref, by rw [upd_ne nlD]; exact h1, by rw [List.length_map, sizeLine_eq]; omega, Same.wr (s1.trans (Same.new hn)) hD, qs ++ [l], ?_, ?_, ?_, fun j q r2 e1 e2 => ?_, fun q m => ?_⟩
    · rw [upd_same, List.map_append]; rfl
    · rw [List.nodup_append]
      exact ⟨h2, by simp, fun q m z k => by rw [List.mem_singleton] at k; subst k; exact nlq q m⟩
    · rw [List.length_append, h3]; rfl
    · rw [List.getElem?_append] at e1
      split at e1
      · have m := List.mem_of_getElem? e1
        rw [upd_ne (h5 q m).2.1, upd_ne (nlq q m)]
        exact h4 j q r2 e1 e2
      · rename_i hj
        have hj2 : j = qs.length := by
          cases q2 : j - qs.length with
          | zero => omega
          | succ n => rw [q2] at e1; cases e1
        subst hj2
        rw [Nat.sub_self] at e1
        cases e1
        rw [h3, er] at e2
        cases e2
        rw [upd_ne (Ne.symm nlD), upd_same]
    · rw [List.mem_append, List.mem_singleton] at m
      rcases m with m | rfl
      · obtain ⟨m1, m2, o, m3⟩ := h5 q m
        exact ⟨m1, m2, o, by rw [upd_ne m2, upd_ne (nlq q m)]; exact m3⟩
      · exact ⟨Same.fr s1 hn, Ne.symm nlD, _, by rw [upd_ne (Ne.symm nlD), upd_same]⟩
  · obtain ⟨s1, qs, h1, h2, h3, h4, h5⟩ := p
    rw [List.length_map] at h3
    exact hd D H ⟨hD, s1, qs, h1, h2, h3, h4, fun q m => (h5 q m).1⟩
theorem GridOk.set {g : Grid} {h w r c s : Nat} (k : GridOk g h w) (hr : r < h) (hs : isSg s = true) : GridOk (setG g r c s) h w := by
  have hg : r < g.length := by rw [k.len]; exact hr
  have e := List.getElem?_eq_getElem hg
  have key : ∀ l ∈ setG g r c s, l ∈ g ∨ l = g[r].set c s := fun l m => by
    obtain ⟨i, hi, rfl⟩ := List.mem_iff_getElem.mp m
    have q := setG_get (c := c) (s := s) e i
    rw [List.getElem?_eq_getElem hi] at q
    by_cases z : r = i
    · rw [if_pos z] at q; exact .inr (Option.some.inj q)
    · rw [if_neg z] at q; exact .inl (List.mem_of_getElem? q.symm)
  refine ⟨by rw [setG_len, k.len], fun l m => ?_, k.h1, k.h9, k.w1, k.w9, fun l m x hx => ?_⟩
  · rcases key l m with h1 | h1
    · exact k.row l h1
    · rw [h1, List.length_set]; exact k.row _ (List.getElem_mem hg)
  · rcases key l m with h1 | h1
    · exact k.sg l h1 x hx
    · rw [h1] at hx
      rcases List.mem_or_eq_of_mem_set hx with h2 | h2
      · exact k.sg _ (List.getElem_mem hg) x h2
      · rw [h2]; exact .inr hs
theorem laid_take {g : Grid} {L : List Tri} {i : Nat} {t : Tri} (e : L[i]? = some t) : laidM g (L.take (i + 1)) = setG (laidM g (L.take i)) t.1 t.2.1 t.2.2 := by
  unfold laidM
  rw [List.take_add_one, e, List.foldl_append]; rfl
theorem GridOk.laid {g : Grid} {h w : Nat} (k : GridOk g h w) : ∀ (L : List Tri), (∀ t ∈ L, t.1 < h ∧ t.2.1 < w ∧ isSg t.2.2 = true) → GridOk (laidM g L) h w := by
  intro L
  induction L generalizing g with
  | nil => intro _; exact k
  | cons t r ih =>
    intro o
    obtain ⟨h1, h2, h3⟩ := o t (List.mem_cons_self ..)
    exact ih (k.set h1 h3) fun x m => o x (List.mem_cons_of_mem _ m)

theorem k_fl {K : PySem.W.Frag} {H : Hp} {a C dx : Addr} {fs : List (Str × V)} {f : Str} {v : V} {Pq : V → Prop} (h : H a = some (.ins C dx fs)) (c : Cls K C) (n : NoAttr K C f) (e : fs.lookup f = some v) (k : Pq v) : ∃ a2 C dx fs w, V.ref a = .ref a2 ∧ H a2 = some (.ins C dx fs) ∧ Cls K C ∧ NoAttr K C f ∧ fs.lookup f = some w ∧ Pq w :=
  ⟨a, C, dx, fs, v, rfl, h, c, n, e, k⟩
theorem inV_chs (t : Nat) (es : List Nat) : inV (chV t) (es.map chV) = decide (t ∈ es) := by
  unfold inV
  rw [List.any_map]
  have h : ∀ c, eqV (chV c) (chV t) = decide (c = t) := fun c => by
    show ((mk [c]) == (mk [t])) = _
    by_cases e : c = t
    · subst e; simp
    · rw [decide_eq_false e, beq_eq_false_iff_ne]
      exact fun z => e (List.cons.inj (mk_inj z)).1
  rw [show ((fun y => eqV y (chV t)) ∘ chV) = fun c => decide (c = t) from funext h]
  rw [Bool.eq_iff_iff, List.any_eq_true, decide_eq_true_eq]
  exact ⟨fun ⟨x, h1, h2⟩ => (of_decide_eq_true h2) ▸ h1, fun h => ⟨t, h, decide_eq_true rfl⟩⟩
theorem k_ninSeq {K : PySem.W.Frag} {H : Hp} {Q : VK} {p : Addr} {t : Nat} {es : List Nat} (h : H p = some (.lst (es.map chV)) ∨ H p = some (.tup (es.map chV))) (k : Q (.bl (!decide (t ∈ es))) H) : rIn K true (.str (mk [t])) (.ref p) H Q := by
  refine ⟨p, es.map chV, rfl, h.imp SqL.of SqT.of, rfl, ?_, ?_⟩
  · rw [List.all_map, List.all_eq_true]; exact fun _ _ => rfl
  · have e := inV_chs t es
    rw [if_pos rfl]
    show Q (.bl (!inV (chV t) _)) H
    rw [e]; exact k
theorem k_rem {H : Hp} {Q : VK} {l : Addr} {es : List Nat} {t : Nat} (h : H l = some (.lst (es.map chV))) (m : t ∈ es) (k : Q .non (upd H l (.lst ((es.erase t).map chV)))) : rRemT (.ref l) [.str (mk [t])] H Q := by
  have ei : ∀ es : List Nat, es.map chV = (es.map fun c => mk [c]).map V.str := fun es => by rw [List.map_map]; rfl
  have er : ((es.map fun c => mk [c]).erase (mk [t])) = (es.erase t).map fun c => mk [c] := by
    clear h m k
    induction es with
    | nil => rfl
    | cons a r ih =>
      by_cases e : a = t
      · subst e; simp [List.erase_cons]
      · have e2 : ¬ mk [a] = mk [t] := fun z => e (List.cons.inj (mk_inj z)).1
        rw [List.map_cons, List.erase_cons, List.erase_cons, if_neg (by simpa using e2), if_neg (by simpa using e), List.map_cons, ih]
  refine ⟨l, es.map fun c => mk [c], mk [t], rfl, rfl, by rw [← ei]; exact h, List.mem_map.mpr ⟨t, m, rfl⟩, ?_⟩
  rw [er, ← ei]; exact k
theorem lack_perm {a b : List Nat} (h : a.Perm b) : ∀ ts, lackM a ts = lackM b ts := by
  intro ts
  induction ts generalizing a b with
  | nil => rfl
  | cons t r ih =>
    unfold lackM
    by_cases m : t ∈ a
    · rw [if_pos m, if_pos (h.mem_iff.mp m)]; exact ih (h.erase t)
    · rw [if_neg m, if_neg (fun z => m (h.mem_iff.mpr z))]
section
variable {K : PySem.W.Frag} {σ : L2.St} {H H1 : Hp} {Q : XK} {ta : TA} {C : Addr} {sp : Sp} {dvs : List V}
theorem k_mko (k : ta σ H fun vs H1 => vs.length ≤ 1000 ∧ ∀ a, H1 a = none → sp (.ref a :: (vs ++ dvs)) (upd H1 a (exo a C none))
  (fun v H2 => v = .non ∧ ∃ (d : Addr) (fs : List (Str × V)), H2 a = some (exo a C (some d)) ∧ H2 d = some (exd d fs) ∧ H1 d = none ∧ Q (.ref C) (some d) (upd (del H2 a) d (.xd fs))) (fun _ _ _ => False)) : tMkO C sp dvs ta σ H Q := k
theorem k_mk1 {x f : Str} {y : V} (k : ∀ d H', Same H1 H' → XD H' d → Q (.ref (He.ga K x)) d H') : [y].length ≤ 1000 ∧ ∀ a, H1 a = none → spInit1 K x f (.ref a :: ([y] ++ [])) (upd H1 a (exo a (He.ga K x) none))
  (fun v H2 => v = .non ∧ ∃ (d : Addr) (fs : List (Str × V)), H2 a = some (exo a (He.ga K x) (some d)) ∧ H2 d = some (exd d fs) ∧ H1 d = none ∧ Q (.ref (He.ga K x)) (some d) (upd (del H2 a) d (.xd fs))) (fun _ _ _ => False) := by
  refine ⟨Nat.le_of_ble_eq_true (by rfl), fun a ha => ⟨a, y, rfl, upd_same, fun dx h1 h2 => ⟨rfl, dx, [(f, y)], upd_same, by rw [upd_ne h2]; exact upd_same, free_upd h1, k _ _ (fun b o e => ?_) fun z e => ?_⟩⟩⟩
  · have n1 : b ≠ a := fun z => by rw [z, ha] at e; cases e
    have n2 : b ≠ dx := fun z => by rw [z, free_upd h1] at e; cases e
    rw [upd_ne n2, del_ne n1, upd_ne n1, upd_ne n2, upd_ne n1]; exact e
  · cases e; exact ⟨_, upd_same⟩
theorem k_mk2 {x f1 f2 : Str} {y z : V} (k : ∀ d H', Same H1 H' → XD H' d → Q (.ref (He.ga K x)) d H') : [y, z].length ≤ 1000 ∧ ∀ a, H1 a = none → spInit2 K x f1 f2 (.ref a :: ([y, z] ++ [])) (upd H1 a (exo a (He.ga K x) none))
  (fun v H2 => v = .non ∧ ∃ (d : Addr) (fs : List (Str × V)), H2 a = some (exo a (He.ga K x) (some d)) ∧ H2 d = some (exd d fs) ∧ H1 d = none ∧ Q (.ref (He.ga K x)) (some d) (upd (del H2 a) d (.xd fs))) (fun _ _ _ => False) := by
  refine ⟨Nat.le_of_ble_eq_true (by rfl), fun a ha => ⟨a, y, z, rfl, upd_same, fun dx h1 h2 => ⟨rfl, dx, [(f2, z), (f1, y)], by rw [upd_ne (Ne.symm h2)]; exact upd_same, upd_same, free_upd h1, k _ _ (fun b o e => ?_) fun z e => ?_⟩⟩⟩
  · have n1 : b ≠ a := fun z => by rw [z, ha] at e; cases e
    have n2 : b ≠ dx := fun z => by rw [z, free_upd h1] at e; cases e
    rw [upd_ne n2, del_ne n1, upd_ne n2, upd_ne n1, upd_ne n2, upd_ne n1]; exact e
  · cases e; exact ⟨_, upd_same⟩
end
theorem k_cat {H : Hp} {Q : VK} {p q : Addr} {xs ys : List V} (h : H p = some (.lst xs)) (k : H q = some (.lst ys)) (n : xs.length + ys.length ≤ 1000) (z : ∀ r, H r = none → Q (.ref r) (upd H r (.lst (xs ++ ys)))) : rCat (.ref p) (.ref q) H Q := by
  exact ⟨p, q, xs, ys, rfl, rfl, h, k, by rw [sizeLine_eq]; omega, z⟩

/-- a run that is asked for -/
abbrev Ask := Tri × Nat
def askD (a : Ask) : PyData := .tuple [triD a.1, .int (a.2 : Int)]
theorem ask_open {H : Hp} {a : Ask} {v : V} (h : At H (askD a) v) : ∃ p x, v = .ref p ∧ H p = some (.tup [x, .int (a.2 : Int)]) ∧ At H (triD a.1) x := by
  obtain ⟨p, vs, e, ha, hs⟩ := at_tup' h
  obtain ⟨v1, r1, e1, h1, hs⟩ := aa_cons' hs
  obtain ⟨v2, r2, e2, h2, hs⟩ := aa_cons' hs
  rw [e1, e2, aa_nil' hs, at_int' h2] at ha
  exact ⟨p, v1, e, ha, h1⟩
def asksL (L : List Tri) : List Ask := (L.headD (0, 0, 0), wayL L) :: L.map fun t => (t, 1 - wayL L)
theorem formed_eq (g : Grid) (L : List Tri) : formedM g L = ((asksL L).map fun a => runW (laidM g L) a.1.1 a.1.2.1 a.2).filter fun x => decide (1 < x.2.2.2.length) := by
  unfold formedM asksL
  rw [List.map_cons, List.map_map]; rfl
theorem wayL_le (L : List Tri) : wayL L ≤ 1 := by unfold wayL; split <;> omega
/-- filtered as it goes -/
def flt {α : Type} (l : List α) (f : α → Bool) (F : α → PyData) (i : Nat) : List PyData := ((l.take i).filter f).map F
theorem flt_yes {α : Type} {l : List α} {f : α → Bool} {F : α → PyData} {i : Nat} {x : α} (h : l[i]? = some x) (k : f x = true) : flt l f F (i + 1) = flt l f F i ++ [F x] := by
  unfold flt
  rw [List.take_add_one, h, List.filter_append, List.map_append]
  simp [k]
theorem flt_no {α : Type} {l : List α} {f : α → Bool} {F : α → PyData} {i : Nat} {x : α} (h : l[i]? = some x) (k : f x = false) : flt l f F (i + 1) = flt l f F i := by
  unfold flt
  rw [List.take_add_one, h, List.filter_append]
  simp [k]
theorem flt_all {α : Type} (l : List α) (f : α → Bool) (F : α → PyData) {n : Nat} (h : l.length ≤ n) : flt l f F n = (l.filter f).map F := by
  unfold flt
  rw [List.take_of_length_le h]
theorem fwd_len (a : Grid) (dn ac : Nat) : ∀ n r c, (fwdF a dn ac n r c).length ≤ n := by
  intro n
  induction n with
  | zero => intro r c; exact Nat.le_refl _
  | succ n ih =>
    intro r c
    unfold fwdF
    split
    · have := ih (r + dn) (c + ac)
      rw [List.length_cons]; omega
    · exact Nat.zero_le _
section
variable {K : PySem.W.Frag} {σ : L2.St} {H : Hp} {Q : VK} {t : TT} {te : TE} {ts tw : TS} {D : Ends}
theorem k_ifsP (I : Bool → Hp → Prop) (k1 : ∀ P : Bool → Hp → Prop, (∀ b H', I b H' → P b H') → t σ H P) (k2 : ∀ b H', I b H' → if b = true then ts D σ H' else tw D σ H') : tIfS t ts tw D σ H := k1 _ k2
theorem k_exP (I : V → Hp → Prop) (k1 : ∀ P : VK, (∀ v H', I v H' → P v H') → te σ H P) (k2 : ∀ v H', I v H' → Q v H') : te σ H Q := k1 _ k2
theorem k_kinds (k : te σ H fun x H1 => ∃ (l : Addr) (ns : List Int), x = .ref l ∧ SqL K H1 l (ns.map V.int) ∧ ns.length ≤ 4000 ∧ Q (.int (kinds ns : Nat)) H1) : tKinds K te σ H Q := k
end
theorem kinds_all {L : List Tri} (ne : L ≠ []) (F : Tri → Nat) : decide ((1 : Int) < (kinds (L.map fun t => (F t : Int)) : Nat)) = !(L.all fun t => decide (F t = F (L.headD (0, 0, 0)))) := by
  have hh := headD_mem (0, 0, 0) ne
  have e : (kinds (L.map fun t => (F t : Int)) ≤ 1) ↔ ∀ t ∈ L, F t = F (L.headD (0, 0, 0)) := by
    rw [kinds_one]
    constructor
    · intro h t m
      have := h _ (List.mem_map.mpr ⟨t, m, rfl⟩) _ (List.mem_map.mpr ⟨_, hh, rfl⟩)
      omega
    · intro h a ha b hb
      obtain ⟨t, mt, rfl⟩ := List.mem_map.mp ha
      obtain ⟨u, mu, rfl⟩ := List.mem_map.mp hb
      rw [h t mt, h u mu]
  by_cases q : ∀ t ∈ L, F t = F (L.headD (0, 0, 0))
  · have h1 := e.mpr q
    have h2 : (L.all fun t => decide (F t = F (L.headD (0, 0, 0)))) = true := List.all_eq_true.mpr fun t m => decide_eq_true (q t m)
    rw [h2, decide_eq_false (by omega)]; rfl
  · have h1 : ¬ kinds (L.map fun t => (F t : Int)) ≤ 1 := fun z => q (e.mp z)
    have h2 : (L.all fun t => decide (F t = F (L.headD (0, 0, 0)))) = false := by
      rw [Bool.eq_false_iff]
      exact fun z => q fun t m => of_decide_eq_true (List.all_eq_true.mp z t m)
    rw [h2, decide_eq_true (by omega)]; rfl
theorem BookAt.same {K : PySem.W.Frag} {H H' : Hp} {k : Addr} {ws : List (List Nat)} (x : Same H H') (h : BookAt K H k ws) : BookAt K H' k ws := by
  obtain ⟨dx, hd, kvs, h1, h2, h3⟩ := h
  exact ⟨dx, hd, kvs, x _ _ h1, x _ _ h2, h3⟩
theorem fwd_sg {g : Grid} {h w : Nat} (k : GridOk g h w) (dn ac : Nat) : ∀ n r c, ∀ x ∈ fwdF g dn ac n r c, isSg x = true := by
  intro n
  induction n with
  | zero => intro r c x m; cases m
  | succ n ih =>
    intro r c x m
    unfold fwdF at m
    split at m
    · rename_i ne
      rcases List.mem_cons.mp m with e | m
      · obtain ⟨i1, i2⟩ := k.inn ne
        obtain ⟨l, e1, e2, e3⟩ := atN_get (r := r) (c := c) k.row (by rw [k.len]; exact i1) i2
        rcases k.sg l (List.mem_of_getElem? e1) _ (List.mem_of_getElem? e3) with z | z
        · exact (ne z).elim
        · rw [e]; exact z
      · exact ih _ _ x m
    · cases m
theorem formed_ok {g : Grid} {h w : Nat} {L : List Tri} (k : GridOk g h w) (o : LayOk h w L) {x : Wrd} (m : x ∈ formedM g L) : x.2.2.2.length ≤ 9 ∧ ∀ c ∈ x.2.2.2, isSg c = true := by
  rw [formed_eq] at m
  obtain ⟨a, _, rfl⟩ := List.mem_map.mp (List.mem_filter.mp m).1
  exact ⟨fwd_len _ _ _ _ _ _, fwd_sg (k.laid L o.inn) _ _ _ _ _⟩
theorem low_one : ∀ c ∈ lowL ++ greL, Txt.lower (mk [c]) = mk [lowC c] := by decide +kernel
theorem low_word {l : List Nat} (h : ∀ c ∈ l, isSg c = true) : Txt.lower (mk l) = mk (l.map lowC) := by
  have q : ∀ c ∈ lowL ++ greL, c < 128 ∧ PyProof.Rows.lo1 c = lowC c := by decide +kernel
  have q2 : ∀ c ∈ l, c < 128 ∧ PyProof.Rows.lo1 c = lowC c := fun c m => q c (of_decide_eq_true (h c m))
  rw [PyProof.Rows.lower_ascii (x := mk l) (fun c hc => (q2 c hc).1)]
  refine TL.ext_tl ?_
  show ((mk l).cps.map PyProof.Rows.lo1).toList = _
  rw [Array.toList_map]
  exact List.map_congr_left fun c m => (q2 c m).2
theorem sg_code {c : Nat} (h : isSg c = true) : c < 1114112 := by
  have q : ∀ c ∈ lowL ++ greL, c < 1114112 := by decide +kernel
  exact q c (of_decide_eq_true h)
theorem wrd_lay {x : Wrd} (h : ∀ c ∈ x.2.2.2, isSg c = true) : (wrdD x).canLay0 = true ∧ (wrdD x).depth ≤ 60 := by
  constructor
  · have := lay_str (l := x.2.2.2) fun c m => sg_code (h c m)
    simp only [wrdD, PyData.canLay0, PyData.canLayAll0] at this ⊢
    rw [this]; rfl
  · simp [wrdD, PyData.depth, PyData.depthAll]
theorem formed_shp {g : Grid} {h w : Nat} {L : List Tri} (k : GridOk g h w) (o : LayOk h w L) : SeqAt.shaped (wrdsD (formedM g L)) = true := shp_tup fun d m => by
  obtain ⟨x, mx, rfl⟩ := List.mem_map.mp m
  exact wrd_lay (formed_ok k o mx).2
theorem k_ixL0 {K : PySem.W.Frag} {H : Hp} {Q : VK} {v : V} {p : Addr} {xs : List V} (h : H p = some (.lst xs)) (e : xs[0]? = some v) (k : Q v H) : rIxL K (.ref p) (.int 0) H Q := k_ixL (j := 0) h e k
theorem k_ixL1 {K : PySem.W.Frag} {H : Hp} {Q : VK} {v : V} {p : Addr} {xs : List V} (h : H p = some (.lst xs)) (e : xs[1]? = some v) (k : Q v H) : rIxL K (.ref p) (.int 1) H Q := k_ixL (j := 1) h e k
theorem k_set0 {p : Addr} {xs : List V} {v : V} {H : Hp} {Qh : Hp → Prop} (h : H p = some (.lst xs)) (hj : 0 < xs.length) (k : Qh (upd H p (.lst (xs.set 0 v)))) : rSetL (.ref p) (.int 0) v H Qh := k_set (j := 0) h hj k
theorem k_set1 {p : Addr} {xs : List V} {v : V} {H : Hp} {Qh : Hp → Prop} (h : H p = some (.lst xs)) (hj : 1 < xs.length) (k : Qh (upd H p (.lst (xs.set 1 v)))) : rSetL (.ref p) (.int 1) v H Qh := k_set (j := 1) h hj k
theorem left_pos {ls : List Nat} (h : ls.length ≤ 4) : 0 < (lowL.filter fun c => !decide (c ∈ ls)).length := by
  apply Nat.pos_of_ne_zero
  intro e
  have e2 := List.filter_eq_nil_iff.mp (List.length_eq_zero_iff.mp e)
  have h1 : ∀ c ∈ lowL, c ∈ ls := fun c m => by
    have := e2 c m
    simpa using this
  have hsub : lowL.length ≤ ls.length := List.Nodup.length_le_of_subset (by decide) h1
  have : lowL.length = 26 := rfl
  omega
open PySem.W (AllAlike Sortable dataLe) in
theorem tris_alike (L : List Tri) : AllAlike (L.map triD) := PySem.W.AllAlike.of fun a b => by simp [triD, PySem.W.alike, PySem.W.alikeAll]
theorem tris_sortable (L : List Tri) : PySem.W.Sortable (L.map triD) := .inl fun d m => by
  obtain ⟨t, _, rfl⟩ := List.mem_map.mp m
  exact ⟨_, _, rfl⟩
theorem srt_tris (L : List Tri) : srt ((L.map swT).map triD) = (turnL L).map triD := by
  unfold turnL
  exact (PySem.W.sort_maps (r := fun a b => PySem.W.dataLe false id (triD a) (triD b)) (s := PySem.W.dataLe false id) triD (l := L.map swT) (fun _ _ _ _ => rfl)).symm
theorem wrds_alike (L : List Wrd) : PySem.W.AllAlike (L.map wrdD) := PySem.W.AllAlike.of fun a b => by simp [wrdD, PySem.W.alike, PySem.W.alikeAll]
theorem wrds_sortable (L : List Wrd) : PySem.W.Sortable (L.map wrdD) := .inl fun d m => by
  obtain ⟨t, _, rfl⟩ := List.mem_map.mp m
  exact ⟨_, _, rfl⟩
theorem cells_alike (L : List Cel) : PySem.W.AllAlike (L.map cellD) := PySem.W.AllAlike.of fun a b => by simp [cellD, PySem.W.alike, PySem.W.alikeAll]
theorem cells_sortable (L : List Cel) : PySem.W.Sortable (L.map cellD) := .inl fun d m => by
  obtain ⟨t, _, rfl⟩ := List.mem_map.mp m
  exact ⟨_, _, rfl⟩
section
variable {K : PySem.W.Frag} {σ : L2.St} {H : Hp} {Q : VK} {te : TE} {tl th : TO}
theorem k_sl {r : V → Option Int → Option Int → Hp → VK → Prop} (k : te σ H fun x H1 => tl σ H1 fun l H2 => th σ H2 fun u H3 => r x l u H3 Q) : tSl r te tl th σ H Q := k
theorem k_nop {P : Option Int → Hp → Prop} (k : P none H) : tNoPart σ H P := k
theorem k_part {P : Option Int → Hp → Prop} (k : te σ H fun x H1 => ∃ i, x = .int i ∧ P (some i) H1) : tPart te σ H P := k
theorem k_pint {i : Int} {Pq : Int → Prop} (k : Pq i) : ∃ j, V.int i = .int j ∧ Pq j := ⟨i, rfl, k⟩
theorem k_slTo {l : List Nat} {j : Nat} (h : l.length ≤ 1000) (k : Q (.str (mk (l.take j))) H) : rSlS (.str (mk l)) none (some (j : Int)) H Q := by
  refine ⟨mk l, rfl, by rw [mk_len, sizeLine_eq]; omega, ?_⟩
  have e : cutS (mk l) none (some (j : Int)) = mk (l.take j) := by
    unfold cutS
    rw [HT.sIx_nat, mk_len]
    show mk ((l.drop 0).take (min j l.length - 0)) = _
    rw [List.drop_zero, Nat.sub_zero, List.take_eq_take_min (i := j)]
  rw [e]; exact k
theorem k_slFrom {l : List Nat} {j : Nat} (h : l.length ≤ 1000) (k : Q (.str (mk (l.drop j))) H) : rSlS (.str (mk l)) (some (j : Int)) none H Q := by
  refine ⟨mk l, rfl, by rw [mk_len, sizeLine_eq]; omega, ?_⟩
  have e : cutS (mk l) (some (j : Int)) none = mk (l.drop j) := by
    unfold cutS
    rw [HT.sIx_nat, mk_len]
    show mk ((l.drop (min j l.length)).take (l.length - min j l.length)) = _
    rw [List.take_of_length_le (by rw [List.length_drop]; omega)]
    by_cases q : j ≤ l.length
    · rw [Nat.min_eq_left q]
    · rw [Nat.min_eq_right (by omega), List.drop_of_length_le (by omega), List.drop_of_length_le (by omega)]
  rw [e]; exact k
theorem k_slLTo {p : Addr} {xs : List V} {j : Nat} (h : H p = some (.lst xs)) (k : ∀ q, H q = none → Q (.ref q) (upd H q (.lst (xs.take j)))) : rSlL K (.ref p) none (some (j : Int)) H Q := by
  refine ⟨p, xs, rfl, SqL.of h, ?_⟩
  have e : cutV xs none (some (j : Int)) = xs.take j := by
    unfold cutV
    rw [HT.sIx_nat]
    show (xs.drop 0).take (min j xs.length - 0) = _
    rw [List.drop_zero, Nat.sub_zero, List.take_eq_take_min (i := j)]
  rw [e]; exact k
theorem k_slLFrom {p : Addr} {xs : List V} {j : Nat} (h : H p = some (.lst xs)) (k : ∀ q, H q = none → Q (.ref q) (upd H q (.lst (xs.drop j)))) : rSlL K (.ref p) (some (j : Int)) none H Q := by
  refine ⟨p, xs, rfl, SqL.of h, ?_⟩
  have e : cutV xs (some (j : Int)) none = xs.drop j := by
    unfold cutV
    rw [HT.sIx_nat]
    show (xs.drop (min j xs.length)).take (xs.length - min j xs.length) = _
    rw [List.take_of_length_le (by rw [List.length_drop]; omega)]
    by_cases q : j ≤ xs.length
    · rw [Nat.min_eq_left q]
    · rw [Nat.min_eq_right (by omega), List.drop_of_length_le (by omega), List.drop_of_length_le (by omega)]
  rw [e]; exact k
end
theorem RestAt.wr {H : Hp} {r : Addr} {n : Int} : RestAt (upd H r (.lst [.int n])) r := ⟨n, upd_same⟩
theorem RestAt.new {H : Hp} {r p : Addr} {o : HO} (h : RestAt H r) (n : H p = none) : RestAt (upd H p o) r := by
  obtain ⟨k, hk⟩ := h
  exact ⟨k, upd_old hk n⟩
theorem RestAt.same {H H' : Hp} {r : Addr} (h : RestAt H r) (s : Same H H') : RestAt H' r := by
  obtain ⟨k, hk⟩ := h
  exact ⟨k, s _ _ hk⟩
/-- a digit is taken -/
theorem k_dig {H0 H : Hp} {Q : VK} {E : XK} {r : Addr} {b : Int} (s : Sb r H0 H) (h : RestAt H r) (b0 : 0 < b) (b1 : b ≤ 1000000) (k : ∀ (d : Nat) (H' : Hp), (d : Int) < b → Sb r H0 H' → Sb r H H' → RestAt H' r → Q (.int (d : Int)) H') : spTake [.ref r, .int b] H Q E := by
  obtain ⟨n, hn⟩ := h
  refine ⟨r, n, b, rfl, hn, b0, b1, fun d n' d0 d1 => ?_⟩
  obtain ⟨j, rfl⟩ := Int.eq_ofNat_of_zero_le d0
  exact k j _ d1 s.wr (Sb.refl _ _).wr RestAt.wr
theorem At.sb {H H' : Hp} {r : Addr} {d : PyData} {v : V} (hr : RestAt H r) (s : Sb r H H') (h : At H d v) : At H' d v := by
  obtain ⟨n, hn⟩ := hr
  exact h.mono (Tk.sb hn nofun s)
theorem AtAll.sb {H H' : Hp} {r : Addr} {d : List PyData} {v : List V} (hr : RestAt H r) (s : Sb r H H') (h : AtAll H d v) : AtAll H' d v := by
  obtain ⟨n, hn⟩ := hr
  exact h.mono (Tk.sb hn nofun s)
theorem Sb.tup {H H' : Hp} {r a : Addr} {xs : List V} (hr : RestAt H r) (s : Sb r H H') (h : H a = some (.tup xs)) : H' a = some (.tup xs) := by
  obtain ⟨n, hn⟩ := hr
  exact s a _ (fun z => by rw [z, hn] at h; cases h) h
/-- a list of signs, made with digits -/
theorem c_marks {H1 : Hp} {Q : VK} {gg : TG} {tt : TT} {te : TE} {vs : List Nat} {σ : L2.St} {l : List Nat} {r : Addr} (Pd : Nat → Prop) (hr : RestAt H1 r) (hl : l.length ≤ 1000)
    (hs : ∀ c ∈ l, ∀ (H : Hp) (P : VK) (R : Hp → Prop), Sb r H1 H → RestAt H r → (∀ (k : Nat) H', Sb r H H' → RestAt H' r → Pd k → P (.str (mk [k])) H') → gg (.str (mk [c])) (wipe σ vs) H fun σ2 H2 => wipe σ2 vs = wipe σ vs ∧ tt σ2 H2 fun b H3 => if b = true then te σ2 H3 P else R H3)
    (hd : ∀ D H (ms : List Nat), H1 D = none → Sb r H1 H → RestAt H r → H D = some (.lst (ms.map chV)) → ms.length = l.length → (∀ c ∈ ms, Pd c) → Q (.ref D) H) : lcK gg tt te vs σ Q (Its (mk l)) H1 := fun D hD => by
  have nDr : D ≠ r := fun z => by obtain ⟨n, hn⟩ := hr; rw [z, hn] at hD; cases hD
  refine lc_str (z := mk l) (fun i H => Sb r H1 H ∧ RestAt H r ∧ ∃ ms : List Nat, H D = some (.lst (ms.map chV)) ∧ ms.length = i ∧ ∀ c ∈ ms, Pd c) ⟨Sb.same (Same.new hD), hr.new hD, [], upd_same, rfl, fun c m => by cases m⟩ (fun i c H hi p => ?_) fun H p => ?_
  · obtain ⟨s1, r1, ms, h1, h2, h3⟩ := p
    have hc : l[i]? = some c := hi
    have hi2 := (List.getElem?_eq_some_iff.mp hc).1
    refine hs c (List.mem_of_getElem? hc) H _ _ s1 r1 fun k H' s2 r2 hk => ?_
    have hD' := s2 D _ nDr h1
    refine ⟨ms.map chV, hD', by rw [List.length_map, sizeLine_eq]; omega, (s1.trans s2).wrn hD, ?_, ms ++ [k], ?_, by rw [List.length_append, h2]; rfl, fun x m => ?_⟩
    · obtain ⟨n, hn⟩ := r2
      exact ⟨n, by rw [upd_ne (Ne.symm nDr)]; exact hn⟩
    · rw [upd_same, List.map_append]; rfl
    · rcases List.mem_append.mp m with m | m
      · exact h3 x m
      · rw [List.mem_singleton.mp m]; exact hk
  · obtain ⟨s1, r1, ms, h1, h2, h3⟩ := p
    exact hd D H ms hD s1 r1 h1 h2 h3

theorem k_mulS {H : Hp} {Q : VK} {l m : List Nat} {n : Int} (h : l.length ≤ 1000) (n1 : 1 ≤ n) (n2 : n ≤ 1000) (e : Txt.mul (mk l) n = mk m) (k : Q (.str (mk m)) H) : rMulS (.str (mk l)) (.int n) H Q :=
  ⟨mk l, n, rfl, rfl, n1, n2, by rw [mk_len]; exact h, by rw [e]; exact k⟩
theorem free_grid {G : Grid} {l : List Nat} {i j h w : Nat} (f2 : G.length = h) (f3 : ∀ l ∈ G, l.length = w) (f4 : ∀ l ∈ G, ∀ c ∈ l, c = 46 ∨ isSg c = true) (h1 : 1 ≤ h) (h9 : h ≤ 9) (w1 : 1 ≤ w) (w9 : w ≤ 9) (e : G[i]? = some l) (hj : j < w) :
    GridOk (G.set i (l.take j ++ [46] ++ l.drop (j + 1))) h w ∧ atN (G.set i (l.take j ++ [46] ++ l.drop (j + 1))) i j = 46 := by
  have hl := f3 l (List.mem_of_getElem? e)
  have hi := (List.getElem?_eq_some_iff.mp e).1
  have lm := List.mem_of_getElem? e
  refine ⟨⟨by rw [List.length_set]; exact f2, fun r m => ?_, h1, h9, w1, w9, fun r m c hc => ?_⟩, ?_⟩
  · rcases List.mem_or_eq_of_mem_set m with m | m
    · exact f3 r m
    · rw [m, List.length_append, List.length_append, List.length_take, List.length_drop, List.length_singleton]; omega
  · rcases List.mem_or_eq_of_mem_set m with m | m
    · exact f4 r m c hc
    · rw [m] at hc
      rcases List.mem_append.mp hc with hc | hc
      · rcases List.mem_append.mp hc with hc | hc
        · exact f4 l lm c (List.mem_of_mem_take hc)
        · exact .inl (List.mem_singleton.mp hc)
      · exact f4 l lm c (List.mem_of_mem_drop hc)
  · unfold atN
    rw [List.getD_eq_getElem?_getD (l := G.set _ _), List.getElem?_set_self hi, Option.getD_some, List.getD_eq_getElem?_getD, List.append_assoc, List.getElem?_append_right (by rw [List.length_take]; omega), List.length_take, show j - min j l.length = 0 by omega]
    rfl
theorem GridAt.same {H H' : Hp} {p : Addr} {G : Grid} (s : Same H H') (h : GridAt H p G) : GridAt H' p G := by
  obtain ⟨qs, h1, h2, h3, h4⟩ := h
  exact ⟨qs, s _ _ h1, h2, h3, fun i q r e1 e2 => s _ _ (h4 i q r e1 e2)⟩
/-- a comprehension over a list, of which only this is told: each item is data that keeps Pd -/
theorem c_LN {K : PySem.W.Frag} {H1 : Hp} {Q : VK} {gg : TG} {tt : TT} {te : TE} {vs : List Nat} {σ : L2.St} {a : Addr} {xs : List V} (Pd : PyData → Prop) (hx : H1 a = some (.lst xs)) (hl : xs.length ≤ 1000)
    (hs : ∀ (i : Nat) (x : V), xs[i]? = some x → ∀ (H : Hp) (P : VK) (R : Hp → Prop), Same H1 H → (∀ y d H', Same H H' → Pd d → At H' d y → P y H') → (∀ H', Same H H' → R H') → gg x (wipe σ vs) H fun σ2 H2 => wipe σ2 vs = wipe σ vs ∧ tt σ2 H2 fun b H3 => if b = true then te σ2 H3 P else R H3)
    (hd : ∀ D H (ys : List V) (ds : List PyData), H1 D = none → Same H1 H → H D = some (.lst ys) → AtAll H ds ys → (∀ d ∈ ds, Pd d) → ds.length ≤ xs.length → Q (.ref D) H) : lcK gg tt te vs σ Q (Itl K a) H1 := fun D hD => by
  refine lc_list (xs := xs) (fun i H => Same H1 H ∧ ∃ (ys : List V) (ds : List PyData), H D = some (.lst ys) ∧ AtAll H ds ys ∧ (∀ d ∈ ds, Pd d) ∧ ds.length ≤ i) ⟨Same.new hD, [], [], upd_same, aa_nil, fun d m => (by cases m), Nat.le_refl _⟩ (fun i H _ p => SqL.of (p.1 _ _ hx)) (fun i x H hi p => ?_) fun H p => ?_
  · obtain ⟨s1, ys, ds, h1, h2, h3, h4⟩ := p
    have hi2 := (List.getElem?_eq_some_iff.mp hi).1
    refine hs i x hi H _ _ s1 (fun y d H' s2 hd' hat => ?_) fun H' s2 => ?_
    · have h1' := s2 _ _ h1
      refine ⟨ys, h1', by rw [h2.len, sizeLine_eq]; omega, Same.wr (s1.trans s2) hD, ys ++ [y], ds ++ [d], upd_same, ((h2.same s2).snoc hat).mono (Tk.wr h1' nofun), fun z m => ?_, by rw [List.length_append, List.length_singleton]; omega⟩
      rcases List.mem_append.mp m with m | m
      · exact h3 z m
      · rw [List.mem_singleton.mp m]; exact hd'
    · exact ⟨s1.trans s2, ys, ds, s2 _ _ h1, h2.same s2, h3, by omega⟩
  · obtain ⟨s1, ys, ds, h1, h2, h3, h4⟩ := p
    exact hd D H ys ds hD s1 h1 h2 h3 h4
/-- compared with an empty list -/
theorem eqv_nil (ds : List PyData) : PyData.eqv (.list ds) (.list []) = ds.isEmpty := by
  cases ds <;> simp [PyData.eqv, PyData.eqvAll]
theorem k_eqNil {K : PySem.W.Frag} {H : Hp} {Q : VK} {p q : Addr} {ys : List V} {ds : List PyData} (h : H p = some (.lst ys)) (a : AtAll H ds ys) (s : SeqAt.shaped (.list ds) = true) (n : H q = some (.lst [])) (k : Q (.bl ds.isEmpty) H) : rEqD K (.ref p) (.ref q) H Q :=
  ⟨.list ds, .list [], .lst (SqL.of h) (a.dp _ _), .lst (SqL.of n) .nil, s, rfl, by rw [eqv_nil]; exact k⟩
theorem k_neNil {K : PySem.W.Frag} {H : Hp} {Q : VK} {p q : Addr} {ys : List V} {ds : List PyData} (h : H p = some (.lst ys)) (a : AtAll H ds ys) (s : SeqAt.shaped (.list ds) = true) (n : H q = some (.lst [])) (k : Q (.bl (!ds.isEmpty)) H) : rNeD K (.ref p) (.ref q) H Q :=
  ⟨.list ds, .list [], .lst (SqL.of h) (a.dp _ _), .lst (SqL.of n) .nil, s, rfl, by rw [eqv_nil]; exact k⟩
theorem grid_code {g : Grid} {h w : Nat} (k : GridOk g h w) {l : List Nat} (m : l ∈ g) : ∀ c ∈ l, c < 1114112 := fun c mc => by
  rcases k.sg l m c mc with e | e
  · omega
  · exact sg_code e
theorem mul_dots : ∀ n : Nat, n ≤ 9 → Txt.mul (mk [46]) ((n : Nat) : Int) = mk (List.replicate n 46) := by
  intro n h
  have q : ∀ n : Fin 10, Txt.mul (mk [46]) ((n.val : Nat) : Int) = mk (List.replicate n.val 46) := by decide +kernel
  exact q ⟨n, by omega⟩
/-- the free cells found so far, those of them that are next to a sign; of the cells in S, one that is free was found -/
def StartAt (g : Grid) (h w : Nat) (H : Hp) (fd nd : Addr) (n n' : Nat) (S : Nat → Nat → Prop) : Prop := ∃ fs ns : List Cel, LsAt H fd (fs.map cellD) ∧ LsAt H nd (ns.map cellD) ∧ (∀ c ∈ fs, c.1 < h ∧ c.2 < w ∧ atN g c.1 c.2 = 46) ∧ (∀ c ∈ ns, c.1 < h ∧ c.2 < w ∧ atN g c.1 c.2 = 46) ∧
  (∀ x y, S x y → y < w → atN g x y = 46 → fs ≠ []) ∧ fs.length ≤ n ∧ ns.length ≤ n'
theorem StartAt.monoW {g : Grid} {h w : Nat} {H : Hp} {fd nd : Addr} {n n' m m' : Nat} {S S' : Nat → Nat → Prop} (k : StartAt g h w H fd nd n n' S) (nm : n ≤ m ∧ n' ≤ m') (f : ∀ x y, y < w → atN g x y = 46 → S' x y → S x y) : StartAt g h w H fd nd m m' S' := by
  obtain ⟨fs, ns, h1, h2, h3, h4, h5, h6, h7⟩ := k
  exact ⟨fs, ns, h1, h2, h3, h4, fun x y z hy ha => h5 x y (f x y hy ha z) hy ha, by omega, by omega⟩
theorem k_pick {K : PySem.W.Frag} {H : Hp} {Q : VK} {p : Addr} {cs : List Cel} {d : Nat} (h : LsAt H p (cs.map cellD)) (n : d < cs.length) (k : ∀ v, At H (cellD cs[d]) v → Q v H) : rIxL K (.ref p) (.int (d : Int)) H Q := by
  obtain ⟨ys, h1, h2⟩ := h
  obtain ⟨x, e, hx⟩ := map_get' h2 (List.getElem?_eq_getElem n)
  exact k_ixL h1 e (k x hx)
theorem k_seqP {ts tw : TS} {D : Ends} {σ : L2.St} {H : Hp} (I : Hp → Prop) (k1 : ∀ nx : L2.St → Hp → Prop, (∀ H', I H' → nx σ H') → ts ⟨nx, D.rt, D.bk, D.ct⟩ σ H) (k2 : ∀ H', I H' → tw D σ H') : tSeq ts tw D σ H := k1 (tw D) k2
theorem k_ixLn {K : PySem.W.Frag} {H : Hp} {Q : VK} {v : V} {p : Addr} {xs : List V} (h : H p = some (.lst xs)) (e : xs.getLast? = some v) (k : Q v H) : rIxL K (.ref p) (.int (-1)) H Q := by
  refine ⟨p, xs, _, v, rfl, rfl, SqL.of h, ?_, k⟩
  have hn : xs ≠ [] := fun z => by rw [z] at e; cases e
  have := List.dropLast_concat_getLast hn
  rw [List.getLast?_eq_some_getLast hn] at e
  rw [← this, Option.some.inj e]
  exact atI_last _ _
structure KitF (K : PySem.W.Frag) (k : Nat) : Prop where
  a0 : PySem.W.kitOne K (.ref (He.ga K (errN k))) (.ref (He.ga K "NoLaying")) = some (decide (k = 0))
  a1 : PySem.W.kitOne K (.ref (He.ga K (errN k))) (.ref (He.ga K "Taken")) = some (decide (k = 1))
  a2 : PySem.W.kitOne K (.ref (He.ga K (errN k))) (.ref (He.ga K "Crooked")) = some (decide (k = 2))
  a3 : PySem.W.kitOne K (.ref (He.ga K (errN k))) (.ref (He.ga K "Gap")) = some (decide (k = 3))
  a4 : PySem.W.kitOne K (.ref (He.ga K (errN k))) (.ref (He.ga K "Apart")) = some (decide (k = 4))
  a5 : PySem.W.kitOne K (.ref (He.ga K (errN k))) (.ref (He.ga K "Lacking")) = some (decide (k = 5))
  a6 : PySem.W.kitOne K (.ref (He.ga K (errN k))) (.ref (He.ga K "NoWord")) = some (decide (k = 6))
  an : PySem.W.kitAny K (.ref (He.ga K (errN k))) [.ref (He.ga K "NoBack"), .ref (He.ga K "NoBoard"), .ref (He.ga K "NoDeed"), .ref (He.ga K "NoRow"), .ref (He.ga K "NoText"), .ref (He.ga K "Over"), .ref (He.ga K "TooFew"), .ref (He.ga K "Twice")] = some false
  av : PySem.W.kitOne K (.ref (He.ga K (errN k))) (.type "ValueError") = some true
  ec : ExcC K (He.ga K (errN k))
theorem kit_no {K : PySem.W.Frag} {t c : Value} {r : List Value} (h : PySem.W.kitOne K t c = some false) (k : PySem.W.kitAny K t r = some false) : PySem.W.kitAny K t (c :: r) = some false := by
  unfold PySem.W.kitAny
  rw [h]; exact k
theorem Tx.kit {K : PySem.W.Frag} {mg : Str → Option Value} (T : Tx K mg) : ∀ k, 1 ≤ k → k ≤ 6 → KitF K k
  | 1, _, _ => ⟨T.k_Taken_NoLaying, T.k_Taken_Taken, T.k_Taken_Crooked, T.k_Taken_Gap, T.k_Taken_Apart, T.k_Taken_Lacking, T.k_Taken_NoWord, (kit_no T.k_Taken_NoBack (kit_no T.k_Taken_NoBoard (kit_no T.k_Taken_NoDeed (kit_no T.k_Taken_NoRow (kit_no T.k_Taken_NoText (kit_no T.k_Taken_Over (kit_no T.k_Taken_TooFew (kit_no T.k_Taken_Twice rfl)))))))), T.kv_Taken, T.i_Taken⟩
  | 2, _, _ => ⟨T.k_Crooked_NoLaying, T.k_Crooked_Taken, T.k_Crooked_Crooked, T.k_Crooked_Gap, T.k_Crooked_Apart, T.k_Crooked_Lacking, T.k_Crooked_NoWord, (kit_no T.k_Crooked_NoBack (kit_no T.k_Crooked_NoBoard (kit_no T.k_Crooked_NoDeed (kit_no T.k_Crooked_NoRow (kit_no T.k_Crooked_NoText (kit_no T.k_Crooked_Over (kit_no T.k_Crooked_TooFew (kit_no T.k_Crooked_Twice rfl)))))))), T.kv_Crooked, T.i_Crooked⟩
  | 3, _, _ => ⟨T.k_Gap_NoLaying, T.k_Gap_Taken, T.k_Gap_Crooked, T.k_Gap_Gap, T.k_Gap_Apart, T.k_Gap_Lacking, T.k_Gap_NoWord, (kit_no T.k_Gap_NoBack (kit_no T.k_Gap_NoBoard (kit_no T.k_Gap_NoDeed (kit_no T.k_Gap_NoRow (kit_no T.k_Gap_NoText (kit_no T.k_Gap_Over (kit_no T.k_Gap_TooFew (kit_no T.k_Gap_Twice rfl)))))))), T.kv_Gap, T.i_Gap⟩
  | 4, _, _ => ⟨T.k_Apart_NoLaying, T.k_Apart_Taken, T.k_Apart_Crooked, T.k_Apart_Gap, T.k_Apart_Apart, T.k_Apart_Lacking, T.k_Apart_NoWord, (kit_no T.k_Apart_NoBack (kit_no T.k_Apart_NoBoard (kit_no T.k_Apart_NoDeed (kit_no T.k_Apart_NoRow (kit_no T.k_Apart_NoText (kit_no T.k_Apart_Over (kit_no T.k_Apart_TooFew (kit_no T.k_Apart_Twice rfl)))))))), T.kv_Apart, T.i_Apart⟩
  | 5, _, _ => ⟨T.k_Lacking_NoLaying, T.k_Lacking_Taken, T.k_Lacking_Crooked, T.k_Lacking_Gap, T.k_Lacking_Apart, T.k_Lacking_Lacking, T.k_Lacking_NoWord, (kit_no T.k_Lacking_NoBack (kit_no T.k_Lacking_NoBoard (kit_no T.k_Lacking_NoDeed (kit_no T.k_Lacking_NoRow (kit_no T.k_Lacking_NoText (kit_no T.k_Lacking_Over (kit_no T.k_Lacking_TooFew (kit_no T.k_Lacking_Twice rfl)))))))), T.kv_Lacking, T.i_Lacking⟩
  | 6, _, _ => ⟨T.k_NoWord_NoLaying, T.k_NoWord_Taken, T.k_NoWord_Crooked, T.k_NoWord_Gap, T.k_NoWord_Apart, T.k_NoWord_Lacking, T.k_NoWord_NoWord, (kit_no T.k_NoWord_NoBack (kit_no T.k_NoWord_NoBoard (kit_no T.k_NoWord_NoDeed (kit_no T.k_NoWord_NoRow (kit_no T.k_NoWord_NoText (kit_no T.k_NoWord_Over (kit_no T.k_NoWord_TooFew (kit_no T.k_NoWord_Twice rfl)))))))), T.kv_NoWord, T.i_NoWord⟩
  | 0, h, _ => by omega
  | n + 7, _, h => by omega
theorem k_isX {K : PySem.W.Frag} {H : Hp} {Q : VK} {a D C : Addr} {d : Option Addr} {b : Bool} (e : PySem.W.kitOne K (.ref D) (.ref C) = some b) (h : H a = some (XO (.ref D) d a)) (x : XD H d) (c : ExcC K D) (k : Q (.bl b) H) : rIsX K [.ref a, .ref C] H Q := ⟨a, D, d, .ref C, .ref C, b, rfl, h, x, c, .own C, e, k⟩
theorem k_isXv {K : PySem.W.Frag} {H : Hp} {Q : VK} {a D : Addr} {n : String} {d : Option Addr} {b : Bool} (e : PySem.W.kitOne K (.ref D) (.type n) = some b) (h : H a = some (XO (.ref D) d a)) (x : XD H d) (c : ExcC K D) (k : Q (.bl b) H) : rIsX K [.ref a, .ty n] H Q := ⟨a, D, d, .ty n, .type n, b, rfl, h, x, c, .ty n, e, k⟩
theorem XD.same {H H' : Hp} {d : Option Addr} (s : Same H H') (h : XD H d) : XD H' d := fun x e => by
  obtain ⟨fs, hf⟩ := h x e
  exact ⟨fs, s _ _ hf⟩
def someL (k : Nat) : List Bool := [decide (k = 0), decide (k = 1), decide (k = 2), decide (k = 3), decide (k = 4), decide (k = 5), decide (k = 6)]
theorem some_one : ∀ k, 1 ≤ k → k ≤ 6 → ((someL k).filter fun b => b).length = 1 ∧ (someL k)[k]? = some true ∧ ∀ m, m < k → (someL k)[m]? = some false
  | 1, _, _ => by decide
  | 2, _, _ => by decide
  | 3, _, _ => by decide
  | 4, _, _ => by decide
  | 5, _, _ => by decide
  | 6, _, _ => by decide
  | 0, h, _ => by omega
  | n + 7, _, h => by omega

theorem passes_len {X : Cx} {W : WX} {E : XK} (tk : Takes X W) (hW : ∀ cls d σ H, σ.length = X.N.length → E cls d H → W cls d σ H) : Passes (CX X.prog X.w) X E :=
  fun _ σ _ _ e s' I c => tk e s' (XE.of_call I (fun cls d H' h => hW cls d σ H' I.len h) c)

theorem check_lt (g : Grid) (beg : Cel) (ws : List (List Nat)) (rack : List Nat) (L : List Tri) : checkM g beg ws rack L ≤ 6 := by
  have h : cellsM g beg L ≤ 4 := by
    unfold cellsM
    split <;> (try omega)
    split <;> (try omega)
    split <;> (try omega)
    split <;> omega
  unfold checkM
  split <;> (try omega)
  split <;> (try omega)
  split <;> omega
theorem Tx.caught {K : PySem.W.Frag} {mg : Str → Option Value} (T : Tx K mg) : ∀ k, 1 ≤ k → k ≤ 6 → PySem.W.exmOne K (.ref (He.ga K (errN k))) (.ref (He.ga K "RackError")) = some true
  | 1, _, _ => T.em_Taken
  | 2, _, _ => T.em_Crooked
  | 3, _, _ => T.em_Gap
  | 4, _, _ => T.em_Apart
  | 5, _, _ => T.em_Lacking
  | 6, _, _ => T.em_NoWord
  | 0, h, _ => by omega
  | n + 7, _, h => by omega
theorem k_seqS {ts tw : TS} {D : Ends} {σ : L2.St} {H : Hp} (I : L2.St → Hp → Prop) (k1 : ∀ nx : L2.St → Hp → Prop, (∀ σ' H', I σ' H' → nx σ' H') → ts ⟨nx, D.rt, D.bk, D.ct⟩ σ H) (k2 : ∀ σ' H', I σ' H' → tw D σ' H') : tSeq ts tw D σ H := k1 (tw D) k2
theorem k_cnt {H : Hp} {Q : VK} {a b : Str} (k : ∀ i : Int, Q (.int i) H) : rCnt (.str a) [.str b] H Q := ⟨a, b, rfl, rfl, k _⟩
theorem k_rev {H : Hp} {Q : VK} {p : Addr} {xs : List V} (h : H p = some (.lst xs)) (k : Q .non (upd H p (.lst xs.reverse))) : rReverse (.ref p) [] H Q := ⟨p, xs, rfl, rfl, h, k⟩
theorem eraseIdx_map {α β : Type} (f : α → β) (l : List α) (i : Nat) : (l.map f).eraseIdx i = (l.eraseIdx i).map f := by
  induction l generalizing i with
  | nil => rfl
  | cons a r ih =>
    cases i with
    | zero => rfl
    | succ n => simp [ih]
theorem k_popAt {H : Hp} {Q : VK} {p : Addr} {xs : List V} {j : Nat} (h : H p = some (.lst xs)) (hj : j < xs.length) (k : Q (xs[j]'hj) (upd H p (.lst (xs.eraseIdx j)))) (hs : xs.length ≤ 100000 := by omega) : rPopAt (.ref p) [.int (j : Int)] H Q := by
  have e : ixN xs.length (j : Int) = some j := by
    unfold ixN
    rw [if_pos (by omega), if_pos (by omega)]; rfl
  exact ⟨p, xs, _, j, xs[j], rfl, rfl, h, by omega, by omega, (ixN_seq e).1, List.getElem?_eq_getElem hj, k⟩
theorem mul3 : ∀ {c : Nat}, c ∈ lowL → Txt.mul (mk [c]) 3 = mk [c, c, c] := by
  have q : ∀ c ∈ lowL, Txt.mul (mk [c]) 3 = mk [c, c, c] := by decide +kernel
  exact fun {c} m => q c m
theorem SqL.same {K : PySem.W.Frag} {H H' : Hp} {a : Addr} {xs : List V} (s : Same H H') (h : SqL K H a xs) : SqL K H' a xs :=
  h.elim (fun h => .inl (h.elim (fun h => .inl (s _ _ h)) fun ⟨o, h⟩ => .inr ⟨o, s _ _ h⟩)) fun h => .inr h
theorem Same.sbn {H0 H H' : Hp} {p : Addr} {o : HO} (s : Same H0 H) (n : H p = none) (t : Sb p (upd H p o) H') : Same H0 H' := fun a u h => t a u (fun z => by rw [z] at h; rw [s _ _ h] at n; cases n) (upd_old (s _ _ h) n)
theorem Same.sb2 {H0 H H' : Hp} {p : Addr} (s : Same H0 H) (n : H0 p = none) (t : Sb p H H') : Same H0 H' := fun a u h => t a u (fun z => by rw [z, n] at h; cases h) (s _ _ h)
/-- what a try gives: None, or the error of that class -/
def OutAt (K : PySem.W.Frag) (H : Hp) (c : Nat) (v : V) : Prop := (c = 0 ∧ v = .non) ∨ (c ≠ 0 ∧ c ≤ 6 ∧ ∃ e d, v = .ref e ∧ H e = some (XO (.ref (He.ga K (errN c))) d e) ∧ XD H d)
theorem OutAt.same {K : PySem.W.Frag} {H H' : Hp} {c : Nat} {v : V} (s : Same H H') (h : OutAt K H c v) : OutAt K H' c v := by
  rcases h with h | ⟨h1, h2, e, d, h3, h4, h5⟩
  · exact .inl h
  · exact .inr ⟨h1, h2, e, d, h3, s _ _ h4, h5.same s⟩
theorem rows_shp {g : Grid} {h w : Nat} (k : GridOk g h w) : SeqAt.shaped (rowsD g) = true := shp_tup fun d m => by
  obtain ⟨l, ml, rfl⟩ := List.mem_map.mp m
  exact ⟨lay_str (grid_code k ml), by simp [PyData.depth]⟩
/-! ### the plain law -/
def swW (x : Wrd) : Wrd := (x.2.1, x.1, 1 - x.2.2.1, x.2.2.2)
open PySem.W in
theorem le_of (x y : PyData) : dataLe false id x y = !dataLt y x := rfl
theorem dlt_asymm {x y : PyData} (h : PySem.W.dataLt x y = true) : PySem.W.dataLt y x = false := by
  cases e : PySem.W.dataLt y x with
  | false => rfl
  | true =>
    have q := (PyProof.Rows.listOrd PyProof.Rows.itemOrd).trans _ _ _ h e
    have z := (PyProof.Rows.listOrd PyProof.Rows.itemOrd).irrefl (PySem.W.keyToks x)
    rw [z] at q
    cases q
theorem sorted_unique {α : Type} {le : α → α → Bool} (anti : ∀ a b, le a b = true → le b a = true → a = b) : ∀ {l m : List α}, l.Perm m → l.Pairwise (fun a b => le a b = true) → m.Pairwise (fun a b => le a b = true) → l = m
  | [], m, p, _, _ => by rw [p.nil_eq]
  | a :: l, [], p, _, _ => by cases p.eq_nil
  | a :: l, b :: m, p, h1, h2 => by
    have e : a = b := by
      have ha : a ∈ b :: m := p.mem_iff.mp (List.mem_cons_self ..)
      have hb : b ∈ a :: l := p.mem_iff.mpr (List.mem_cons_self ..)
      rcases List.mem_cons.mp ha with e | ha
      · exact e
      · rcases List.mem_cons.mp hb with e | hb
        · exact e.symm
        · exact anti a b (List.rel_of_pairwise_cons h1 hb) (List.rel_of_pairwise_cons h2 ha)
    subst e
    rw [sorted_unique anti (List.Perm.cons_inv p) (List.Pairwise.of_cons h1) (List.Pairwise.of_cons h2)]
theorem le_trans' {α : Type} (k : α → PyData) (a b c : α) (h1 : PySem.W.dataLe false id (k a) (k b) = true) (h2 : PySem.W.dataLe false id (k b) (k c) = true) : PySem.W.dataLe false id (k a) (k c) = true :=
  (PySem.W.sortLe_total (PyProof.Rows.listOrd PyProof.Rows.itemOrd) false fun b : PyData => PySem.W.keyToks (id b)).trans _ _ _ h1 h2
theorem le_total' {α : Type} (k : α → PyData) (a b : α) : (PySem.W.dataLe false id (k a) (k b) || PySem.W.dataLe false id (k b) (k a)) = true :=
  Bool.or_eq_true_iff.mpr ((PySem.W.sortLe_total (PyProof.Rows.listOrd PyProof.Rows.itemOrd) false fun b : PyData => PySem.W.keyToks (id b)).total (k a) (k b))
theorem keyW_inj {x y : Wrd} (h : PySem.W.keyToks (wrdD x) = PySem.W.keyToks (wrdD y)) : x = y := by
  obtain ⟨a, b, c, s⟩ := x
  obtain ⟨a', b', c', s'⟩ := y
  simp [wrdD, PySem.W.keyToks, PySem.W.keyToksAll] at h
  obtain ⟨h1, h2, h3, h4⟩ := h
  have e1 : a = a' := by omega
  have e2 : b = b' := by omega
  have e3 : c = c' := by omega
  rw [e1, e2, e3, h4]
theorem leW_anti (x y : Wrd) (h1 : PySem.W.dataLe false id (wrdD x) (wrdD y) = true) (h2 : PySem.W.dataLe false id (wrdD y) (wrdD x) = true) : x = y := by
  rw [le_of] at h1 h2
  have g1 : PySem.W.dataLt (wrdD y) (wrdD x) = false := by simpa using h1
  have g2 : PySem.W.dataLt (wrdD x) (wrdD y) = false := by simpa using h2
  exact keyW_inj ((PyProof.Rows.listOrd PyProof.Rows.itemOrd).total _ _ g2 g1)
theorem srt_wrds (xs : List Wrd) : srt (xs.map wrdD) = (xs.mergeSort fun a b => PySem.W.dataLe false id (wrdD a) (wrdD b)).map wrdD :=
  (PySem.W.sort_maps (r := fun a b => PySem.W.dataLe false id (wrdD a) (wrdD b)) (s := PySem.W.dataLe false id) wrdD (l := xs) (fun _ _ _ _ => rfl)).symm
theorem srt_perm {xs ys : List Wrd} (h : xs.Perm ys) : srt (xs.map wrdD) = srt (ys.map wrdD) := by
  rw [srt_wrds, srt_wrds]
  congr 1
  exact sorted_unique leW_anti (((List.mergeSort_perm _ _).trans h).trans (List.mergeSort_perm _ _).symm) (List.pairwise_mergeSort (le_trans' wrdD) (le_total' wrdD) _) (List.pairwise_mergeSort (le_trans' wrdD) (le_total' wrdD) _)
/-! cells in order -/
theorem dlt_tri {x y : Tri} (h : cLt (cel x) (cel y)) : PySem.W.dataLt (triD x) (triD y) = true := by
  unfold triD
  rw [PySem.W.dataLt_tuple, PySem.W.dataLt_cons (by simp [PySem.W.alike]), PySem.W.dataLt_cons (by simp [PySem.W.alike]), PySem.W.dataLt_int, PySem.W.dataLt_int]
  unfold cLt cel at h
  simp only at h
  rcases h with h | ⟨h1, h2⟩
  · have e : PyData.eqv (.int (x.1 : Int)) (.int (y.1 : Int)) = false := by simp only [PyData.eqv]; exact beq_eq_false_iff_ne.mpr (by omega)
    rw [e, if_neg Bool.false_ne_true]
    exact decide_eq_true (by omega)
  · have e : PyData.eqv (.int (x.1 : Int)) (.int (y.1 : Int)) = true := by simp only [PyData.eqv]; rw [h1]; exact beq_self_eq_true _
    have e2 : PyData.eqv (.int (x.2.1 : Int)) (.int (y.2.1 : Int)) = false := by simp only [PyData.eqv]; exact beq_eq_false_iff_ne.mpr (by omega)
    rw [e, if_pos rfl, e2, if_neg Bool.false_ne_true]
    exact decide_eq_true (by omega)
theorem cLt_tri {a b : Cel} (h : ¬ cLt b a) (n : a ≠ b) : cLt a b := by
  obtain ⟨a1, a2⟩ := a
  obtain ⟨b1, b2⟩ := b
  unfold cLt at *
  simp only at *
  by_cases e1 : a1 = b1
  · by_cases e2 : a2 = b2
    · subst e1 e2; exact (n rfl).elim
    · omega
  · omega
theorem LayOk.nodup {h w : Nat} {L : List Tri} (o : LayOk h w L) : (L.map cel).Nodup := by
  rw [List.nodup_iff_pairwise_ne, List.pairwise_map]
  refine o.asc.imp fun {a b} hab e => ?_
  rw [e] at hab
  unfold cLt at hab
  omega
theorem turn_perm (L : List Tri) : (turnL L).Perm (L.map swT) := List.mergeSort_perm _ _
theorem turn_ok {h w : Nat} {L : List Tri} (o : LayOk h w L) : LayOk w h (turnL L) := by
  have hp := turn_perm L
  refine ⟨fun e => ?_, ?_, fun t m => ?_, ?_⟩
  · rw [e] at hp
    have := hp.length_eq
    rw [List.length_map, List.length_nil] at this
    exact o.ne (List.length_eq_zero_iff.mp this.symm)
  · rw [hp.length_eq, List.length_map]; exact o.few
  · obtain ⟨u, mu, rfl⟩ := List.mem_map.mp (hp.mem_iff.mp m)
    obtain ⟨h1, h2, h3⟩ := o.inn u mu
    exact ⟨h2, h1, h3⟩
  · have hs : (turnL L).Pairwise fun a b => PySem.W.dataLe false id (triD a) (triD b) = true := List.pairwise_mergeSort (le_trans' triD) (le_total' triD) _
    have hn : ((turnL L).map cel).Nodup := by
      have q : ((L.map swT).map cel).Nodup := by
        rw [List.map_map, show cel ∘ swT = swp ∘ cel from rfl, ← List.map_map]
        have z := o.nodup
        rw [List.nodup_iff_pairwise_ne] at z ⊢
        rw [List.pairwise_map]
        refine z.imp fun {a b} hab e => hab ?_
        obtain ⟨a1, a2⟩ := a
        obtain ⟨b1, b2⟩ := b
        unfold swp at e
        simp only [Prod.mk.injEq] at e
        rw [e.1, e.2]
      exact (hp.map cel).nodup_iff.mpr q
    rw [List.nodup_iff_pairwise_ne, List.pairwise_map] at hn
    refine (hs.and hn).imp fun {a b} ⟨h1, h2⟩ => cLt_tri (fun z => ?_) h2
    rw [le_of, dlt_tri z] at h1
    cases h1
theorem one_turn {h w : Nat} {L : List Tri} (o : LayOk h w L) (one : OneLine L) : turnL L = L.map swT := by
  refine List.mergeSort_of_pairwise ?_
  rw [List.pairwise_map]
  have hmem : L.Pairwise fun a b => a ∈ L ∧ b ∈ L := List.pairwise_of_forall_mem_list fun a ha b hb => ⟨ha, hb⟩
  refine (o.asc.and hmem).imp fun {a b} ⟨h1, h2, h3⟩ => ?_
  rw [le_of, dlt_asymm]
  · rfl
  · refine dlt_tri ?_
    unfold cLt cel swT at *
    simp only at *
    rcases one with one | one
    · have := one a h2; have := one b h3; omega
    · have := one a h2; have := one b h3; omega
/-! grids turned -/
theorem atN_tr {g : Grid} {w : Nat} (k : ∀ r ∈ g, r.length = w) (r c : Nat) : atN (trG w g) c r = atN g r c := by
  by_cases hc : c < w
  · unfold atN trG
    rw [List.getD_eq_getElem?_getD (l := List.map _ (List.range w)), List.getElem?_map, List.getElem?_range hc, Option.map_some, Option.getD_some, List.getD_eq_getElem?_getD, List.getElem?_map, List.getD_eq_getElem?_getD (l := g)]
    cases q : g[r]? with
    | none => rfl
    | some l => rfl
  · rw [atN_row (by rw [trG_len]; omega), atN_col k (by omega)]
theorem atI_tr {g : Grid} {w : Nat} (k : ∀ r ∈ g, r.length = w) (r c : Int) : LR.atI (trG w g) c r = LR.atI g r c := by
  unfold LR.atI
  by_cases h : 0 ≤ r ∧ 0 ≤ c
  · rw [if_pos h, if_pos ⟨h.2, h.1⟩, atN_tr k]
  · rw [if_neg h, if_neg (fun z => h ⟨z.2, z.1⟩)]
theorem grid_ext {A B : Grid} {n : Nat} (hl : A.length = B.length) (ha : ∀ r ∈ A, r.length = n) (hb : ∀ r ∈ B, r.length = n) (h : ∀ r c, r < A.length → c < n → atN A r c = atN B r c) : A = B := by
  apply List.ext_getElem hl
  intro i h1 h2
  have e1 := ha _ (List.getElem_mem h1)
  have e2 := hb _ (List.getElem_mem h2)
  apply List.ext_getElem (by rw [e1, e2])
  intro j h3 h4
  have q := h i j h1 (by omega)
  obtain ⟨l1, a1, a2, a3⟩ := atN_get (r := i) (c := j) ha h1 (by omega)
  obtain ⟨l2, b1, b2, b3⟩ := atN_get (r := i) (c := j) hb h2 (by omega)
  rw [List.getElem?_eq_getElem h1] at a1
  rw [List.getElem?_eq_getElem h2] at b1
  cases a1
  cases b1
  rw [List.getElem?_eq_getElem h3] at a3
  rw [List.getElem?_eq_getElem h4] at b3
  rw [Option.some.inj a3, Option.some.inj b3, q]
theorem atN_set {g : Grid} {w r c s : Nat} (k : ∀ l ∈ g, l.length = w) (hr : r < g.length) (hc : c < w) (i j : Nat) : atN (setG g r c s) i j = if r = i ∧ c = j then s else atN g i j := by
  have e := List.getElem?_eq_getElem hr
  have hl := k _ (List.getElem_mem hr)
  unfold atN
  rw [List.getD_eq_getElem?_getD (l := setG g r c s), setG_get e]
  by_cases h : r = i
  · subst h
    rw [if_pos rfl, Option.getD_some, List.getD_eq_getElem?_getD, List.getElem?_set]
    by_cases h2 : c = j
    · subst h2
      rw [if_pos rfl, if_pos (by omega), if_pos ⟨rfl, rfl⟩]; rfl
    · rw [if_neg h2, if_neg (fun z => h2 z.2), List.getD_eq_getElem?_getD (l := g), e, Option.getD_some, List.getD_eq_getElem?_getD]
  · rw [if_neg h, if_neg (fun z => h z.1), List.getD_eq_getElem?_getD (l := g)]
theorem set_tr {g : Grid} {h w r c s : Nat} (k : GridOk g h w) (hr : r < h) (hc : c < w) (hs : isSg s = true) : setG (trG w g) c r s = trG w (setG g r c s) := by
  have k1 := k.tr.set (r := c) (c := r) hc hs
  have k2 := (k.set (r := r) (c := c) hr hs).tr
  refine grid_ext (by rw [k1.len, k2.len]) k1.row k2.row fun i j hi hj => ?_
  rw [atN_tr (k.set (r := r) (c := c) hr hs).row, atN_set k.tr.row (by rw [k.tr.len]; exact hc) hr, atN_set k.row (by rw [k.len]; exact hr) hc, atN_tr k.row]
  by_cases e : r = j ∧ c = i
  · rw [if_pos ⟨e.2, e.1⟩, if_pos e]
  · rw [if_neg e, if_neg (fun z => e ⟨z.2, z.1⟩)]
theorem laid_tr {h w : Nat} : ∀ (L : List Tri) {g : Grid}, GridOk g h w → (∀ t ∈ L, t.1 < h ∧ t.2.1 < w ∧ isSg t.2.2 = true) → laidM (trG w g) (L.map swT) = trG w (laidM g L)
  | [], g, _, _ => rfl
  | t :: L, g, k, o => by
    obtain ⟨h1, h2, h3⟩ := o t (List.mem_cons_self ..)
    have ih := laid_tr L (k.set (r := t.1) (c := t.2.1) h1 h3) fun x m => o x (List.mem_cons_of_mem _ m)
    rw [← set_tr k h1 h2 h3] at ih
    exact ih
theorem back_tr {a : Grid} {w : Nat} (k : ∀ r ∈ a, r.length = w) (dn ac : Nat) : ∀ n r c, backF (trG w a) ac dn n c r = ((backF a dn ac n r c).2, (backF a dn ac n r c).1) := by
  intro n
  induction n with
  | zero => intro r c; rfl
  | succ n ih =>
    intro r c
    unfold backF
    rw [atN_tr k]
    by_cases h : dn ≤ r ∧ ac ≤ c ∧ atN a (r - dn) (c - ac) ≠ 46
    · rw [if_pos h, if_pos ⟨h.2.1, h.1, h.2.2⟩, ih]
    · rw [if_neg h, if_neg (fun z => h ⟨z.2.1, z.1, z.2.2⟩)]
theorem fwd_tr {a : Grid} {w : Nat} (k : ∀ r ∈ a, r.length = w) (dn ac : Nat) : ∀ n r c, fwdF (trG w a) ac dn n c r = fwdF a dn ac n r c := by
  intro n
  induction n with
  | zero => intro r c; rfl
  | succ n ih =>
    intro r c
    unfold fwdF
    rw [atN_tr k, ih]
theorem run_tr {a : Grid} {w : Nat} (k : ∀ r ∈ a, r.length = w) {r c way : Nat} (hw : way ≤ 1) : runW (trG w a) c r (1 - way) = swW (runW a r c way) := by
  have e1 : 1 - (1 - way) = way := by omega
  have e2 : c * (1 - way) + r * (1 - (1 - way)) = r * way + c * (1 - way) := by rw [e1, Nat.add_comm]
  unfold runW runM swW
  simp only
  rw [e2, e1, back_tr k, fwd_tr k]
theorem OneLine.rows {L : List Tri} (one : OneLine L) : (∀ a ∈ L, ∀ b ∈ L, a.1 = b.1) ∨ (∀ a ∈ L, ∀ b ∈ L, a.2.1 = b.2.1) := by
  rcases one with h | h
  · exact .inl fun a ha b hb => (h a ha).trans (h b hb).symm
  · exact .inr fun a ha b hb => (h a ha).trans (h b hb).symm
theorem headD_map {L : List Tri} (ne : L ≠ []) : (L.map swT).headD (0, 0, 0) = swT (L.headD (0, 0, 0)) := by
  cases L with
  | nil => exact (ne rfl).elim
  | cons a r => rfl
theorem lastD_map {L : List Tri} (ne : L ≠ []) : (L.map swT).getLastD (0, 0, 0) = swT (L.getLastD (0, 0, 0)) := by
  rw [List.getLastD_eq_getLast?, List.getLast?_map, last_get (d := (0, 0, 0)) ne]; rfl
/-- one cell, or the ways are exchanged -/
theorem way_turn {h w : Nat} {L : List Tri} (o : LayOk h w L) (one : OneLine L) : (∃ t, L = [t]) ∨ wayL (L.map swT) = 1 - wayL L := by
  match L, o, one with
  | [], o, _ => exact (o.ne rfl).elim
  | [t], _, _ => exact .inl ⟨t, rfl⟩
  | a :: b :: r, o, one =>
    refine .inr ?_
    have ne : a :: b :: r ≠ [] := by simp
    have hl := lastD_mem (0, 0, 0) ne
    have hlast : (a :: b :: r).getLastD (0, 0, 0) ∈ b :: r := by
      have e : (a :: b :: r).getLastD (0, 0, 0) = (b :: r).getLastD (0, 0, 0) := by simp [List.getLastD_eq_getLast?, List.getLast?_cons_cons]
      rw [e]; exact lastD_mem _ (by simp)
    have lt := List.rel_of_pairwise_cons o.asc hlast
    unfold cLt cel at lt
    simp only at lt
    rcases one.rows with q | q
    · have e := q a (List.mem_cons_self ..) _ hl
      have w1 : wayL (a :: b :: r) = 0 := by unfold wayL; exact if_neg (fun z => z e)
      have w2 : wayL ((a :: b :: r).map swT) = 1 := by
        unfold wayL
        rw [headD_map ne, lastD_map ne]
        exact if_pos (show a.2.1 ≠ ((a :: b :: r).getLastD (0, 0, 0)).2.1 by omega)
      rw [w1, w2]
    · have e := q a (List.mem_cons_self ..) _ hl
      have w1 : wayL (a :: b :: r) = 1 := by unfold wayL; exact if_pos (show a.1 ≠ _ by omega)
      have w2 : wayL ((a :: b :: r).map swT) = 0 := by
        unfold wayL
        rw [headD_map ne, lastD_map ne]
        exact if_neg (fun z => z e)
      rw [w1, w2]
theorem filt_sw (l : List Wrd) : (l.map swW).filter (fun x => decide (1 < x.2.2.2.length)) = (l.filter fun x => decide (1 < x.2.2.2.length)).map swW := by
  rw [List.filter_map]; rfl
theorem formed_turn {g : Grid} {h w : Nat} {L : List Tri} (k : GridOk g h w) (o : LayOk h w L) (one : OneLine L) : (formedM (trG w g) (L.map swT)).Perm ((formedM g L).map swW) := by
  have kl := k.laid L o.inn
  rcases way_turn o one with ⟨t, rfl⟩ | e
  · have e1 : wayL [t] = 0 := by simp [wayL]
    have e2 : wayL ([t].map swT) = 0 := by simp [wayL]
    unfold formedM
    rw [laid_tr _ k o.inn, e1, e2]
    simp only [List.map_cons, List.map_nil, List.headD_cons]
    rw [← filt_sw]
    refine List.Perm.filter _ ?_
    have r0 := run_tr kl.row (r := t.1) (c := t.2.1) (way := 0) (by omega)
    have r1 := run_tr kl.row (r := t.1) (c := t.2.1) (way := 1) (by omega)
    show ([runW (trG w (laidM g [t])) t.2.1 t.1 0, runW (trG w (laidM g [t])) t.2.1 t.1 (1 - 0)] : List Wrd).Perm _
    rw [r0, show (0 : Nat) = 1 - 1 from rfl, r1]
    exact List.Perm.swap _ _ _
  · have hw := wayL_le L
    have ew : 1 - (1 - wayL L) = wayL L := by omega
    refine List.Perm.of_eq ?_
    unfold formedM
    rw [← filt_sw, laid_tr _ k o.inn, e, ew, headD_map o.ne, List.map_cons, List.map_map, List.map_map]
    congr 1
    congr 1
    · exact run_tr kl.row hw
    · apply List.map_congr_left
      intro t _
      have := run_tr kl.row (r := t.1) (c := t.2.1) (way := 1 - wayL L) (by omega)
      rw [ew] at this
      exact this
theorem turn_words {g : Grid} {h w : Nat} {L : List Tri} (k : GridOk g h w) (o : LayOk h w L) (one : OneLine L) : srt (((formedM g L).map swW).map wrdD) = srt ((formedM (trG w g) (turnL L)).map wrdD) := by
  rw [one_turn o one]
  exact srt_perm (formed_turn k o one).symm
/-! the first rule that is broken -/
theorem free_iff {g : Grid} {h w : Nat} (k : GridOk g h w) : freeM g = true ↔ ∀ r c, atN g r c = 46 := by
  unfold freeM
  constructor
  · intro e r c
    by_cases h1 : r < g.length
    · by_cases h2 : c < w
      · obtain ⟨l, a1, a2, a3⟩ := atN_get (r := r) (c := c) k.row h1 h2
        exact of_decide_eq_true (List.all_eq_true.mp (List.all_eq_true.mp e l (List.mem_of_getElem? a1)) _ (List.mem_of_getElem? a3))
      · exact atN_col k.row (by omega)
    · exact atN_row (by omega)
  · intro e
    refine List.all_eq_true.mpr fun l ml => List.all_eq_true.mpr fun c mc => decide_eq_true ?_
    obtain ⟨i, hi, rfl⟩ := List.mem_iff_getElem.mp ml
    obtain ⟨j, hj, rfl⟩ := List.mem_iff_getElem.mp mc
    have hw := k.row _ (List.getElem_mem hi)
    obtain ⟨l, a1, a2, a3⟩ := atN_get (r := i) (c := j) k.row hi (by omega)
    rw [List.getElem?_eq_getElem hi] at a1
    cases a1
    rw [List.getElem?_eq_getElem hj] at a3
    rw [Option.some.inj a3]; exact e i j
theorem free_tr {g : Grid} {h w : Nat} (k : GridOk g h w) : freeM (trG w g) = freeM g := by
  rw [Bool.eq_iff_iff, free_iff k.tr, free_iff k]
  exact ⟨fun e r c => by rw [← atN_tr k.row]; exact e c r, fun e r c => by rw [atN_tr k.row]; exact e c r⟩
theorem any_perm {α : Type} {l m : List α} (p : l.Perm m) (f : α → Bool) : l.any f = m.any f := by
  rw [Bool.eq_iff_iff, List.any_eq_true, List.any_eq_true]
  exact ⟨fun ⟨x, h1, h2⟩ => ⟨x, p.mem_iff.mp h1, h2⟩, fun ⟨x, h1, h2⟩ => ⟨x, p.mem_iff.mpr h1, h2⟩⟩
theorem taken_tr {g : Grid} {h w : Nat} {L : List Tri} (k : GridOk g h w) : takenM (trG w g) (turnL L) = takenM g L := by
  unfold takenM
  rw [any_perm (turn_perm L), List.any_map]
  congr 1
  funext t
  show decide (atN (trG w g) t.2.1 t.1 ≠ 46) = _
  rw [atN_tr k.row]
theorem crook_iff (L : List Tri) (ne : L ≠ []) : crookM L = false ↔ OneLine L := by
  unfold crookM OneLine
  constructor
  · intro h
    by_cases e : (L.all fun t => decide (t.1 = (L.headD (0, 0, 0)).1)) = true
    · exact .inl fun t m => of_decide_eq_true (List.all_eq_true.mp e t m)
    · refine .inr fun t m => ?_
      have e' : (L.all fun t => decide (t.1 = (L.headD (0, 0, 0)).1)) = false := by simpa using e
      rw [e'] at h
      have h2 : (L.all fun t => decide (t.2.1 = (L.headD (0, 0, 0)).2.1)) = true := by simpa using h
      exact of_decide_eq_true (List.all_eq_true.mp h2 t m)
  · rintro (h | h)
    · rw [List.all_eq_true.mpr fun t m => decide_eq_true (h t m)]; rfl
    · rw [List.all_eq_true.mpr fun t m => decide_eq_true (h t m), Bool.not_true, Bool.and_false]
theorem one_iff {L : List Tri} (ne : L ≠ []) : OneLine L ↔ (∀ a ∈ L, ∀ b ∈ L, a.1 = b.1) ∨ (∀ a ∈ L, ∀ b ∈ L, a.2.1 = b.2.1) :=
  ⟨fun h => h.rows, fun h => h.imp (fun q t m => q t m _ (headD_mem _ ne)) fun q t m => q t m _ (headD_mem _ ne)⟩
theorem one_turned {h w : Nat} {L : List Tri} (o : LayOk h w L) : OneLine (turnL L) ↔ OneLine L := by
  have hp := turn_perm L
  rw [one_iff (turn_ok o).ne, one_iff o.ne]
  constructor
  · rintro (q | q)
    · exact .inr fun a ha b hb => q (swT a) (hp.mem_iff.mpr (List.mem_map.mpr ⟨a, ha, rfl⟩)) (swT b) (hp.mem_iff.mpr (List.mem_map.mpr ⟨b, hb, rfl⟩))
    · exact .inl fun a ha b hb => q (swT a) (hp.mem_iff.mpr (List.mem_map.mpr ⟨a, ha, rfl⟩)) (swT b) (hp.mem_iff.mpr (List.mem_map.mpr ⟨b, hb, rfl⟩))
  · rintro (q | q)
    · refine .inr fun a ha b hb => ?_
      obtain ⟨x, mx, rfl⟩ := List.mem_map.mp (hp.mem_iff.mp ha)
      obtain ⟨y, my, rfl⟩ := List.mem_map.mp (hp.mem_iff.mp hb)
      exact q x mx y my
    · refine .inl fun a ha b hb => ?_
      obtain ⟨x, mx, rfl⟩ := List.mem_map.mp (hp.mem_iff.mp ha)
      obtain ⟨y, my, rfl⟩ := List.mem_map.mp (hp.mem_iff.mp hb)
      exact q x mx y my
theorem betw_turn {h w : Nat} {L : List Tri} (o : LayOk h w L) (one : OneLine L) : betw (L.map swT) = (betw L).map swp := by
  rcases way_turn o one with ⟨t, rfl⟩ | e
  · have e1 : wayL [t] = 0 := by simp [wayL]
    have e2 : wayL ([t].map swT) = 0 := by simp [wayL]
    unfold betw
    rw [if_pos e1, if_pos e2]
    have q1 : ∀ t : Tri, ([t] : List Tri).headD (0, 0, 0) = t := fun _ => rfl
    have q2 : ∀ t : Tri, ([t] : List Tri).getLastD (0, 0, 0) = t := fun _ => rfl
    rw [List.map_cons, List.map_nil, q1, q2, q1, q2]
    have n1 : t.2.1 + 1 - t.2.1 = 1 := by omega
    have n2 : (swT t).2.1 + 1 - (swT t).2.1 = 1 := by omega
    rw [n1, n2]
    rfl
  · have hw := wayL_le L
    unfold betw
    rw [e, headD_map o.ne, lastD_map o.ne]
    by_cases q : wayL L = 0
    · rw [if_pos q, if_neg (by omega), List.map_map]; rfl
    · rw [if_neg q, if_pos (by omega), List.map_map]; rfl
theorem swp_inj {a b : Cel} : swp a = swp b ↔ a = b := by
  obtain ⟨a1, a2⟩ := a
  obtain ⟨b1, b2⟩ := b
  simp only [swp, Prod.mk.injEq]
  exact ⟨fun h => ⟨h.2, h.1⟩, fun h => ⟨h.2, h.1⟩⟩
theorem cels_turn (L : List Tri) : (L.map swT).map cel = (L.map cel).map swp := by rw [List.map_map, List.map_map]; rfl
theorem any_swp (cs : List Cel) (c : Cel) : ((cs.map swp).any fun z => decide (z = swp c)) = cs.any fun z => decide (z = c) := by
  rw [List.any_map]
  congr 1
  funext z
  show decide (swp z = swp c) = _
  rw [Bool.eq_iff_iff, decide_eq_true_eq, decide_eq_true_eq, swp_inj]
theorem gap_turn {g : Grid} {h w : Nat} {L : List Tri} (k : GridOk g h w) (o : LayOk h w L) (one : OneLine L) : gapM (trG w g) (L.map swT) = gapM g L := by
  unfold gapM
  rw [betw_turn o one, List.any_map, cels_turn]
  congr 1
  funext c
  show (decide (atN (trG w g) c.2 c.1 = 46) && !(((L.map cel).map swp).any fun z => decide (z = swp c))) = _
  rw [atN_tr k.row, any_swp]
theorem near_turn {g : Grid} {h w : Nat} (k : GridOk g h w) (c : Cel) : nearM (trG w g) (swp c) = nearM g c := by
  unfold nearM swp
  simp only
  rw [atI_tr k.row, atI_tr k.row, atI_tr k.row, atI_tr k.row]
  generalize decide (LR.atI g ((c.1 : Int) + -1) c.2 ≠ 46) = a
  generalize decide (LR.atI g c.1 ((c.2 : Int) + -1) ≠ 46) = b
  generalize decide (LR.atI g c.1 ((c.2 : Int) + 1) ≠ 46) = d
  generalize decide (LR.atI g ((c.1 : Int) + 1) c.2 ≠ 46) = e
  cases a <;> cases b <;> cases d <;> cases e <;> rfl
theorem join_turn {g : Grid} {h w : Nat} (k : GridOk g h w) (beg : Cel) (cs : List Cel) : joinM (trG w g) (swp beg) (cs.map swp) = joinM g beg cs := by
  unfold joinM
  rw [free_tr k, any_swp, List.any_map]
  congr 1
  congr 1
  funext c
  exact near_turn k c
theorem turn_check {g : Grid} {h w : Nat} {L : List Tri} (k : GridOk g h w) (o : LayOk h w L) (beg : Cel) (ws : List (List Nat)) (rack : List Nat) : checkM (trG w g) (swp beg) ws rack (turnL L) = checkM g beg ws rack L := by
  have ht := taken_tr (L := L) k
  by_cases h1 : takenM g L = true
  · have e1 : cellsM g beg L = 1 := by unfold cellsM; rw [if_pos h1]
    have e2 : cellsM (trG w g) (swp beg) (turnL L) = 1 := by unfold cellsM; rw [ht, if_pos h1]
    unfold checkM
    rw [e1, e2]; rfl
  have hc : crookM (turnL L) = crookM L := by
    have q := (crook_iff _ (turn_ok o).ne).trans ((one_turned o).trans (crook_iff _ o.ne).symm)
    cases e : crookM L with
    | false => exact q.mpr e
    | true =>
      cases e2 : crookM (turnL L) with
      | true => rfl
      | false => rw [q.mp e2] at e; cases e
  by_cases h2 : crookM L = true
  · have e1 : cellsM g beg L = 2 := by unfold cellsM; rw [if_neg h1, if_pos h2]
    have e2 : cellsM (trG w g) (swp beg) (turnL L) = 2 := by unfold cellsM; rw [ht, if_neg h1, hc, if_pos h2]
    unfold checkM
    rw [e1, e2]; rfl
  have one : OneLine L := (crook_iff _ o.ne).mp (by simpa using h2)
  rw [one_turn o one] at ht hc ⊢
  have hcell : cellsM (trG w g) (swp beg) (L.map swT) = cellsM g beg L := by
    unfold cellsM
    rw [ht, hc, gap_turn k o one, cels_turn, join_turn k]
  have hlack : ((L.map swT).map fun t => tilC t.2.2) = L.map fun t => tilC t.2.2 := by rw [List.map_map]; rfl
  have hword : wordsM ws (formedM (trG w g) (L.map swT)) = wordsM ws (formedM g L) := by
    have hp := formed_turn k o one
    unfold wordsM
    rw [any_perm hp, List.any_map]
    have he : (formedM (trG w g) (L.map swT)).isEmpty = (formedM g L).isEmpty := by
      have hl := hp.length_eq
      rw [List.length_map] at hl
      cases e1 : formedM (trG w g) (L.map swT) with
      | nil =>
        cases e2 : formedM g L with
        | nil => rfl
        | cons a b => rw [e1, e2] at hl; cases hl
      | cons a b =>
        cases e2 : formedM g L with
        | nil => rw [e1, e2] at hl; cases hl
        | cons a b => rfl
    rw [he]; rfl
  unfold checkM
  rw [hcell, hlack, hword]
local macro_rules | `(tactic| walk_at "rd") => `(tactic| repeat (first
  | with_reducible refine k_seq ?_ | with_reducible refine k_asg ?_ | with_reducible refine k_gn ?_ | ((with_reducible apply k_var); first | exact rfl | assumption)
  | with_reducible refine k_c ?_ | with_reducible refine k_op ?_ | with_reducible refine k_un ?_ | with_reducible refine k_neg ?_ | with_reducible refine k_I0 ?_
  | with_reducible refine k_ifs ?_ | with_reducible refine k_ret ?_ | with_reducible refine k_drop ?_ | with_reducible refine k_next ?_ | with_reducible refine k_gnil ?_ | with_reducible refine k_gcons ?_
  | with_reducible refine k_test ?_ | with_reducible refine k_tB ?_ | with_reducible refine k_bl ?_ | with_reducible refine k_and ?_ | with_reducible refine k_or ?_ | with_reducible refine k_not ?_
  | with_reducible refine k_andV ?_ | with_reducible refine k_orV ?_ | with_reducible refine k_notV ?_ | with_reducible refine k_chain ?_ | with_reducible refine k_isN ?_ | with_reducible refine k_notN ?_
  | with_reducible refine k_itT ?_ | with_reducible refine k_itF ?_ | with_reducible refine k_itNT ?_ | with_reducible refine k_itNF ?_
  | with_reducible refine k_nil ?_ | with_reducible refine k_cons ?_ | with_reducible refine k_tup ?_ | with_reducible refine k_lst ?_ | ((with_reducible refine k_few ?_ ?_); exact rfl)
  | with_reducible refine k_call ?_ | with_reducible refine k_meth ?_ | with_reducible refine k_CB ?_ | with_reducible refine k_BM0 ?_ | with_reducible refine k_BM ?_ | with_reducible refine k_tyS ?_
  | with_reducible refine k_intB ?_ | with_reducible refine k_eqI ?_ | with_reducible refine k_neI ?_ | with_reducible refine k_eqS ?_ | with_reducible refine k_neS ?_
  | with_reducible refine k_inC ?_ | with_reducible refine k_ninC ?_ | with_reducible refine k_tFld ?_ | with_reducible refine k_for ?_ | with_reducible refine k_lc ?_
  | with_reducible refine k_iL ?_ | with_reducible refine k_iT ?_ | with_reducible refine k_iS ?_ | with_reducible refine k_iR1 ?_ | with_reducible refine k_iR2 ?_ | with_reducible refine k_ipI ?_
  | ((with_reducible apply k_tyL); assumption) | with_reducible refine k_mko ?_ | with_reducible refine k_vei ?_ | with_reducible refine k_ost ?_ | ((with_reducible apply k_aug); exact rfl)
  | ((with_reducible apply k_I); first | exact (show (0 : Int) < 2 from by decide) | exact ⟨by decide, by decide⟩ | exact Or.inr ⟨by decide, by decide⟩ | exact Or.inl ⟨by decide, by decide⟩ | exact (show (0 : Int) < _ from by decide))
  | with_reducible refine k_sl ?_ | with_reducible refine k_nop ?_ | with_reducible refine k_part ?_ | with_reducible refine k_pint ?_ | with_reducible refine k_kinds ?_ | with_reducible refine k_sfld ?_ | with_reducible refine k_dnK ?_ | with_reducible refine k_dnT ?_ | with_reducible refine k_dput ?_ | with_reducible refine k_din ?_ | with_reducible refine k_dget ?_ | with_reducible refine k_make ?_ | with_reducible refine k_gsub ?_
  | with_reducible refine e_S ?_ | with_reducible refine k_yes ?_ | with_reducible refine k_isS ?_ | with_reducible refine k_isInt ?_ | with_reducible refine k_isIB ?_
  | ((with_reducible apply k_isT); assumption) | ((with_reducible apply k_lenU); assumption) | ((with_reducible apply k_lenL); assumption)
  | ((with_reducible apply k_fl); assumption; assumption; assumption; first | exact rfl | assumption)
  | ((with_reducible apply k_ixT0); assumption; first | exact rfl | assumption) | ((with_reducible apply k_ixT1); assumption; first | exact rfl | assumption) | ((with_reducible apply k_ixT2); assumption; first | exact rfl | assumption)
  | ((with_reducible apply k_ixTn); assumption; first | exact rfl | assumption) | ((with_reducible apply k_gt); assumption; exact rfl)
  | ((with_reducible apply e_T); assumption) | ((with_reducible apply e_L); assumption)))
theorem ok_is_sign {P : Program} {wd : World} {K : PySem.W.Frag} {mg : Str → Option Value} {bas : Heap} (T : Tx K mg)  :
    DefOk P wd K mg bas CX0 "is_sign" 1 ["thing"] spIsSign := by
  refine def0 T.fn_is_sign sc_is_sign bp_is_sign (fun vs H Q E h => ?_) (fun f cdv A outer s H vs Q E hr h => ?_)
  · obtain ⟨c, rfl, hQ⟩ := h
    rfl
  · obtain ⟨c, rfl, hQ⟩ := h
    refine ⟨_, (pss_one (ps_ret (pe_and (pe_callB call_isi rfl T.f_isinstance (by decide +kernel) (pa_cons (pv 0) (pa_cons (pe_bltn (v := .ty "str") rfl T.f_str (by decide +kernel) rfl) pa_nil))) (pe_and (pe_cmpR op_eq (pe_callB b_lenT rfl T.f_len (by decide +kernel) (pa_cons (pv 0) pa_nil)) pe_int (nomark _)) (pe_one (pe_cmpR o_inC (pv 0) (pe_op o_addS (pe_gs T.g_LETTERS_signs) (pe_gs T.g_GREAT)) (by rfl))))))), ?_⟩
    have hcB := T.cls_Board
    have hnr := T.na_Board_rows
    have hnm := T.na_Board_marks
    have hnb := T.na_Board_begin
    have hcK := T.cls_Book
    have hnh := T.na_Book_held
    walk_at "rd"
    refine k_lenT1 ?_
    walk_at "rd"
    refine k_itTr rfl ?_
    walk_at "rd"
    refine k_addS (by decide) ?_
    walk_at "rd"
    exact hQ

theorem ok_letter_of {P : Program} {wd : World} {K : PySem.W.Frag} {mg : Str → Option Value} {bas : Heap} (T : Tx K mg)  :
    DefOk P wd K mg bas CX0 "letter_of" 1 ["sign"] spLetterOf := by
  refine def0 T.fn_letter_of sc_letter_of bp_letter_of (fun vs H Q E h => ?_) (fun f cdv A outer s H vs Q E hr h => ?_)
  · obtain ⟨c, rfl, hc, hQ⟩ := h
    rfl
  · obtain ⟨c, rfl, hc, hQ⟩ := h
    refine ⟨_, (pss_one (ps_ret (pe_bm0 PySem.F.plainAttrs_str PySem.F.slot_str_lower PySem.F.type_str_lower m_low (pv 0)))), ?_⟩
    have hcB := T.cls_Board
    have hnr := T.na_Board_rows
    have hnm := T.na_Board_marks
    have hnb := T.na_Board_begin
    have hcK := T.cls_Book
    have hnh := T.na_Book_held
    walk_at "rd"
    refine k_low (by simp [Str.length]) ?_
    have hm : c ∈ lowL ++ greL := of_decide_eq_true hc
    have q : ∀ c ∈ lowL ++ greL, Txt.lower (mk [c]) = mk [lowC c] := by decide +kernel
    rw [q c hm]
    exact hQ

theorem ok_tile_of {P : Program} {wd : World} {K : PySem.W.Frag} {mg : Str → Option Value} {bas : Heap} (T : Tx K mg)  :
    DefOk P wd K mg bas CX0 "tile_of" 1 ["sign"] spTileOf := by
  refine def0 T.fn_tile_of sc_tile_of bp_tile_of (fun vs H Q E h => ?_) (fun f cdv A outer s H vs Q E hr h => ?_)
  · obtain ⟨c, rfl, hQ⟩ := h
    rfl
  · obtain ⟨c, rfl, hQ⟩ := h
    refine ⟨_, (pss_cons (ps_if (pt_cmpR o_inC (pv 0) (pe_gs T.g_GREAT) (by rfl)) (pss_one (ps_ret (pe_gs T.g_BLANK))) pss_nil)
      (pss_one (ps_ret (pv 0)))), ?_⟩
    have hcB := T.cls_Board
    have hnr := T.na_Board_rows
    have hnm := T.na_Board_marks
    have hnb := T.na_Board_begin
    have hcK := T.cls_Book
    have hnh := T.na_Book_held
    walk_at "rd"
    refine k_ited (fun h => ?_) (fun h => ?_)
    · walk_at "rd"
      have e : tilC c = 63 := if_pos h
      rw [e] at hQ
      exact hQ
    · walk_at "rd"
      have e : tilC c = c := if_neg h
      rw [e] at hQ
      exact hQ

theorem ok_Lacking_init {P : Program} {wd : World} {K : PySem.W.Frag} {mg : Str → Option Value} {bas : Heap} (T : Tx K mg)  :
    ErrOk P wd K mg bas "Lacking" 1 ["self", "tile"] (spInit1 K "Lacking" "tile") := by
  refine err0 T.c_Lacking T.fn_Lacking_init sc_Lacking_init bp_Lacking_init (fun vs H Q E h => ?_) (fun f cdv A outer s H vs Q E hr h => ?_)
  · obtain ⟨a, y, rfl, ha, hQ⟩ := h
    rfl
  · obtain ⟨a, y, rfl, ha, hQ⟩ := h
    refine ⟨_, (pss_cons (ps_expr (pe_up T.c_RackError T.up.1 T.up.2 (pa_cons (pv 0) (pa_cons (pe_lit [97, 32, 116, 105, 108, 101, 32, 116, 104, 97, 116, 32, 105, 115, 32, 110, 111, 116, 32, 105, 110, 32, 116, 104, 101, 32, 114, 97, 99, 107] (by decide +kernel)) pa_nil))))
      (pss_one (ps_ost (pv 0) (pv 1)))), ?_⟩
    have hcB := T.cls_Board
    have hnr := T.na_Board_rows
    have hnm := T.na_Board_marks
    have hnb := T.na_Board_begin
    have hcK := T.cls_Book
    have hnh := T.na_Book_held
    walk_at "rd"
    refine ⟨a, _, _, rfl, Nat.le_of_ble_eq_true (by rfl), T.w_Lacking.1, ha, ?_⟩
    walk_at "rd"
    exact ⟨a, _, rfl, T.w_Lacking.1, T.na_Lacking_tile, .inl ⟨ha, fun dx h1 h2 => hQ dx h1 h2⟩⟩

theorem ok_without {P : Program} {wd : World} {K : PySem.W.Frag} {mg : Str → Option Value} {bas : Heap} (T : Tx K mg) (c_Lacking_init : ErrOk P wd K mg bas "Lacking" 1 ["self", "tile"] (spInit1 K "Lacking" "tile")) :
    DefOk P wd K mg bas (L2.CX P wd) "without" 3 ["rack", "tiles"] (spWithout K) := by
  refine defX T.fn_without sc_without bp_without (fun vs H Q E h => ?_) (fun f cdv A outer s H vs Q E hr h => ?_)
  · obtain ⟨rack, p, ts, rfl, hp, n1, n2, hok, hbad⟩ := h
    rfl
  · obtain ⟨rack, p, ts, rfl, hp, n1, n2, hok, hbad⟩ := h
    refine ⟨_, (pss_cons (ps_set (i := 2) nd_without rfl (Or.inl rfl) (pe_callB (b_srtT hr rfl) rfl T.f_sorted (by decide +kernel) (pa_cons (pv 0) pa_nil)))
      (pss_cons (ps_for (passes_of rfl) rfl (pi_list (pv 1)) (pg_name (i := 3) nd_without rfl (Or.inl rfl)) (pss_cons (ps_if (pt_cmpR op_notIn_seq (pv 3) (pv 2) (by rfl)) (pss_one (ps_raise rfl (takes_of rfl rfl rfl rfl) (pe_err c_Lacking_init T.w_Lacking (hr.mono (by decide)) (pa_cons (pv 3) pa_nil)))) pss_nil)
      (pss_one (ps_expr (pe_bm PySem.F.plainAttrs_list PySem.F.slot_list_remove PySem.F.type_list_remove m_remT (pv 2) (pa_cons (pv 3) pa_nil))))))
      (pss_one (ps_ret (pe_bm PySem.F.plainAttrs_str PySem.F.slot_str_join PySem.F.type_str_join m_join (pe_lit [] (by decide +kernel)) (pa_cons (pv 2) pa_nil)))))), ?_⟩
    have hcB := T.cls_Board
    have hnr := T.na_Board_rows
    have hnm := T.na_Board_marks
    have hnb := T.na_Board_begin
    have hcK := T.cls_Book
    have hnh := T.na_Book_held
    walk_at "rd"
    refine ⟨rack, rfl, by omega, fun l ds hl hperm => ?_⟩
    have nlp : p ≠ l := fun e => by rw [e, hl] at hp; cases hp
    walk_at "rd"
    refine e_L (upd_old hp hl) ?_
    refine f_L (fun i σ H' => (∃ a3, σ = [some (.str (mk rack)), some (.ref p), some (.ref l), a3]) ∧ Same H H' ∧ ∃ es : List Nat, H' l = some (.lst (es.map chV)) ∧ es.length ≤ 1000 ∧ lackM es (ts.drop i) = lackM rack ts)
      (xs := ts.map chV) ⟨⟨_, rfl⟩, Same.new hl, ds, upd_same, by rw [hperm.length_eq]; exact n1, lack_perm hperm ts⟩ (fun i σ H' _ pv => SqL.of (pv.2.1 _ _ hp)) (fun i x σ H2 hi pv => ?_) (fun σ H2 pv => ?_)
    rotate_left
    · obtain ⟨⟨a3, rfl⟩, s2, es, f1, f2, f3⟩ := pv
      rw [List.drop_of_length_le (by rw [List.length_map]; exact Nat.le_refl _)] at f3
      walk_at "rd"
      have f1' : H2 l = some (.lst ((es.map fun c => [c]).map fun t => V.str (mk t))) := by rw [List.map_map]; exact f1
      refine k_join (.inl f1') (by rw [flat_single, List.map_id']; omega) ?_
      exact hok f3.symm _ _ s2
    obtain ⟨⟨a3, rfl⟩, s2, es, f1, f2, f3⟩ := pv
    rw [List.getElem?_map] at hi
    obtain ⟨t, et, rfl⟩ := Option.map_eq_some_iff.mp hi
    have ed : ts.drop i = t :: ts.drop (i + 1) := List.drop_eq_getElem_cons (by exact (List.getElem?_eq_some_iff.mp et).1) |>.trans (by rw [(List.getElem?_eq_some_iff.mp et).2])
    rw [ed, lackM] at f3
    walk_at "rd"
    refine k_ninSeq (.inl f1) ?_
    walk_at "rd"
    refine k_itn (fun q => ?_) (fun q => ?_)
    · rw [if_neg (of_decide_eq_false q)] at f3
      walk_at "rd"
      exact k_mk1 fun d H3 s3 x3 => hbad f3.symm d H3 (s2.trans s3) x3
    · have q := of_decide_eq_true q
      rw [if_pos q] at f3
      walk_at "rd"
      refine k_rem f1 q ?_
      refine ⟨⟨_, rfl⟩, Same.wr s2 hl, es.erase t, upd_same, ?_, f3⟩
      have := List.length_erase_le (a := t) (l := es)
      omega

theorem ok_left_of {P : Program} {wd : World} {K : PySem.W.Frag} {mg : Str → Option Value} {bas : Heap} (T : Tx K mg) (c_tile_of : DefOk P wd K mg bas CX0 "tile_of" 1 ["sign"] spTileOf) (c_without : DefOk P wd K mg bas (L2.CX P wd) "without" 3 ["rack", "tiles"] (spWithout K)) :
    DefOk P wd K mg bas (L2.CX P wd) "left_of" 4 ["rack", "signs"] (spLeftOf K) := by
  refine defX T.fn_left_of sc_left_of bp_left_of (fun vs H Q E h => ?_) (fun f cdv A outer s H vs Q E hr h => ?_)
  · obtain ⟨rack, ss, rfl, n1, n2, hok, hbad⟩ := h
    rfl
  · obtain ⟨rack, ss, rfl, n1, n2, hok, hbad⟩ := h
    refine ⟨_, (pss_one (ps_ret (pe_fn (E := E) c_without (hr.mono (by decide)) (passes_call (takes_of rfl rfl rfl rfl) fun _ _ _ _ q => q) (pa_cons (pv 0) (pa_cons (pe_lc (own := [("sign", 2)]) (g := (gName 2)) (tt := tYes) rfl nd_left_of (pi_str (pv 1)) (blkOk_by (own := [("sign", 2)]) (N := N_left_of) (sc := (defScope s_left_of)) (by decide +kernel)) (fun _ _ _ _ _ => (pg_name (i := 2) nd_left_of rfl (Or.inl rfl))) (fun _ _ _ _ _ => pts_nil) (fun _ _ _ _ _ => (pe_fn c_tile_of (hr.mono (by decide)) pass0 (pa_cons (pv 2) pa_nil)))) pa_nil))))), ?_⟩
    have hcB := T.cls_Board
    have hnr := T.na_Board_rows
    have hnm := T.na_Board_marks
    have hnb := T.na_Board_begin
    have hcK := T.cls_Book
    have hnh := T.na_Book_held
    walk_at "rd"
    refine c_S (mp ss fun c => sD [tilC c]) (by omega) rfl (fun i c H1 hi hs => ?_) (fun D H1 ys h1 h2 h3 h4 => ?_)
    · intro P R h1 h2
      walk_at "rd"
      refine ⟨rfl, ?_⟩
      walk_at "rd"
      refine ⟨c, rfl, ?_⟩
      exact h1 _ _ _ (.refl _) (mp_succ hi) at_str
    rw [mp_all _ _ (Nat.le_refl _)] at h4
    have h5 : ys = (ss.map tilC).map chV := by
      have := AtAll.strs' (l := ss.map fun c => mk [tilC c]) (H := H1) (vs := ys) (by rw [List.map_map]; exact h4)
      rw [this, List.map_map, List.map_map]; rfl
    rw [h5] at h3
    walk_at "rd"
    refine ⟨rack, D, ss.map tilC, rfl, h3, n1, by rw [List.length_map]; exact n2, fun q v H2 s2 => ?_, fun q d H2 s2 x2 => ?_⟩
    · exact hok q v H2 (h2.trans s2)
    · exact hbad q d H2 (h2.trans s2) x2

theorem ok_is_place {P : Program} {wd : World} {K : PySem.W.Frag} {mg : Str → Option Value} {bas : Heap} (T : Tx K mg)  :
    DefOk P wd K mg bas CX0 "is_place" 1 ["thing", "many"] spIsPlace := by
  refine def0 T.fn_is_place sc_is_place bp_is_place (fun vs H Q E h => ?_) (fun f cdv A outer s H vs Q E hr h => ?_)
  · obtain ⟨i, n, rfl, hQ⟩ := h
    rfl
  · obtain ⟨i, n, rfl, hQ⟩ := h
    refine ⟨_, (pss_one (ps_ret (pe_and (pe_callB call_isi rfl T.f_isinstance (by decide +kernel) (pa_cons (pv 0) (pa_cons (pe_bltn (v := .ty "int") rfl T.f_int (by decide +kernel) rfl) pa_nil))) (pe_and (pe_not (pe_callB call_isi rfl T.f_isinstance (by decide +kernel) (pa_cons (pv 0) (pa_cons (pe_bltn (v := .ty "bool") rfl T.f_bool (by decide +kernel) rfl) pa_nil)))) (pe_one (pe_chain op_le op_lt pe_int (pv 0) (pv 1))))))), ?_⟩
    have hcB := T.cls_Board
    have hnr := T.na_Board_rows
    have hnm := T.na_Board_marks
    have hnb := T.na_Board_begin
    have hcK := T.cls_Book
    have hnh := T.na_Book_held
    walk_at "rd"
    refine k_ited (fun h => ?_) (fun h => ?_)
    · walk_at "rd"
      rw [decide_eq_true h] at hQ
      exact hQ
    · rw [decide_eq_false h] at hQ
      exact hQ

theorem ok_is_triple {P : Program} {wd : World} {K : PySem.W.Frag} {mg : Str → Option Value} {bas : Heap} (T : Tx K mg) (c_is_place : DefOk P wd K mg bas CX0 "is_place" 1 ["thing", "many"] spIsPlace) (c_is_sign : DefOk P wd K mg bas CX0 "is_sign" 1 ["thing"] spIsSign) :
    DefOk P wd K mg bas CX0 "is_triple" 2 ["board", "thing"] (spIsTriple K) := by
  refine def0 T.fn_is_triple sc_is_triple bp_is_triple (fun vs H Q E h => ?_) (fun f cdv A outer s H vs Q E hr h => ?_)
  · obtain ⟨b, v, g, m, beg, h, w, t, rfl, ⟨dx, v1, v2, v3, hb, h1, h2, h3⟩, hg, ht, q1, q2, q3, hQ⟩ := h
    rfl
  · obtain ⟨b, v, g, m, beg, h, w, t, rfl, ⟨dx, v1, v2, v3, hb, h1, h2, h3⟩, hg, ht, q1, q2, q3, hQ⟩ := h
    refine ⟨_, (pss_cons (ps_if (PW.pt (pw_or (pt_not (pt_val (pe_callB call_isi rfl T.f_isinstance (by decide +kernel) (pa_cons (pv 1) (pa_cons (pe_bltn (v := .ty "tuple") rfl T.f_tuple (by decide +kernel) rfl) pa_nil))))) (pw_or1 (pt_cmpR op_ne (pe_callB b_lenQ rfl T.f_len (by decide +kernel) (pa_cons (pv 1) pa_nil)) pe_int (nomark _))))) (pss_one (ps_ret pe_bl)) pss_nil)
      (pss_cons (ps_if (PW.pt (pw_or (pt_not (pt_val (pe_fn c_is_place (hr.mono (by decide)) pass0 (pa_cons (pe_ix ix_tup (pv 1) pe_int (fun _ _ => rfl)) (pa_cons (pe_callB b_lenQ rfl T.f_len (by decide +kernel) (pa_cons (pe_fld (pv 0) rfl) pa_nil)) pa_nil))))) (pw_or1 (pt_not (pt_val (pe_fn c_is_place (hr.mono (by decide)) pass0 (pa_cons (pe_ix ix_tup (pv 1) pe_int (fun _ _ => rfl)) (pa_cons (pe_callB b_lenT rfl T.f_len (by decide +kernel) (pa_cons (pe_ix ix_tup (pe_fld (pv 0) rfl) pe_int (fun _ _ => rfl)) pa_nil)) pa_nil)))))))) (pss_one (ps_ret pe_bl)) pss_nil)
      (pss_one (ps_ret (pe_fn c_is_sign (hr.mono (by decide)) pass0 (pa_cons (pe_ix ix_tup (pv 1) pe_int (fun _ _ => rfl)) pa_nil)))))), ?_⟩
    have hcB := T.cls_Board
    have hnr := T.na_Board_rows
    have hnm := T.na_Board_marks
    have hnb := T.na_Board_begin
    have hcK := T.cls_Book
    have hnh := T.na_Book_held
    obtain ⟨a, rfl, ha⟩ := rows_open h1
    obtain ⟨p, rfl, hp⟩ := tri_open ht
    obtain ⟨l0, e0, n0⟩ := hg.top
    have e0' := gmap e0
    have hl : (g.map fun l => V.str (mk l)).length = h := by rw [List.length_map, hg.len]
    have hw9 := hg.w9
    walk_at "rd"
    refine k_itnTr rfl ?_
    walk_at "rd"
    refine ⟨_, _, rfl, ?_⟩
    walk_at "rd"
    rw [hl]
    refine k_nT (by simp; omega) ?_
    walk_at "rd"
    refine k_lenT (by omega) ?_
    walk_at "rd"
    refine ⟨_, _, rfl, ?_⟩
    walk_at "rd"
    rw [n0]
    refine k_nT (by simp; omega) ?_
    walk_at "rd"
    refine ⟨_, rfl, ?_⟩
    rw [q3]
    exact hQ

theorem ok_cells_of {P : Program} {wd : World} {K : PySem.W.Frag} {mg : Str → Option Value} {bas : Heap} (T : Tx K mg)  :
    DefOk P wd K mg bas CX0 "cells_of" 1 ["laying"] spCellsOf := by
  refine def0 T.fn_cells_of sc_cells_of bp_cells_of (fun vs H Q E h => ?_) (fun f cdv A outer s H vs Q E hr h => ?_)
  · obtain ⟨v, L, rfl, hL, hn, hQ⟩ := h
    rfl
  · obtain ⟨v, L, rfl, hL, hn, hQ⟩ := h
    refine ⟨_, (pss_one (ps_ret (pe_lc (own := [("row", 1), ("column", 2), ("sign", 3)]) (g := (gTup K 3 (gCons (gName 1) (gCons (gName 2) (gCons (gName 3) gNil))))) (tt := tYes) rfl nd_cells_of (pi_tup (pv 0)) (blkOk_by (own := [("row", 1), ("column", 2), ("sign", 3)]) (N := N_cells_of) (sc := (defScope s_cells_of)) (by decide +kernel)) (fun _ _ _ _ _ => (pg_tup rfl (pgs_cons (pg_name (i := 1) nd_cells_of rfl (Or.inl rfl)) (pgs_cons (pg_name (i := 2) nd_cells_of rfl (Or.inl rfl)) (pgs_cons (pg_name (i := 3) nd_cells_of rfl (Or.inl rfl)) pgs_nil))))) (fun _ _ _ _ _ => pts_nil) (fun _ _ _ _ _ => (pe_tup (pa_cons (pv 1) (pa_cons (pv 2) pa_nil))))))), ?_⟩
    have hcB := T.cls_Board
    have hnr := T.na_Board_rows
    have hnm := T.na_Board_marks
    have hnb := T.na_Board_begin
    have hcK := T.cls_Book
    have hnh := T.na_Book_held
    obtain ⟨a, vs, rfl, ha, hv⟩ := lay_open hL
    have hn2 := map_len hv
    walk_at "rd"
    refine c_T (mp (L.map cel) cellD) ha (by omega) rfl (fun i x H1 hi hs => ?_) (fun D H1 ys h1 h2 h3 h4 => ?_)
    · obtain ⟨t, et, ht⟩ := map_get hv hi
      obtain ⟨q, rfl, hq⟩ := tri_open (ht.mono (Tk.same hs))
      intro P R h1 h2
      walk_at "rd"
      refine ⟨rfl, ?_⟩
      walk_at "rd"
      intro p hp
      exact h1 _ _ (cellD (cel t)) (Same.new hp) (mp_succ (by rw [List.getElem?_map, et]; rfl)) (cell_mk upd_same)
    · refine hQ D H1 h2 h1 ⟨ys, h3, ?_⟩
      rw [mp_all _ _ (by rw [List.length_map]; omega)] at h4
      exact h4

theorem ok_is_laying {P : Program} {wd : World} {K : PySem.W.Frag} {mg : Str → Option Value} {bas : Heap} (T : Tx K mg) (c_cells_of : DefOk P wd K mg bas CX0 "cells_of" 1 ["laying"] spCellsOf) (c_is_triple : DefOk P wd K mg bas CX0 "is_triple" 2 ["board", "thing"] (spIsTriple K)) :
    DefOk P wd K mg bas CX0 "is_laying" 3 ["board", "thing"] (spIsLaying K) := by
  refine def0 T.fn_is_laying sc_is_laying bp_is_laying (fun vs H Q E h => ?_) (fun f cdv A outer s H vs Q E hr h => ?_)
  · obtain ⟨b, v, g, m, beg, h, w, L, rfl, hB, hg, hL, ho, hQ⟩ := h
    rfl
  · obtain ⟨b, v, g, m, beg, h, w, L, rfl, hB, hg, hL, ho, hQ⟩ := h
    refine ⟨_, (pss_cons (ps_if (PW.pt (pw_or (pt_not (pt_val (pe_callB call_isi rfl T.f_isinstance (by decide +kernel) (pa_cons (pv 1) (pa_cons (pe_bltn (v := .ty "tuple") rfl T.f_tuple (by decide +kernel) rfl) pa_nil))))) (pw_or1 (pt_not (pt_chain op_le op_le pe_int (pe_callB b_lenQ rfl T.f_len (by decide +kernel) (pa_cons (pv 1) pa_nil)) (pe_gi T.g_MOST_TILES)))))) (pss_one (ps_ret pe_bl)) pss_nil)
      (pss_cons (ps_if (pt_not (pt_val (pe_callB (cr_all rfl) rfl T.f_all (by decide +kernel) (pa_cons (pe_lc (own := [("one", 3)]) (g := (gName 3)) (tt := tYes) rfl nd_is_laying (pi_tup (pv 1)) (blkOk_by (own := [("one", 3)]) (N := N_is_laying) (sc := (defScope s_is_laying)) (by decide +kernel)) (fun _ _ _ _ _ => (pg_name (i := 3) nd_is_laying rfl (Or.inl rfl))) (fun _ _ _ _ _ => pts_nil) (fun _ _ _ _ _ => (pe_fn c_is_triple (hr.mono (by decide)) pass0 (pa_cons (pv 0) (pa_cons (pv 3) pa_nil))))) pa_nil)))) (pss_one (ps_ret pe_bl)) pss_nil)
      (pss_cons (ps_set (i := 2) nd_is_laying rfl (Or.inr rfl) (pe_fn c_cells_of (hr.mono (by decide)) pass0 (pa_cons (pv 1) pa_nil)))
      (pss_one (ps_ret (pe_callB (cr_all rfl) rfl T.f_all (by decide +kernel) (pa_cons (pe_lc (own := [("k", 4)]) (g := (gName 4)) (tt := tYes) rfl nd_is_laying (pi_range1 rfl T.f_range (pa_cons (pe_op op_sub (pe_callB b_lenQ rfl T.f_len (by decide +kernel) (pa_cons (pv 2) pa_nil)) pe_int) pa_nil)) (blkOk_by (own := [("k", 4)]) (N := N_is_laying) (sc := (defScope s_is_laying)) (by decide +kernel)) (fun _ _ _ _ _ => (pg_name (i := 4) nd_is_laying rfl (Or.inl rfl))) (fun _ _ _ _ _ => pts_nil) (fun _ _ _ _ _ => (pe_cmpR (op_of (rLtT K) (op_ltT hr.units0) rfl) (pe_ix (ix_of (rIxL K) ix_list rfl) (pv 2) (pv 4) (fun _ _ => rfl)) (pe_ix (ix_of (rIxL K) ix_list rfl) (pv 2) (pe_op op_add (pv 4) pe_int) (fun _ _ => rfl)) (nomark _)))) pa_nil))))))), ?_⟩
    have hcB := T.cls_Board
    have hnr := T.na_Board_rows
    have hnm := T.na_Board_marks
    have hnb := T.na_Board_begin
    have hcK := T.cls_Book
    have hnh := T.na_Book_held
    obtain ⟨a, vs, rfl, ha, hv⟩ := lay_open hL
    have hn2 := map_len hv
    have h7 := ho.few
    have h0 : 1 ≤ L.length := List.length_pos_iff.mpr ho.ne
    walk_at "rd"
    refine k_itTr (by omega) ?_
    walk_at "rd"
    refine k_itnTr (by omega) ?_
    walk_at "rd"
    refine c_T (mp L fun _ => .bool true) ha (by omega) rfl (fun i x H1 hi hs => ?_) (fun D H1 ys h1 h2 h3 h4 => ?_)
    · obtain ⟨t, et, ht⟩ := map_get hv hi
      intro P R h1 h2
      walk_at "rd"
      refine ⟨rfl, ?_⟩
      walk_at "rd"
      obtain ⟨k1, k2, k3⟩ := ho.inn t (List.mem_of_getElem? et)
      refine ⟨b, x, g, m, beg, h, w, t, rfl, hB.same hs, hg, ht.same hs, k1, k2, k3, ?_⟩
      exact h1 _ _ _ (.refl _) (mp_succ et) at_bl
    rw [mp_all _ _ (by omega)] at h4
    have h5 : ys = (L.map fun _ => true).map V.bl := by
      apply AtAll.bls' (H := H1)
      rw [List.map_map]
      exact h4
    rw [h5] at h3
    walk_at "rd"
    refine k_all h3 ?_
    walk_at "rd"
    refine k_nT (by simp) ?_
    walk_at "rd"
    refine ⟨_, L, rfl, hL.same h2, by omega, fun p H2 s2 n2 hp => ?_⟩
    obtain ⟨cs, hc, hcs⟩ := hp
    walk_at "rd"
    have hc2 := map_len hcs
    rw [List.length_map] at hc2
    refine e_R1 (by omega) ?_
    refine c_R (fun i => List.replicate i (.bool true)) (by omega) rfl (fun i H3 hi s3 => ?_) (fun D' H3 ys' k1 k2 k3 k4 => ?_)
    · have hi1 : i < L.length := by omega
      have hi2 : i + 1 < L.length := by omega
      obtain ⟨x, e1, x1⟩ := map_get' hcs (i := i) (t := cel L[i]) (by rw [List.getElem?_map, List.getElem?_eq_getElem hi1]; rfl)
      obtain ⟨y, e2, x2⟩ := map_get' hcs (i := i + 1) (t := cel L[i + 1]) (by rw [List.getElem?_map, List.getElem?_eq_getElem hi2]; rfl)
      obtain ⟨q1, rfl, f1⟩ := cell_open (x1.same s3)
      obtain ⟨q2, rfl, f2⟩ := cell_open (x2.same s3)
      have hc3 := s3 _ _ hc
      intro P R h1 h2
      walk_at "rd"
      refine ⟨rfl, ?_⟩
      walk_at "rd"
      rw [Int.zero_add]
      refine k_ixL hc3 e1 ?_
      walk_at "rd"
      refine k_ixL (j := i + 1) hc3 e2 ?_
      refine k_ltC f1 f2 (ho.lt (List.getElem?_eq_getElem hi1) (List.getElem?_eq_getElem hi2)) ?_
      exact h1 _ _ (.bool true) (.refl _) (by show List.replicate (i + 1) _ = List.replicate i _ ++ [_]; rw [List.replicate_succ']) at_bl
    have h6 : ys' = (List.replicate ((cs.length : Int) - 1).toNat true).map V.bl := by
      apply AtAll.bls' (H := H3)
      rw [List.map_replicate]
      exact k4
    rw [h6] at k3
    walk_at "rd"
    refine k_all k3 ?_
    refine q_bl (b := true) (by simp) ?_
    exact hQ _ ((h2.trans s2).trans k2)

theorem ok_way_of {P : Program} {wd : World} {K : PySem.W.Frag} {mg : Str → Option Value} {bas : Heap} (T : Tx K mg)  :
    DefOk P wd K mg bas CX0 "way_of" 1 ["laying"] spWayOf := by
  refine def0 T.fn_way_of sc_way_of bp_way_of (fun vs H Q E h => ?_) (fun f cdv A outer s H vs Q E hr h => ?_)
  · obtain ⟨v, L, rfl, hL, ne, hQ⟩ := h
    rfl
  · obtain ⟨v, L, rfl, hL, ne, hQ⟩ := h
    refine ⟨_, (pss_one (ps_ret (pe_callTy b_intB rfl T.f_int (by decide +kernel) (pa_cons (pe_cmpR op_ne (pe_ix ix_tup (pe_ix ix_tup (pv 0) pe_int (fun _ _ => rfl)) pe_int (fun _ _ => rfl)) (pe_ix ix_tup (pe_ix ix_tup (pv 0) (pe_un un_neg pe_int) (fun _ _ => rfl)) pe_int (fun _ _ => rfl)) (nomark _)) pa_nil)))), ?_⟩
    have hcB := T.cls_Board
    have hnr := T.na_Board_rows
    have hnm := T.na_Board_marks
    have hnb := T.na_Board_begin
    have hcK := T.cls_Book
    have hnh := T.na_Book_held
    obtain ⟨a, vs, rfl, ha, hv⟩ := lay_open hL
    obtain ⟨x, e1, hx⟩ := map_head (d := (0, 0, 0)) hv ne
    obtain ⟨y, e2, hy⟩ := map_last (d := (0, 0, 0)) hv ne
    obtain ⟨p, rfl, hp⟩ := tri_open hx
    obtain ⟨q, rfl, hq⟩ := tri_open hy
    walk_at "rd"
    refine q_int ?_ hQ
    unfold wayL
    by_cases h : (L.headD (0, 0, 0)).1 = (L.getLastD (0, 0, 0)).1
    · rw [if_neg (c := _ ≠ _) (fun z => z h), h, decide_eq_true rfl]
      rfl
    · rw [if_pos (c := _ ≠ _) h, decide_eq_false (by omega)]
      rfl

theorem ok_are_rows {P : Program} {wd : World} {K : PySem.W.Frag} {mg : Str → Option Value} {bas : Heap} (T : Tx K mg)  :
    DefOk P wd K mg bas CX0 "are_rows" 1 ["thing"] spAreRows := by
  refine def0 T.fn_are_rows sc_are_rows bp_are_rows (fun vs H Q E h => ?_) (fun f cdv A outer s H vs Q E hr h => ?_)
  · obtain ⟨v, g, w, rfl, hv, n1, n9, hr9, w1, w9, hQ⟩ := h
    rfl
  · obtain ⟨v, g, w, rfl, hv, n1, n9, hr9, w1, w9, hQ⟩ := h
    refine ⟨_, (pss_cons (ps_if (PW.pt (pw_or (pt_not (pt_val (pe_callB call_isi rfl T.f_isinstance (by decide +kernel) (pa_cons (pv 0) (pa_cons (pe_bltn (v := .ty "tuple") rfl T.f_tuple (by decide +kernel) rfl) pa_nil))))) (pw_or1 (pt_not (pt_chain op_le op_le pe_int (pe_callB b_lenQ rfl T.f_len (by decide +kernel) (pa_cons (pv 0) pa_nil)) (pe_gi T.g_MOST_CELLS)))))) (pss_one (ps_ret pe_bl)) pss_nil)
      (pss_cons (ps_for PassesOwn.never rfl (pi_tup (pv 0)) (pg_name (i := 1) nd_are_rows rfl (Or.inl rfl)) (pss_one (ps_if (PW.pt (pw_or (pt_not (pt_val (pe_callB call_isi rfl T.f_isinstance (by decide +kernel) (pa_cons (pv 1) (pa_cons (pe_bltn (v := .ty "str") rfl T.f_str (by decide +kernel) rfl) pa_nil))))) (pw_or (pt_not (pt_chain op_le op_le pe_int (pe_callB b_lenT rfl T.f_len (by decide +kernel) (pa_cons (pv 1) pa_nil)) (pe_gi T.g_MOST_CELLS))) (pw_or1 (pt_cmpR op_ne (pe_callB b_lenT rfl T.f_len (by decide +kernel) (pa_cons (pv 1) pa_nil)) (pe_callB b_lenT rfl T.f_len (by decide +kernel) (pa_cons (pe_ix ix_tup (pv 0) pe_int (fun _ _ => rfl)) pa_nil)) (nomark _)))))) (pss_one (ps_ret pe_bl)) pss_nil)))
      (pss_one (ps_ret pe_bl)))), ?_⟩
    have hcB := T.cls_Board
    have hnr := T.na_Board_rows
    have hnm := T.na_Board_marks
    have hnb := T.na_Board_begin
    have hcK := T.cls_Book
    have hnh := T.na_Book_held
    obtain ⟨a, rfl, ha⟩ := rows_open hv
    have hl : (g.map fun l => V.str (mk l)).length = g.length := List.length_map _
    have e0 : g[0]? = some g[0] := List.getElem?_eq_getElem (by omega)
    have e0' := gmap e0
    have n0 : g[0].length = w := hr9 _ (List.getElem_mem _)
    walk_at "rd"
    rw [hl]
    refine k_itTr (by omega) ?_
    walk_at "rd"
    refine k_itnTr (by omega) ?_
    walk_at "rd"
    refine f_T (fun i σ H' => (∃ a1, σ = [some (.ref a), a1]) ∧ H' = H) ⟨⟨_, rfl⟩, rfl⟩ (fun i σ H' _ pv => by rw [pv.2]; exact SqT.of ha) (fun i x σ H2 hi pv => ?_) (fun σ H2 pv => ?_)
    rotate_left
    · obtain ⟨⟨a1, rfl⟩, rfl⟩ := pv
      walk_at "rd"
      exact hQ
    obtain ⟨⟨a1, rfl⟩, rfl⟩ := pv
    rw [List.getElem?_map] at hi
    obtain ⟨l, el, rfl⟩ := Option.map_eq_some_iff.mp hi
    have nl : l.length = w := hr9 _ (List.mem_of_getElem? el)
    walk_at "rd"
    refine k_lenT (by omega) ?_
    rw [nl]
    walk_at "rd"
    refine k_itTr (by omega) ?_
    walk_at "rd"
    refine k_itnTr (by omega) ?_
    walk_at "rd"
    refine k_lenT (by omega) ?_
    rw [nl]
    walk_at "rd"
    refine k_lenT (by omega) ?_
    rw [n0]
    walk_at "rd"
    refine k_itnTr rfl ?_
    walk_at "rd"
    exact ⟨⟨_, rfl⟩, rfl⟩

theorem ok_is_whole {P : Program} {wd : World} {K : PySem.W.Frag} {mg : Str → Option Value} {bas : Heap} (T : Tx K mg)  :
    DefOk P wd K mg bas CX0 "is_whole" 1 ["thing"] spIsWhole := by
  refine def0 T.fn_is_whole sc_is_whole bp_is_whole (fun vs H Q E h => ?_) (fun f cdv A outer s H vs Q E hr h => ?_)
  · obtain ⟨i, rfl, hQ⟩ := h
    rfl
  · obtain ⟨i, rfl, hQ⟩ := h
    refine ⟨_, (pss_one (ps_ret (pe_and (pe_callB call_isi rfl T.f_isinstance (by decide +kernel) (pa_cons (pv 0) (pa_cons (pe_bltn (v := .ty "int") rfl T.f_int (by decide +kernel) rfl) pa_nil))) (pe_one (pe_not (pe_callB call_isi rfl T.f_isinstance (by decide +kernel) (pa_cons (pv 0) (pa_cons (pe_bltn (v := .ty "bool") rfl T.f_bool (by decide +kernel) rfl) pa_nil)))))))), ?_⟩
    have hcB := T.cls_Board
    have hnr := T.na_Board_rows
    have hnm := T.na_Board_marks
    have hnb := T.na_Board_begin
    have hcK := T.cls_Book
    have hnh := T.na_Book_held
    walk_at "rd"
    exact hQ

theorem ok_is_cell {P : Program} {wd : World} {K : PySem.W.Frag} {mg : Str → Option Value} {bas : Heap} (T : Tx K mg) (c_is_whole : DefOk P wd K mg bas CX0 "is_whole" 1 ["thing"] spIsWhole) :
    DefOk P wd K mg bas CX0 "is_cell" 2 ["rows", "thing"] spIsCell := by
  refine def0 T.fn_is_cell sc_is_cell bp_is_cell (fun vs H Q E h => ?_) (fun f cdv A outer s H vs Q E hr h => ?_)
  · obtain ⟨v, u, g, w, c, rfl, hv, hr9, w9, hu, q1, q2, hQ⟩ := h
    rfl
  · obtain ⟨v, u, g, w, c, rfl, hv, hr9, w9, hu, q1, q2, hQ⟩ := h
    refine ⟨_, (pss_cons (ps_if (PW.pt (pw_or (pt_not (pt_val (pe_callB call_isi rfl T.f_isinstance (by decide +kernel) (pa_cons (pv 1) (pa_cons (pe_bltn (v := .ty "tuple") rfl T.f_tuple (by decide +kernel) rfl) pa_nil))))) (pw_or (pt_cmpR op_ne (pe_callB b_lenQ rfl T.f_len (by decide +kernel) (pa_cons (pv 1) pa_nil)) pe_int (nomark _)) (pw_or (pt_not (pt_val (pe_fn c_is_whole (hr.mono (by decide)) pass0 (pa_cons (pe_ix ix_tup (pv 1) pe_int (fun _ _ => rfl)) pa_nil)))) (pw_or1 (pt_not (pt_val (pe_fn c_is_whole (hr.mono (by decide)) pass0 (pa_cons (pe_ix ix_tup (pv 1) pe_int (fun _ _ => rfl)) pa_nil))))))))) (pss_one (ps_ret pe_bl)) pss_nil)
      (pss_one (ps_ret (pe_and (pe_chain op_le op_lt pe_int (pe_ix ix_tup (pv 1) pe_int (fun _ _ => rfl)) (pe_callB b_lenQ rfl T.f_len (by decide +kernel) (pa_cons (pv 0) pa_nil))) (pe_one (pe_chain op_le op_lt pe_int (pe_ix ix_tup (pv 1) pe_int (fun _ _ => rfl)) (pe_callB b_lenT rfl T.f_len (by decide +kernel) (pa_cons (pe_ix ix_tup (pv 0) pe_int (fun _ _ => rfl)) pa_nil)))))))), ?_⟩
    have hcB := T.cls_Board
    have hnr := T.na_Board_rows
    have hnm := T.na_Board_marks
    have hnb := T.na_Board_begin
    have hcK := T.cls_Book
    have hnh := T.na_Book_held
    obtain ⟨a, rfl, ha⟩ := rows_open hv
    obtain ⟨p, rfl, hp⟩ := cell_open hu
    have hl : (g.map fun l => V.str (mk l)).length = g.length := List.length_map _
    have e0 : g[0]? = some g[0] := List.getElem?_eq_getElem (by omega)
    have e0' := gmap e0
    have n0 : g[0].length = w := hr9 _ (List.getElem_mem _)
    walk_at "rd"
    refine k_itnTr rfl ?_
    walk_at "rd"
    refine ⟨_, rfl, ?_⟩
    walk_at "rd"
    refine ⟨_, rfl, ?_⟩
    walk_at "rd"
    refine k_itTr (by omega) ?_
    walk_at "rd"
    rw [hl]
    refine k_itTr (by omega) ?_
    walk_at "rd"
    refine k_itTr (by omega) ?_
    walk_at "rd"
    refine k_lenT (by omega) ?_
    rw [n0]
    walk_at "rd"
    refine q_bl (decide_eq_true (by omega)) ?_
    exact hQ

theorem ok_Board_init {P : Program} {wd : World} {K : PySem.W.Frag} {mg : Str → Option Value} {bas : Heap} (T : Tx K mg) (c_are_rows : DefOk P wd K mg bas CX0 "are_rows" 1 ["thing"] spAreRows) (c_is_cell : DefOk P wd K mg bas CX0 "is_cell" 2 ["rows", "thing"] spIsCell) (c_is_sign : DefOk P wd K mg bas CX0 "is_sign" 1 ["thing"] spIsSign) :
    MakeOk P wd K mg bas CX0 (He.ga K "Board") "Board" 3 ["self", "rows", "marks", "begin"] (spBoardInit K) := by
  refine make0 T.c_Board T.mk_Board T.fn_Board_init sc_Board_init bp_Board_init (fun vs H Q E h => ?_) (fun f cdv A outer s H vs Q E hr h => ?_)
  · obtain ⟨x, dx, v1, v2, v3, g, m, beg, h, w, rfl, hx, h1, h2, h3, hg, hm, b1, b2, hQ⟩ := h
    rfl
  · obtain ⟨x, dx, v1, v2, v3, g, m, beg, h, w, rfl, hx, h1, h2, h3, hg, hm, b1, b2, hQ⟩ := h
    refine ⟨_, (pss_cons (ps_if (PW.pt (pw_or (pt_not (pt_val (pe_fn c_are_rows (hr.mono (by decide)) pass0 (pa_cons (pv 1) pa_nil)))) (pw_or1 (pt_not (pt_val (pe_fn c_are_rows (hr.mono (by decide)) pass0 (pa_cons (pv 2) pa_nil))))))) (pss_one ps_never) pss_nil)
      (pss_cons (ps_if (PW.pt (pw_or (pt_cmpR op_ne (pe_callB b_lenQ rfl T.f_len (by decide +kernel) (pa_cons (pv 1) pa_nil)) (pe_callB b_lenQ rfl T.f_len (by decide +kernel) (pa_cons (pv 2) pa_nil)) (nomark _)) (pw_or (pt_cmpR op_ne (pe_callB b_lenT rfl T.f_len (by decide +kernel) (pa_cons (pe_ix ix_tup (pv 1) pe_int (fun _ _ => rfl)) pa_nil)) (pe_callB b_lenT rfl T.f_len (by decide +kernel) (pa_cons (pe_ix ix_tup (pv 2) pe_int (fun _ _ => rfl)) pa_nil)) (nomark _)) (pw_or1 (pt_not (pt_val (pe_fn c_is_cell (hr.mono (by decide)) pass0 (pa_cons (pv 1) (pa_cons (pv 3) pa_nil))))))))) (pss_one ps_never) pss_nil)
      (pss_cons (ps_if (pt_not (pt_val (pe_callB (cr_all rfl) rfl T.f_all (by decide +kernel) (pa_cons (pe_lc (own := [("sign", 4)]) (g := (gName 4)) (tt := tYes) rfl nd_Board_init (pi_str (pe_bm PySem.F.plainAttrs_str PySem.F.slot_str_join PySem.F.type_str_join m_join (pe_lit [] (by decide +kernel)) (pa_cons (pv 1) pa_nil))) (blkOk_by (own := [("sign", 4)]) (N := N_Board_init) (sc := (defScope s_Board_init)) (by decide +kernel)) (fun _ _ _ _ _ => (pg_name (i := 4) nd_Board_init rfl (Or.inl rfl))) (fun _ _ _ _ _ => pts_nil) (fun _ _ _ _ _ => (pe_or (pe_cmpR op_eq (pv 4) (pe_gs T.g_FREE) (nomark _)) (pe_one (pe_fn c_is_sign (hr.mono (by decide)) pass0 (pa_cons (pv 4) pa_nil)))))) pa_nil)))) (pss_one ps_never) pss_nil)
      (pss_cons (ps_if (pt_not (pt_val (pe_callB (cr_all rfl) rfl T.f_all (by decide +kernel) (pa_cons (pe_lc (own := [("mark", 5)]) (g := (gName 5)) (tt := tYes) rfl nd_Board_init (pi_str (pe_bm PySem.F.plainAttrs_str PySem.F.slot_str_join PySem.F.type_str_join m_join (pe_lit [] (by decide +kernel)) (pa_cons (pv 2) pa_nil))) (blkOk_by (own := [("mark", 5)]) (N := N_Board_init) (sc := (defScope s_Board_init)) (by decide +kernel)) (fun _ _ _ _ _ => (pg_name (i := 5) nd_Board_init rfl (Or.inl rfl))) (fun _ _ _ _ _ => pts_nil) (fun _ _ _ _ _ => (pe_cmpR o_inC (pv 5) (pe_gs T.g_MARKS) (by rfl)))) pa_nil)))) (pss_one ps_never) pss_nil)
      (pss_cons (ps_fld (pv 0) (pv 1) rfl)
      (pss_cons (ps_fld (pv 0) (pv 2) rfl)
      (pss_one (ps_fld (pv 0) (pv 3) rfl)))))))), ?_⟩
    have hcB := T.cls_Board
    have hnr := T.na_Board_rows
    have hnm := T.na_Board_marks
    have hnb := T.na_Board_begin
    have hcK := T.cls_Book
    have hnh := T.na_Book_held
    obtain ⟨a, rfl, ha⟩ := rows_open h1
    obtain ⟨am, rfl, ham⟩ := rows_open h2
    obtain ⟨l0, e0, n0⟩ := hg.top
    have e0' := gmap e0
    have hl : (g.map fun l => V.str (mk l)).length = h := by rw [List.length_map, hg.len]
    have hlm : (m.map fun l => V.str (mk l)).length = h := by rw [List.length_map, hm.len]
    have g1 := hg.h1
    have g9 := hg.h9
    have gw1 := hg.w1
    have gw9 := hg.w9
    have gl := hg.len
    have ml := hm.len
    have em : m[0]? = some m[0] := List.getElem?_eq_getElem (by omega)
    have em' := gmap em
    have nm : m[0].length = w := hm.row _ (List.getElem_mem _)
    walk_at "rd"
    refine ⟨_, g, w, rfl, h1, by omega, by omega, hg.row, gw1, gw9, ?_⟩
    walk_at "rd"
    refine ⟨_, m, w, rfl, h2, by omega, by omega, hm.row, gw1, gw9, ?_⟩
    walk_at "rd"
    rw [hl, hlm]
    refine k_itnTr rfl ?_
    walk_at "rd"
    refine k_lenT (by omega) ?_
    rw [n0]
    walk_at "rd"
    refine k_lenT (by omega) ?_
    rw [nm]
    walk_at "rd"
    refine k_itnTr rfl ?_
    walk_at "rd"
    refine ⟨_, _, g, w, beg, rfl, h1, hg.row, gw9, h3, by omega, b2, ?_⟩
    walk_at "rd"
    have hf := flat_len g 9 (fun x m => by rw [hg.row x m]; exact gw9)
    have hfm := flat_len m 9 (fun x q => by rw [hm.row x q]; exact gw9)
    refine k_join (.inr ha) (by omega) ?_
    walk_at "rd"
    refine c_S (mp g.flatten fun c => .bool true) (by omega) rfl (fun i c H1 hi hs => ?_) (fun D H1 ys f1 f2 f3 f4 => ?_)
    · have hc : c = 46 ∨ isSg c = true := by
        obtain ⟨r, hr, hc⟩ := List.mem_flatten.mp (List.mem_of_getElem? hi)
        exact hg.sg r hr c hc
      intro P R k1 k2
      walk_at "rd"
      refine ⟨rfl, ?_⟩
      walk_at "rd"
      refine k_ited (fun q => ?_) (fun q => ?_)
      · exact k1 _ _ (.bool true) (.refl _) (mp_succ hi) at_bl
      · walk_at "rd"
        refine ⟨c, rfl, ?_⟩
        refine k1 _ _ (.bool true) (.refl _) (mp_succ hi) ?_
        rcases hc with hc | hc
        · exact (q (by rw [hc])).elim
        · rw [hc]; exact at_bl
    rw [mp_all _ _ (Nat.le_refl _)] at f4
    have h5 : ys = (g.flatten.map fun c => true).map V.bl := by
      apply AtAll.bls' (H := H1)
      rw [List.map_map]
      exact f4
    rw [h5] at f3
    walk_at "rd"
    refine k_all f3 ?_
    walk_at "rd"
    refine k_nT (by simp) ?_
    have ham1 := f2 _ _ ham
    walk_at "rd"
    refine k_join (.inr ham1) (by omega) ?_
    walk_at "rd"
    refine c_S (mp m.flatten fun c => .bool true) (by omega) rfl (fun i c H1 hi hs => ?_) (fun D2 H2 ys2 k1 k2 k3 k4 => ?_)
    · have hc : c ∈ markL := by
        obtain ⟨r, hr, hc⟩ := List.mem_flatten.mp (List.mem_of_getElem? hi)
        exact hm.mks r hr c hc
      intro P R k1 k2
      walk_at "rd"
      refine ⟨rfl, ?_⟩
      walk_at "rd"
      exact k1 _ _ (.bool true) (.refl _) (mp_succ hi) (by rw [decide_eq_true hc]; exact at_bl)
    rw [mp_all _ _ (Nat.le_refl _)] at k4
    have h6 : ys2 = (m.flatten.map fun c => true).map V.bl := by
      apply AtAll.bls' (H := H2)
      rw [List.map_map]
      exact k4
    rw [h6] at k3
    walk_at "rd"
    refine k_all k3 ?_
    walk_at "rd"
    refine k_nT (by simp) ?_
    walk_at "rd"
    have hx2 := k2 _ _ (f2 _ _ hx)
    refine k_sf hx2 hcB hnr (by rfl) ?_
    have hx3 : (upd H2 x (.ins (He.ga K "Board") dx (putF "rows" (.ref a) []))) x = some _ := upd_same
    walk_at "rd"
    refine k_sf hx3 hcB hnm (by rfl) ?_
    have hx4 : (upd (upd H2 x (.ins (He.ga K "Board") dx (putF "rows" (.ref a) []))) x (.ins (He.ga K "Board") dx (putF "marks" (.ref am) (putF "rows" (.ref a) [])))) x = some _ := upd_same
    walk_at "rd"
    refine k_sf hx4 hcB hnb (by rfl) ?_
    refine hQ _ ?_ ?_
    · exact (((Sb.same (f2.trans k2)).wr).wr).wr
    · exact upd_same

theorem ok_Board_laid {P : Program} {wd : World} {K : PySem.W.Frag} {mg : Str → Option Value} {bas : Heap} (T : Tx K mg) (c_Board : MakeOk P wd K mg bas CX0 (He.ga K "Board") "Board" 3 ["self", "rows", "marks", "begin"] (spBoardInit K)) :
    MethOk P wd K mg bas CX0 (He.ga K "Board") "laid" 5 ["self", "laying"] (spBoardLaid K) := by
  refine meth0 T.m_Board_laid T.fn_Board_laid sc_Board_laid bp_Board_laid (fun vs H Q E h => ?_) (fun f cdv A outer s H vs Q E hr h => ?_)
  · obtain ⟨b, v, g, m, beg, h, w, L, rfl, hB, hg, hm, b1, b2, hL, ho, hQ⟩ := h
    rfl
  · obtain ⟨b, v, g, m, beg, h, w, L, rfl, hB, hg, hm, b1, b2, hL, ho, hQ⟩ := h
    refine ⟨_, (pss_cons (ps_setLc (i := 2) (own := [("row", 3)]) (g := (gName 3)) (tt := tYes) rfl nd_Board_laid rfl rfl (sw_true rfl rfl rfl (by decide +kernel)) (pi_tup (pe_fld (pv 0) rfl)) (blkOk_by (own := [("row", 3)]) (N := N_Board_laid) (sc := (defScope s_Board_laid)) (by decide +kernel)) (fun _ _ _ _ _ => (pg_name (i := 3) nd_Board_laid rfl (Or.inl rfl))) (fun _ _ _ _ _ => pts_nil) (fun _ _ _ _ _ => (pe_callTy (b_lstS rfl) rfl T.f_list (by decide +kernel) (pa_cons (pv 3) pa_nil))))
      (pss_cons (ps_for PassesOwn.never rfl (pi_tup (pv 1)) (pg_tup rfl (pgs_cons (pg_name (i := 3) nd_Board_laid rfl (Or.inl rfl)) (pgs_cons (pg_name (i := 4) nd_Board_laid rfl (Or.inl rfl)) (pgs_cons (pg_name (i := 5) nd_Board_laid rfl (Or.inl rfl)) pgs_nil)))) (pss_one (ps_asg (pv 5) (pg_sub (pe_ix ix_list (pv 2) (pv 3) (fun _ _ => rfl)) (pv 4) set_list))))
      (pss_one (ps_ret (pe_new c_Board (hr.mono (by decide)) pass0 (pa_cons (pe_callTy b_tupL rfl T.f_tuple (by decide +kernel) (pa_cons (pe_lc (own := [("row", 3)]) (g := (gName 3)) (tt := tYes) rfl nd_Board_laid (pi_list (pv 2)) (blkOk_by (own := [("row", 3)]) (N := N_Board_laid) (sc := (defScope s_Board_laid)) (by decide +kernel)) (fun _ _ _ _ _ => (pg_name (i := 3) nd_Board_laid rfl (Or.inl rfl))) (fun _ _ _ _ _ => pts_nil) (fun _ _ _ _ _ => (pe_bmE (K := K) rfl PySem.F.plainAttrs_str PySem.F.slot_str_join PySem.F.type_str_join (mt_of (rJoin K) m_join rfl) (pe_lit [] (by decide +kernel)) (pa_cons (pv 3) pa_nil)))) pa_nil)) (pa_cons (pe_fld (pv 0) rfl) (pa_cons (pe_fld (pv 0) rfl) pa_nil)))))))), ?_⟩
    have hcB := T.cls_Board
    have hnr := T.na_Board_rows
    have hnm := T.na_Board_marks
    have hnb := T.na_Board_begin
    have hcK := T.cls_Book
    have hnh := T.na_Book_held
    obtain ⟨dx, v1, v2, v3, hb, h1, h2, h3⟩ := id hB
    obtain ⟨a, rfl, ha⟩ := rows_open h1
    obtain ⟨p, vs, rfl, hp, hv⟩ := lay_open hL
    have g9 := hg.h9
    have gl := hg.len
    have hvl := map_len hv
    walk_at "rd"
    refine c_grid ha (by omega) (fun r mr H1 P R hP => ?_) (fun D H1 hN => ?_)
    · have r9 := hg.w9
      have rl := hg.row r mr
      walk_at "rd"
      refine ⟨rfl, ?_⟩
      walk_at "rd"
      exact ⟨r, rfl, by omega, fun l hl => hP l hl⟩
    have hp1 := hN.2.1 _ _ hp
    walk_at "rd"
    refine f_T (fun i σ H' => (∃ a3 a4 a5, σ = [some (.ref b), some (.ref p), some (.ref D), a3, a4, a5]) ∧ GridN H H' D (laidM g (L.take i))) ⟨⟨_, _, _, rfl⟩, hN⟩ (fun i σ H' _ pv => SqT.of (pv.2.2.1 _ _ hp)) (fun i x σ H2 hi pv => ?_) (fun σ H2 pv => ?_)
    · obtain ⟨⟨a3, a4, a5, rfl⟩, hN2⟩ := pv
      obtain ⟨t, et, ht⟩ := map_get hv hi
      obtain ⟨q, rfl, hq⟩ := tri_open (ht.same hN2.2.1)
      obtain ⟨k1, k2, k3⟩ := ho.inn t (List.mem_of_getElem? et)
      have ok := hg.laid (L.take i) fun z mz => ho.inn z (List.mem_of_mem_take mz)
      have er : (laidM g (L.take i))[t.1]? = some ((laidM g (L.take i))[t.1]'(by rw [ok.len]; exact k1)) := List.getElem?_eq_getElem _
      obtain ⟨qs, z, z1, z2, z3, z4⟩ := hN2.grid.row er
      have rl : ((laidM g (L.take i))[t.1]'(by rw [ok.len]; exact k1)).length = w := ok.row _ (List.getElem_mem _)
      walk_at "rd"
      refine k_ixL z1 z3 ?_
      walk_at "rd"
      refine k_set z4 (by rw [List.length_map, rl]; exact k2) ?_
      refine ⟨⟨_, _, _, rfl⟩, ?_⟩
      rw [laid_take et]
      exact hN2.set er z1 z3 (by rw [rl]; exact k2)
    obtain ⟨⟨a3, a4, a5, rfl⟩, hN2⟩ := pv
    rw [List.take_of_length_le (by omega)] at hN2
    have ok := hg.laid L ho.inn
    obtain ⟨qs, z1, z2, z3, z4⟩ := hN2.grid
    have s2 := hN2.2.1
    have gl2 := ok.len
    walk_at "rd"
    refine c_L (mp (laidM g L) sD) z1 (by rw [List.length_map]; omega) rfl (fun i x H3 hi s3 => ?_) (fun D3 H3 ys k1 k2 k3 k4 => ?_)
    · rw [List.getElem?_map] at hi
      obtain ⟨q, eq, rfl⟩ := Option.map_eq_some_iff.mp hi
      have hi2 : i < (laidM g L).length := by rw [← z3]; exact (List.getElem?_eq_some_iff.mp eq).1
      have er : (laidM g L)[i]? = some (laidM g L)[i] := List.getElem?_eq_getElem hi2
      have hq := s3 _ _ (z4 i q _ eq er)
      have rl := ok.row _ (List.getElem_mem hi2)
      have w9 := ok.w9
      intro P R h1 h2
      walk_at "rd"
      refine ⟨rfl, ?_⟩
      walk_at "rd"
      have hq2 : H3 q = some (.lst (((laidM g L)[i].map fun c => [c]).map fun t => V.str (mk t))) := by rw [List.map_map]; exact hq
      refine k_join (.inl hq2) (by rw [flat_single, List.map_id']; omega) ?_
      rw [flat_single, List.map_id']
      exact h1 _ _ _ (.refl _) (mp_succ er) at_str
    rw [mp_all _ _ (by rw [List.length_map]; omega)] at k4
    walk_at "rd"
    refine k_tupL k3 fun p2 hp2 => ?_
    have s3 := (s2.trans k2).trans (Same.new (o := .tup ys) hp2)
    have hb3 := s3 _ _ hb
    walk_at "rd"
    intro x dx2 n1 n2 ne
    have s4 : Same (upd H3 p2 (.tup ys)) (upd (upd (upd H3 p2 (.tup ys)) dx2 (.own x)) x (.ins (He.ga K "Board") dx2 [])) :=
      (Same.new n2).trans (Same.new (by rw [upd_ne (fun e => ne e.symm)]; exact n1))
    have hrows : At (upd H3 p2 (.tup ys)) (rowsD (laidM g L)) (.ref p2) := at_tup upd_same (k4.same (Same.new hp2))
    refine ⟨x, dx2, .ref p2, v2, v3, laidM g L, m, beg, h, w, rfl, upd_same, hrows.same s4, h2.same (s3.trans s4), h3.same (s3.trans s4), ok, hm, b1, b2, fun H5 s5 hx5 => ⟨rfl, ?_⟩⟩
    have s6 : Same (upd H3 p2 (.tup ys)) H5 := fun a o e => s5 a o (fun q => by rw [q, n1] at e; cases e) (s4 _ _ e)
    exact hQ x H5 (s3.trans s6) ⟨dx2, _, _, _, hx5, hrows.same s6, h2.same (s3.trans s6), h3.same (s3.trans s6)⟩

theorem ok_Board_at {P : Program} {wd : World} {K : PySem.W.Frag} {mg : Str → Option Value} {bas : Heap} (T : Tx K mg)  :
    MethOk P wd K mg bas CX0 (He.ga K "Board") "at" 1 ["self", "row", "column"] (spBoardAt K) := by
  refine meth0 T.m_Board_at T.fn_Board_at sc_Board_at bp_Board_at (fun vs H Q E h => ?_) (fun f cdv A outer s H vs Q E hr h => ?_)
  · obtain ⟨b, r, c, g, m, beg, h, w, rfl, ⟨dx, v1, v2, v3, hb, h1, h2, h3⟩, hg, hQ⟩ := h
    rfl
  · obtain ⟨b, r, c, g, m, beg, h, w, rfl, ⟨dx, v1, v2, v3, hb, h1, h2, h3⟩, hg, hQ⟩ := h
    refine ⟨_, (pss_cons (ps_if (PW.pt (pw_or (pt_not (pt_chain op_le op_lt pe_int (pv 1) (pe_callB b_lenQ rfl T.f_len (by decide +kernel) (pa_cons (pe_fld (pv 0) rfl) pa_nil)))) (pw_or1 (pt_not (pt_chain op_le op_lt pe_int (pv 2) (pe_callB b_lenT rfl T.f_len (by decide +kernel) (pa_cons (pe_ix ix_tup (pe_fld (pv 0) rfl) pe_int (fun _ _ => rfl)) pa_nil))))))) (pss_one (ps_ret (pe_gs T.g_FREE))) pss_nil)
      (pss_one (ps_ret (pe_ix ix_str (pe_ix ix_tup (pe_fld (pv 0) rfl) (pv 1) (fun _ _ => rfl)) (pv 2) (fun _ _ => rfl))))), ?_⟩
    have hcB := T.cls_Board
    have hnr := T.na_Board_rows
    have hnm := T.na_Board_marks
    have hnb := T.na_Board_begin
    have hcK := T.cls_Book
    have hnh := T.na_Book_held
    obtain ⟨a, rfl, ha⟩ := rows_open h1
    obtain ⟨l0, e0, n0⟩ := hg.top
    have e0' := gmap e0
    have hl : (g.map fun l => V.str (mk l)).length = h := by rw [List.length_map, hg.len]
    have hw9 := hg.w9
    have hout : ¬ (0 ≤ r ∧ r < h ∧ 0 ≤ c ∧ c < w) → LR.atI g r c = 46 := fun n => by
      unfold LR.atI
      split
      · rename_i k
        by_cases q : r < h
        · exact atN_col hg.row (by omega)
        · exact atN_row (by rw [hg.len]; omega)
      · rfl
    walk_at "rd"
    refine k_ited (fun q1 => ?_) (fun q1 => ?_)
    rotate_left
    · walk_at "rd"
      rw [hout (by omega)] at hQ
      exact hQ
    walk_at "rd"
    rw [hl]
    refine k_itn (fun q2 => ?_) (fun q2 => ?_)
    · walk_at "rd"
      rw [hout (by simp at q2; omega)] at hQ
      exact hQ
    have q2 := of_decide_eq_true q2
    walk_at "rd"
    refine k_ited (fun q3 => ?_) (fun q3 => ?_)
    rotate_left
    · walk_at "rd"
      rw [hout (by omega)] at hQ
      exact hQ
    walk_at "rd"
    refine k_lenT (by omega) ?_
    rw [n0]
    walk_at "rd"
    refine k_itn (fun q4 => ?_) (fun q4 => ?_)
    · walk_at "rd"
      rw [hout (by simp at q4; omega)] at hQ
      exact hQ
    have q4 := of_decide_eq_true q4
    walk_at "rd"
    obtain ⟨r, rfl⟩ := Int.eq_ofNat_of_zero_le q1
    obtain ⟨c, rfl⟩ := Int.eq_ofNat_of_zero_le q3
    obtain ⟨l, e1, e2, e3⟩ := atN_get (r := r) (c := c) hg.row (by rw [hg.len]; omega) (by omega)
    refine k_ixT ha (gmap e1) ?_
    walk_at "rd"
    refine k_ixS (by omega) e3 ?_
    walk_at "rd"
    rw [atI_nat'] at hQ
    exact hQ

theorem ok_Board_run {P : Program} {wd : World} {K : PySem.W.Frag} {mg : Str → Option Value} {bas : Heap} (T : Tx K mg) (c_Board_at : MethOk P wd K mg bas CX0 (He.ga K "Board") "at" 1 ["self", "row", "column"] (spBoardAt K)) :
    MethOk P wd K mg bas CX0 (He.ga K "Board") "run" 2 ["self", "row", "column", "way"] (spBoardRun K) := by
  refine meth0 T.m_Board_run T.fn_Board_run sc_Board_run bp_Board_run (fun vs H Q E h => ?_) (fun f cdv A outer s H vs Q E hr h => ?_)
  · obtain ⟨b, r, c, way, g, m, beg, h, w, rfl, hB, hg, hr1, hc1, hw1, hQ⟩ := h
    rfl
  · obtain ⟨b, r, c, way, g, m, beg, h, w, rfl, hB, hg, hr1, hc1, hw1, hQ⟩ := h
    refine ⟨_, (pss_cons (ps_set (i := 4) nd_Board_run rfl (Or.inl rfl) (pv 3))
      (pss_cons (ps_set (i := 5) nd_Board_run rfl (Or.inl rfl) (pe_op op_sub pe_int (pv 3)))
      (pss_cons (ps_while PassesOwn.never (pt_cmpR op_ne (pe_mt c_Board_at T.cls_Board (hr.mono (by decide)) pass0 (pv 0) (pa_cons (pe_op op_sub (pv 1) (pv 4)) (pa_cons (pe_op op_sub (pv 2) (pv 5)) pa_nil))) (pe_gs T.g_FREE) (nomark _)) (pss_cons (ps_aug (i := 1) nd_Board_run rfl (Or.inl rfl) (pv 4) ip_sub)
      (pss_one (ps_aug (i := 2) nd_Board_run rfl (Or.inl rfl) (pv 5) ip_sub))))
      (pss_cons (ps_set (i := 6) nd_Board_run rfl (Or.inl rfl) (pe_lit [] (by decide +kernel)))
      (pss_cons (ps_while PassesOwn.never (pt_cmpR op_ne (pe_mt c_Board_at T.cls_Board (hr.mono (by decide)) pass0 (pv 0) (pa_cons (pe_op op_add (pv 1) (pe_op op_mul (pv 4) (pe_callB b_lenT rfl T.f_len (by decide +kernel) (pa_cons (pv 6) pa_nil)))) (pa_cons (pe_op op_add (pv 2) (pe_op op_mul (pv 5) (pe_callB b_lenT rfl T.f_len (by decide +kernel) (pa_cons (pv 6) pa_nil)))) pa_nil))) (pe_gs T.g_FREE) (nomark _)) (pss_one (ps_aug (i := 6) nd_Board_run rfl (Or.inl rfl) (pe_mt c_Board_at T.cls_Board (hr.mono (by decide)) pass0 (pv 0) (pa_cons (pe_op op_add (pv 1) (pe_op op_mul (pv 4) (pe_callB b_lenT rfl T.f_len (by decide +kernel) (pa_cons (pv 6) pa_nil)))) (pa_cons (pe_op op_add (pv 2) (pe_op op_mul (pv 5) (pe_callB b_lenT rfl T.f_len (by decide +kernel) (pa_cons (pv 6) pa_nil)))) pa_nil))) o_iaddS)))
      (pss_one (ps_ret (pe_tup (pa_cons (pv 1) (pa_cons (pv 2) (pa_cons (pv 6) pa_nil))))))))))), ?_⟩
    have hcB := T.cls_Board
    have hnr := T.na_Board_rows
    have hnm := T.na_Board_marks
    have hnb := T.na_Board_begin
    have hcK := T.cls_Book
    have hnh := T.na_Book_held
    obtain ⟨dx, v1, v2, v3, hb, h1, h2, h3⟩ := id hB
    have h9 := hg.h9
    have w9 := hg.w9
    obtain ⟨ac, hac⟩ : ∃ ac, ac = 1 - way := ⟨_, rfl⟩
    have hda : way + ac = 1 := by omega
    have eac : (1 : Int) - (way : Int) = (ac : Int) := by omega
    rw [run_eq, ← hac] at hQ
    walk_at "rd"
    rw [eac]
    refine k_while (fun m σ H' => H' = H ∧ ∃ r' c' : Nat, σ = [some (.ref b), some (.int (r' : Int)), some (.int (c' : Int)), some (.int (way : Int)), some (.int (way : Int)), some (.int (ac : Int)), none] ∧ r' < h ∧ c' < w ∧ backM g way ac r' c' = backM g way ac r c ∧ m = r' + c') (r + c) ⟨rfl, r, c, rfl, hr1, hc1, rfl, rfl⟩ (fun n σ H' TT FF kT kF pv => ?_)
    obtain ⟨rfl, r', c', rfl, hr', hc', hbk, rfl⟩ := pv
    walk_at "rd"
    refine ⟨b, dx, _, rfl, hb, rfl, ?_⟩
    walk_at "rd"
    refine ⟨b, _, _, g, m, beg, h, w, rfl, hB, hg, ?_⟩
    walk_at "rd"
    refine k_itend (fun hne => ?_) (fun he => ?_)
    · have hgo := atI_back.mp (fun e => hne (by rw [e]))
      refine kT _ ?_
      walk_at "rd"
      have e1 : (r' : Int) - (way : Int) = ((r' - way : Nat) : Int) := by omega
      have e2 : (c' : Int) - (ac : Int) = ((c' - ac : Nat) : Int) := by omega
      rw [e1, e2]
      exact ⟨_, by omega, rfl, r' - way, c' - ac, rfl, by omega, by omega, by rw [← hbk]; exact (back_go hda hgo).symm, rfl⟩
    · have hst := back_stop (fun q => atI_back.mpr q (List.cons.inj he).1)
      refine kF _ ?_
      rw [hst] at hbk
      rw [← hbk] at hQ
      walk_at "rd"
      refine k_while (fun m σ H2 => H2 = H' ∧ ∃ l : List Nat, σ = [some (.ref b), some (.int (r' : Int)), some (.int (c' : Int)), some (.int (way : Int)), some (.int (way : Int)), some (.int (ac : Int)), some (.str (mk l))] ∧ l.length ≤ 9 ∧ l ++ fwdF g way ac (9 - l.length) (r' + way * l.length) (c' + ac * l.length) = fwdF g way ac 9 r' c' ∧ m = 9 - l.length) 9 ⟨rfl, [], rfl, Nat.zero_le _, rfl, rfl⟩ (fun n σ H2 T2 F2 kT2 kF2 pv => ?_)
      obtain ⟨rfl, l, rfl, hl9, hfw, rfl⟩ := pv
      have e1 : (r' : Int) + (way : Int) * ((l.length : Nat) : Int) = ((r' + way * l.length : Nat) : Int) := by rw [Int.natCast_add, Int.natCast_mul]
      have e2 : (c' : Int) + (ac : Int) * ((l.length : Nat) : Int) = ((c' + ac * l.length : Nat) : Int) := by rw [Int.natCast_add, Int.natCast_mul]
      walk_at "rd"
      refine ⟨b, dx, _, rfl, hb, rfl, ?_⟩
      walk_at "rd"
      refine k_lenT (by omega) ?_
      refine k_I (.inl (by omega)) ?_
      walk_at "rd"
      refine k_lenT (by omega) ?_
      refine k_I (.inl (by omega)) ?_
      walk_at "rd"
      rw [e1, e2]
      refine ⟨b, _, _, g, m, beg, h, w, rfl, hB, hg, ?_⟩
      rw [atI_nat']
      walk_at "rd"
      refine k_itend (fun hne => ?_) (fun he => ?_)
      · have hne : atN g (r' + way * l.length) (c' + ac * l.length) ≠ 46 := fun e => hne (by rw [e])
        have hin := hg.inn hne
        have hl8 : l.length < 9 := by rcases way_two hda with ⟨rfl, rfl⟩ | ⟨rfl, rfl⟩ <;> omega
        refine kT2 _ ?_
        walk_at "rd"
        refine ⟨b, dx, _, rfl, hb, rfl, ?_⟩
        walk_at "rd"
        refine k_lenT (by omega) ?_
        refine k_I (.inl (by omega)) ?_
        walk_at "rd"
        refine k_lenT (by omega) ?_
        refine k_I (.inl (by omega)) ?_
        walk_at "rd"
        rw [e1, e2]
        refine ⟨b, _, _, g, m, beg, h, w, rfl, hB, hg, ?_⟩
        rw [atI_nat']
        walk_at "rd"
        refine k_addS (by simp; omega) ?_
        refine ⟨9 - (l ++ [atN g (r' + way * l.length) (c' + ac * l.length)]).length, by rw [List.length_append, List.length_singleton]; omega, rfl, _, rfl, by rw [List.length_append, List.length_singleton]; omega, ?_, rfl⟩
        rw [← hfw, List.length_append, List.length_singleton]
        obtain ⟨n, en⟩ : ∃ n, 9 - l.length = n + 1 := ⟨8 - l.length, by omega⟩
        rw [en, fwd_go hne, show 9 - (l.length + 1) = n by omega, List.append_assoc]
        rw [Nat.mul_add, Nat.mul_add, Nat.mul_one, Nat.mul_one, ← Nat.add_assoc, ← Nat.add_assoc]
        rfl
      · have he := (List.cons.inj he).1
        rw [fwd_stop he, List.append_nil] at hfw
        refine kF2 _ ?_
        walk_at "rd"
        intro p hp
        refine hQ p _ (Same.new hp) hp ?_
        rw [← hfw]
        exact upd_same

theorem ok_formed {P : Program} {wd : World} {K : PySem.W.Frag} {mg : Str → Option Value} {bas : Heap} (T : Tx K mg) (c_Board_laid : MethOk P wd K mg bas CX0 (He.ga K "Board") "laid" 5 ["self", "laying"] (spBoardLaid K)) (c_Board_run : MethOk P wd K mg bas CX0 (He.ga K "Board") "run" 2 ["self", "row", "column", "way"] (spBoardRun K)) (c_way_of : DefOk P wd K mg bas CX0 "way_of" 1 ["laying"] spWayOf) :
    DefOk P wd K mg bas CX0 "formed" 6 ["board", "laying"] (spFormed K) := by
  refine def0 T.fn_formed sc_formed bp_formed (fun vs H Q E h => ?_) (fun f cdv A outer s H vs Q E hr h => ?_)
  · obtain ⟨b, v, g, m, beg, h, w, L, rfl, hB, hg, hm, b1, b2, hL, ho, hQ⟩ := h
    rfl
  · obtain ⟨b, v, g, m, beg, h, w, L, rfl, hB, hg, hm, b1, b2, hL, ho, hQ⟩ := h
    refine ⟨_, (pss_cons (ps_set (i := 2) nd_formed rfl (Or.inl rfl) (pe_mt c_Board_laid T.cls_Board (hr.mono (by decide)) pass0 (pv 0) (pa_cons (pv 1) pa_nil)))
      (pss_cons (ps_set (i := 3) nd_formed rfl (Or.inr rfl) (pe_fn c_way_of (hr.mono (by decide)) pass0 (pa_cons (pv 1) pa_nil)))
      (pss_cons (ps_set (i := 4) nd_formed rfl (Or.inl rfl) (pe_op op_cat (pe_lst (pa_cons (pe_tup (pa_cons (pe_ix ix_tup (pv 1) pe_int (fun _ _ => rfl)) (pa_cons (pv 3) pa_nil))) pa_nil)) (pe_lc (own := [("triple", 6)]) (g := (gName 6)) (tt := tYes) rfl nd_formed (pi_tup (pv 1)) (blkOk_by (own := [("triple", 6)]) (N := N_formed) (sc := (defScope s_formed)) (by decide +kernel)) (fun _ _ _ _ _ => (pg_name (i := 6) nd_formed rfl (Or.inl rfl))) (fun _ _ _ _ _ => pts_nil) (fun _ _ _ _ _ => (pe_tup (pa_cons (pv 6) (pa_cons (pe_op op_sub pe_int (pv 3)) pa_nil)))))))
      (pss_cons (ps_set (i := 5) nd_formed rfl (Or.inl rfl) (pe_lst pa_nil))
      (pss_cons (ps_for PassesOwn.never rfl (pi_list (pv 4)) (pg_tup rfl (pgs_cons (pg_name (i := 6) nd_formed rfl (Or.inl rfl)) (pgs_cons (pg_name (i := 7) nd_formed rfl (Or.inl rfl)) pgs_nil))) (pss_cons (ps_asg (pe_mt c_Board_run T.cls_Board (hr.mono (by decide)) pass0 (pv 2) (pa_cons (pe_ix ix_tup (pv 6) pe_int (fun _ _ => rfl)) (pa_cons (pe_ix ix_tup (pv 6) pe_int (fun _ _ => rfl)) (pa_cons (pv 7) pa_nil)))) (pg_tup rfl (pgs_cons (pg_name (i := 8) nd_formed rfl (Or.inl rfl)) (pgs_cons (pg_name (i := 9) nd_formed rfl (Or.inl rfl)) (pgs_cons (pg_name (i := 10) nd_formed rfl (Or.inl rfl)) pgs_nil)))))
      (pss_one (ps_if (pt_cmpR op_gt (pe_callB b_lenT rfl T.f_len (by decide +kernel) (pa_cons (pv 10) pa_nil)) pe_int (nomark _)) (pss_one (ps_expr (pe_bm PySem.F.plainAttrs_list PySem.F.slot_list_append PySem.F.type_list_append mt_append (pv 5) (pa_cons (pe_tup (pa_cons (pv 8) (pa_cons (pv 9) (pa_cons (pv 7) (pa_cons (pv 10) pa_nil))))) pa_nil)))) pss_nil))))
      (pss_one (ps_ret (pe_callTy b_tupL rfl T.f_tuple (by decide +kernel) (pa_cons (pv 5) pa_nil))))))))), ?_⟩
    have hcB := T.cls_Board
    have hnr := T.na_Board_rows
    have hnm := T.na_Board_marks
    have hnb := T.na_Board_begin
    have hcK := T.cls_Book
    have hnh := T.na_Book_held
    obtain ⟨dx, v1, v2, v3, hb, h1, h2, h3⟩ := id hB
    obtain ⟨p, vs, rfl, hp, hv⟩ := lay_open hL
    have hvl := map_len hv
    have l7 := ho.few
    obtain ⟨x0, e0, hx0⟩ := map_head (d := (0, 0, 0)) hv ho.ne
    walk_at "rd"
    refine ⟨b, dx, _, rfl, hb, rfl, ?_⟩
    walk_at "rd"
    refine ⟨b, _, g, m, beg, h, w, L, rfl, hB, hg, hm, b1, b2, hL, ho, fun ab H1 s1 hab => ?_⟩
    have hp1 := s1 _ _ hp
    walk_at "rd"
    refine ⟨_, L, rfl, hL.same s1, ho.ne, ?_⟩
    walk_at "rd"
    intro p2 hp2
    walk_at "rd"
    intro p3 hp3
    have hp1' := upd_old (u := .lst [.ref p2]) (upd_old (u := .tup [x0, .int (wayL L : Nat)]) hp1 hp2) hp3
    have s2 : Same H1 (upd (upd H1 p2 (.tup [x0, .int (wayL L : Nat)])) p3 (.lst [.ref p2])) := (Same.new hp2).trans (Same.new hp3)
    have ask0 : At (upd (upd H1 p2 (.tup [x0, .int (wayL L : Nat)])) p3 (.lst [.ref p2])) (askD (L.headD (0, 0, 0), wayL L)) (.ref p2) :=
      at_tup (upd_old upd_same hp3) (aa_cons (hx0.same (s1.trans s2)) (aa_cons at_int aa_nil))
    have hp3' : upd (upd H1 p2 (.tup [x0, .int (wayL L : Nat)])) p3 (.lst [.ref p2]) p3 = some _ := upd_same
    generalize upd (upd H1 p2 (.tup [x0, .int (wayL L : Nat)])) p3 (.lst [.ref p2]) = H2 at hp1' s2 ask0 hp3'
    have hwl := wayL_le L
    have e1w : (1 : Int) - ((wayL L : Nat) : Int) = ((1 - wayL L : Nat) : Int) := by omega
    walk_at "rd"
    refine c_T (mp L fun t => askD (t, 1 - wayL L)) hp1' (by omega) rfl (fun i x H3 hi s3 => ?_) (fun D H3 ys k1 k2 k3 k4 => ?_)
    · obtain ⟨t, et, ht⟩ := map_get hv hi
      intro P R h1 h2
      walk_at "rd"
      refine ⟨rfl, ?_⟩
      walk_at "rd"
      rw [e1w]
      intro p4 hp4
      exact h1 _ _ _ (Same.new hp4) (mp_succ et) (at_tup upd_same (aa_cons (ht.same (((s1.trans s2).trans s3).trans (Same.new hp4))) (aa_cons at_int aa_nil)))
    rw [mp_all _ _ (by omega)] at k4
    have ylen := map_len k4
    refine k_cat (k2 _ _ hp3') k3 (by show [V.ref p2].length + _ ≤ _; rw [ylen, List.length_singleton]; omega) fun pa hpa => ?_
    have hasks : LsAt (upd H3 pa (.lst ([V.ref p2] ++ ys))) pa ((asksL L).map askD) := ⟨_, upd_same, by
      unfold asksL
      rw [List.map_cons, List.map_map]
      exact (aa_cons (ask0.same k2) k4).same (Same.new hpa)⟩
    have s3 : Same H1 (upd H3 pa (.lst ([V.ref p2] ++ ys))) := (s2.trans k2).trans (Same.new hpa)
    generalize upd H3 pa (.lst ([V.ref p2] ++ ys)) = H4 at hasks s3
    obtain ⟨as, ha1, ha2⟩ := hasks
    have alen := map_len ha2
    have alen2 : (asksL L).length = L.length + 1 := by unfold asksL; rw [List.length_cons, List.length_map]
    walk_at "rd"
    intro fd hfd
    walk_at "rd"
    have ha1' := upd_old (u := .lst []) ha1 hfd
    refine e_L ha1' ?_
    have gok := hg.laid L ho.inn
    obtain ⟨dx2, u1, u2, u3, hab1, _⟩ := id hab
    have nfd : H1 fd = none := Same.fr s3 hfd
    refine f_L (fun i σ H' => (∃ a6 a7 a8 a9 a10, σ = [some (.ref b), some (.ref p), some (.ref ab), some (.int (wayL L : Nat)), some (.ref pa), some (.ref fd), a6, a7, a8, a9, a10]) ∧ Same H4 H' ∧ LsAt H' fd (flt ((asksL L).map fun a => runW (laidM g L) a.1.1 a.1.2.1 a.2) (fun x => decide (1 < x.2.2.2.length)) wrdD i))
      ⟨⟨_, _, _, _, _, rfl⟩, Same.new hfd, [], upd_same, aa_nil⟩ (fun i σ H' _ pv => SqL.of (pv.2.1 _ _ ha1)) (fun i x σ H5 hi pv => ?_) (fun σ H5 pv => ?_)
    rotate_left
    · obtain ⟨⟨a6, a7, a8, a9, a10, rfl⟩, s5, zs, z1, z2⟩ := pv
      rw [flt_all _ _ _ (by rw [List.length_map]; omega), ← formed_eq] at z2
      walk_at "rd"
      refine k_tupL z1 fun q hq => ?_
      exact hQ _ _ (((s1.trans s3).trans s5).trans (Same.new hq)) (at_tup upd_same (z2.same (Same.new hq)))
    obtain ⟨⟨a6, a7, a8, a9, a10, rfl⟩, s5, zs, z1, z2⟩ := pv
    obtain ⟨ak, eak, hak⟩ := map_get ha2 hi
    obtain ⟨q, xt, rfl, hq, hxt⟩ := ask_open (hak.same s5)
    obtain ⟨qt, rfl, hqt⟩ := tri_open hxt
    have hab5 := s5 _ _ (s3 _ _ hab1)
    have akm : ak.1 ∈ L ∧ ak.2 ≤ 1 := by
      have := List.mem_of_getElem? eak
      unfold asksL at this
      rcases List.mem_cons.mp this with e | e
      · rw [e]; exact ⟨headD_mem _ ho.ne, hwl⟩
      · obtain ⟨t, mt, rfl⟩ := List.mem_map.mp e
        exact ⟨mt, by show 1 - wayL L ≤ 1; omega⟩
    obtain ⟨k1', k2', k3'⟩ := ho.inn _ akm.1
    have erun : ((asksL L).map fun a => runW (laidM g L) a.1.1 a.1.2.1 a.2)[i]? = some (runW (laidM g L) ak.1.1 ak.1.2.1 ak.2) := by rw [List.getElem?_map, eak]; rfl
    walk_at "rd"
    refine ⟨ab, dx2, _, rfl, hab5, rfl, ?_⟩
    walk_at "rd"
    refine ⟨ab, ak.1.1, ak.1.2.1, ak.2, laidM g L, m, beg, h, w, rfl, (hab.same s3).same s5, gok, k1', k2', akm.2, fun pr H6 s6 npr hpr => ?_⟩
    have z1' := s6 _ _ z1
    walk_at "rd"
    refine k_lenT (by have := fwd_len (laidM g L) ak.2 (1 - ak.2) 9 (runM (laidM g L) ak.1.1 ak.1.2.1 ak.2).1 (runM (laidM g L) ak.1.1 ak.1.2.1 ak.2).2.1; show (fwdF _ _ _ _ _ _).length ≤ _; exact Nat.le_trans this (by omega)) ?_
    walk_at "rd"
    refine k_ited (fun hl => ?_) (fun hl => ?_)
    · walk_at "rd"
      intro pw hpw
      have z1'' := upd_old (u := .tup [.int ((runM (laidM g L) ak.1.1 ak.1.2.1 ak.2).1 : Nat), .int ((runM (laidM g L) ak.1.1 ak.1.2.1 ak.2).2.1 : Nat), .int (ak.2 : Int), .str (mk (runM (laidM g L) ak.1.1 ak.1.2.1 ak.2).2.2)]) z1' hpw
      walk_at "rd"
      refine k_app z1'' (by rw [z2.len]; unfold flt; rw [List.length_map]; refine Nat.le_trans (List.length_filter_le _ _) (Nat.le_trans (List.length_take_le' _ _) ?_); rw [List.length_map]; omega) ?_
      have s7 := s6.trans (Same.new (o := .tup [.int ((runM (laidM g L) ak.1.1 ak.1.2.1 ak.2).1 : Nat), .int ((runM (laidM g L) ak.1.1 ak.1.2.1 ak.2).2.1 : Nat), .int (ak.2 : Int), .str (mk (runM (laidM g L) ak.1.1 ak.1.2.1 ak.2).2.2)]) hpw)
      refine ⟨⟨_, _, _, _, _, rfl⟩, Same.wr (s5.trans s7) hfd, _, upd_same, ?_⟩
      rw [flt_yes erun (decide_eq_true (by show 1 < (runM (laidM g L) ak.1.1 ak.1.2.1 ak.2).2.2.length; omega))]
      exact (AtAll.snoc (z2.same s7) (wrd_mk upd_same)).mono (Tk.wr z1'' nofun)
    · walk_at "rd"
      refine ⟨⟨_, _, _, _, _, rfl⟩, s5.trans s6, _, z1', ?_⟩
      rw [flt_no erun (decide_eq_false (by show ¬ 1 < (runM (laidM g L) ak.1.1 ak.1.2.1 ak.2).2.2.length; omega))]
      exact z2.same s6

theorem ok_between {P : Program} {wd : World} {K : PySem.W.Frag} {mg : Str → Option Value} {bas : Heap} (T : Tx K mg) (c_way_of : DefOk P wd K mg bas CX0 "way_of" 1 ["laying"] spWayOf) :
    DefOk P wd K mg bas CX0 "between" 2 ["laying"] spBetween := by
  refine def0 T.fn_between sc_between bp_between (fun vs H Q E h => ?_) (fun f cdv A outer s H vs Q E hr h => ?_)
  · obtain ⟨v, L, rfl, hL, ne, hn, hQ⟩ := h
    rfl
  · obtain ⟨v, L, rfl, hL, ne, hn, hQ⟩ := h
    refine ⟨_, (pss_cons (ps_set (i := 1) nd_between rfl (Or.inr rfl) (pe_ix ix_tup (pv 0) pe_int (fun _ _ => rfl)))
      (pss_cons (ps_set (i := 2) nd_between rfl (Or.inl rfl) (pe_ix ix_tup (pv 0) (pe_un un_neg pe_int) (fun _ _ => rfl)))
      (pss_cons (ps_if (pt_cmpR op_eq (pe_fn c_way_of (hr.mono (by decide)) pass0 (pa_cons (pv 0) pa_nil)) pe_int (nomark _)) (pss_one (ps_ret (pe_lc (own := [("column", 3)]) (g := (gName 3)) (tt := tYes) rfl nd_between (pi_range2 rfl T.f_range (pa_cons (pe_ix ix_tup (pv 1) pe_int (fun _ _ => rfl)) (pa_cons (pe_op op_add (pe_ix ix_tup (pv 2) pe_int (fun _ _ => rfl)) pe_int) pa_nil))) (blkOk_by (own := [("column", 3)]) (N := N_between) (sc := (defScope s_between)) (by decide +kernel)) (fun _ _ _ _ _ => (pg_name (i := 3) nd_between rfl (Or.inl rfl))) (fun _ _ _ _ _ => pts_nil) (fun _ _ _ _ _ => (pe_tup (pa_cons (pe_ix (ix_of (rIxT K) ix_tup rfl) (pv 1) pe_int (fun _ _ => rfl)) (pa_cons (pv 3) pa_nil))))))) pss_nil)
      (pss_one (ps_ret (pe_lc (own := [("row", 4)]) (g := (gName 4)) (tt := tYes) rfl nd_between (pi_range2 rfl T.f_range (pa_cons (pe_ix ix_tup (pv 1) pe_int (fun _ _ => rfl)) (pa_cons (pe_op op_add (pe_ix ix_tup (pv 2) pe_int (fun _ _ => rfl)) pe_int) pa_nil))) (blkOk_by (own := [("row", 4)]) (N := N_between) (sc := (defScope s_between)) (by decide +kernel)) (fun _ _ _ _ _ => (pg_name (i := 4) nd_between rfl (Or.inl rfl))) (fun _ _ _ _ _ => pts_nil) (fun _ _ _ _ _ => (pe_tup (pa_cons (pv 4) (pa_cons (pe_ix (ix_of (rIxT K) ix_tup rfl) (pv 1) pe_int (fun _ _ => rfl)) pa_nil)))))))))), ?_⟩
    have hcB := T.cls_Board
    have hnr := T.na_Board_rows
    have hnm := T.na_Board_marks
    have hnb := T.na_Board_begin
    have hcK := T.cls_Book
    have hnh := T.na_Book_held
    obtain ⟨a, vs, rfl, ha, hv⟩ := lay_open hL
    obtain ⟨x, e1, hx⟩ := map_head (d := (0, 0, 0)) hv ne
    obtain ⟨y, e2, hy⟩ := map_last (d := (0, 0, 0)) hv ne
    obtain ⟨p, rfl, hp⟩ := tri_open hx
    obtain ⟨q, rfl, hq⟩ := tri_open hy
    walk_at "rd"
    refine ⟨_, L, rfl, hL, ne, ?_⟩
    walk_at "rd"
    have b1 := hn _ (headD_mem (0, 0, 0) ne)
    have b2 := hn _ (lastD_mem (0, 0, 0) ne)
    refine k_ited (fun h => ?_) (fun h => ?_)
    · have h0 : wayL L = 0 := by omega
      have eb : betw L = (List.range ((L.getLastD (0, 0, 0)).2.1 + 1 - (L.headD (0, 0, 0)).2.1)).map fun i => ((L.headD (0, 0, 0)).1, (L.headD (0, 0, 0)).2.1 + i) := by unfold betw; rw [if_pos h0]
      walk_at "rd"
      refine e_R2 (by omega) ?_
      refine c_R (mp (betw L) cellD) (by omega) rfl (fun i H1 hi hs => ?_) (fun D H1 ys h1 h2 h3 h4 => ?_)
      · have hp' := hs _ _ hp
        intro P R h1 h2
        walk_at "rd"
        refine ⟨rfl, ?_⟩
        walk_at "rd"
        intro p2 hp2
        refine h1 _ _ (cellD ((L.headD (0, 0, 0)).1, (L.headD (0, 0, 0)).2.1 + i)) (Same.new hp2) (mp_succ ?_) (cell_mk upd_same)
        rw [eb, List.getElem?_map, List.getElem?_range (by omega)]; rfl
      · refine hQ D H1 h2 h1 ⟨ys, h3, ?_⟩
        rw [mp_all _ _ (by rw [eb, List.length_map, List.length_range]; omega)] at h4
        exact h4
    · have h0 : ¬ wayL L = 0 := by omega
      have eb : betw L = (List.range ((L.getLastD (0, 0, 0)).1 + 1 - (L.headD (0, 0, 0)).1)).map fun i => ((L.headD (0, 0, 0)).1 + i, (L.headD (0, 0, 0)).2.1) := by unfold betw; rw [if_neg h0]
      walk_at "rd"
      refine e_R2 (by omega) ?_
      refine c_R (mp (betw L) cellD) (by omega) rfl (fun i H1 hi hs => ?_) (fun D H1 ys h1 h2 h3 h4 => ?_)
      · have hp' := hs _ _ hp
        intro P R h1 h2
        walk_at "rd"
        refine ⟨rfl, ?_⟩
        walk_at "rd"
        intro p2 hp2
        refine h1 _ _ (cellD ((L.headD (0, 0, 0)).1 + i, (L.headD (0, 0, 0)).2.1)) (Same.new hp2) (mp_succ ?_) (cell_mk upd_same)
        rw [eb, List.getElem?_map, List.getElem?_range (by omega)]; rfl
      · refine hQ D H1 h2 h1 ⟨ys, h3, ?_⟩
        rw [mp_all _ _ (by rw [eb, List.length_map, List.length_range]; omega)] at h4
        exact h4

theorem ok_Board_is_free {P : Program} {wd : World} {K : PySem.W.Frag} {mg : Str → Option Value} {bas : Heap} (T : Tx K mg)  :
    MethOk P wd K mg bas CX0 (He.ga K "Board") "is_free" 1 ["self"] (spBoardFree K) := by
  refine meth0 T.m_Board_is_free T.fn_Board_is_free sc_Board_is_free bp_Board_is_free (fun vs H Q E h => ?_) (fun f cdv A outer s H vs Q E hr h => ?_)
  · obtain ⟨b, g, m, beg, h, w, rfl, ⟨dx, v1, v2, v3, hb, h1, h2, h3⟩, hg, hQ⟩ := h
    rfl
  · obtain ⟨b, g, m, beg, h, w, rfl, ⟨dx, v1, v2, v3, hb, h1, h2, h3⟩, hg, hQ⟩ := h
    refine ⟨_, (pss_one (ps_ret (pe_callB (cr_all rfl) rfl T.f_all (by decide +kernel) (pa_cons (pe_lc (own := [("sign", 1)]) (g := (gName 1)) (tt := tYes) rfl nd_Board_is_free (pi_str (pe_bm PySem.F.plainAttrs_str PySem.F.slot_str_join PySem.F.type_str_join m_join (pe_lit [] (by decide +kernel)) (pa_cons (pe_fld (pv 0) rfl) pa_nil))) (blkOk_by (own := [("sign", 1)]) (N := N_Board_is_free) (sc := (defScope s_Board_is_free)) (by decide +kernel)) (fun _ _ _ _ _ => (pg_name (i := 1) nd_Board_is_free rfl (Or.inl rfl))) (fun _ _ _ _ _ => pts_nil) (fun _ _ _ _ _ => (pe_cmpR op_eq (pv 1) (pe_gs T.g_FREE) (nomark _)))) pa_nil)))), ?_⟩
    have hcB := T.cls_Board
    have hnr := T.na_Board_rows
    have hnm := T.na_Board_marks
    have hnb := T.na_Board_begin
    have hcK := T.cls_Book
    have hnh := T.na_Book_held
    obtain ⟨a, rfl, ha⟩ := rows_open h1
    have hf := flat_len g 9 (fun x m => by rw [hg.row x m]; exact hg.w9)
    have hl := hg.len
    have h9 := hg.h9
    walk_at "rd"
    refine k_join (.inr ha) (by omega) ?_
    walk_at "rd"
    refine c_S (mp g.flatten fun c => .bool (decide ([c] = [46]))) (by omega) rfl (fun i c H1 hi hs => ?_) (fun D H1 ys h1 h2 h3 h4 => ?_)
    · intro P R h1 h2
      walk_at "rd"
      refine ⟨rfl, ?_⟩
      walk_at "rd"
      exact h1 _ _ _ (.refl _) (mp_succ hi) at_bl
    rw [mp_all _ _ (Nat.le_refl _)] at h4
    have h5 : ys = (g.flatten.map fun c => decide ([c] = [46])).map V.bl := by
      apply AtAll.bls' (H := H1)
      rw [List.map_map]
      exact h4
    rw [h5] at h3
    walk_at "rd"
    refine k_all h3 ?_
    rw [free_eq]
    exact hQ _ h2

theorem ok_is_joined {P : Program} {wd : World} {K : PySem.W.Frag} {mg : Str → Option Value} {bas : Heap} (T : Tx K mg) (c_Board_at : MethOk P wd K mg bas CX0 (He.ga K "Board") "at" 1 ["self", "row", "column"] (spBoardAt K)) (c_Board_is_free : MethOk P wd K mg bas CX0 (He.ga K "Board") "is_free" 1 ["self"] (spBoardFree K)) :
    DefOk P wd K mg bas CX0 "is_joined" 2 ["board", "cells"] (spIsJoined K) := by
  refine def0 T.fn_is_joined sc_is_joined bp_is_joined (fun vs H Q E h => ?_) (fun f cdv A outer s H vs Q E hr h => ?_)
  · obtain ⟨b, p, g, m, beg, h, w, cs, rfl, hB, hg, hcs, hn, hQ⟩ := h
    rfl
  · obtain ⟨b, p, g, m, beg, h, w, cs, rfl, hB, hg, hcs, hn, hQ⟩ := h
    refine ⟨_, (pss_cons (ps_if (pt_val (pe_mt0 c_Board_is_free T.cls_Board (hr.mono (by decide)) pass0 (pv 0))) (pss_one (ps_ret (pe_cmpR (op_inD (un65 hr)) (pe_fld (pv 0) rfl) (pv 1) (by rfl)))) pss_nil)
      (pss_cons (ps_for PassesOwn.never rfl (pi_list (pv 1)) (pg_tup rfl (pgs_cons (pg_name (i := 2) nd_is_joined rfl (Or.inl rfl)) (pgs_cons (pg_name (i := 3) nd_is_joined rfl (Or.inl rfl)) pgs_nil))) (pss_one (ps_for PassesOwn.never rfl (pi_tup (pe_tup (pa_cons (pe_tup (pa_cons (pe_un un_neg pe_int) (pa_cons pe_int pa_nil))) (pa_cons (pe_tup (pa_cons pe_int (pa_cons (pe_un un_neg pe_int) pa_nil))) (pa_cons (pe_tup (pa_cons pe_int (pa_cons pe_int pa_nil))) (pa_cons (pe_tup (pa_cons pe_int (pa_cons pe_int pa_nil))) pa_nil)))))) (pg_tup rfl (pgs_cons (pg_name (i := 4) nd_is_joined rfl (Or.inl rfl)) (pgs_cons (pg_name (i := 5) nd_is_joined rfl (Or.inl rfl)) pgs_nil))) (pss_one (ps_if (pt_cmpR op_ne (pe_mt c_Board_at T.cls_Board (hr.mono (by decide)) pass0 (pv 0) (pa_cons (pe_op op_add (pv 2) (pv 4)) (pa_cons (pe_op op_add (pv 3) (pv 5)) pa_nil))) (pe_lit [46] (by decide +kernel)) (nomark _)) (pss_one (ps_ret pe_bl)) pss_nil)))))
      (pss_one (ps_ret pe_bl)))), ?_⟩
    have hcB := T.cls_Board
    have hnr := T.na_Board_rows
    have hnm := T.na_Board_marks
    have hnb := T.na_Board_begin
    have hcK := T.cls_Book
    have hnh := T.na_Book_held
    obtain ⟨dx, v1, v2, v3, hb, h1, h2, h3⟩ := id hB
    walk_at "rd"
    refine ⟨b, dx, _, rfl, hb, rfl, ?_⟩
    walk_at "rd"
    refine ⟨b, g, m, beg, h, w, rfl, hB, hg, fun H1 s1 => ?_⟩
    walk_at "rd"
    have hb1 := s1 _ _ hb
    refine k_ite (fun hf => ?_) (fun hf => ?_)
    · walk_at "rd"
      refine k_inCells (h3.same s1) (hcs.same s1) ?_
      have e : joinM g beg cs = cs.any fun z => decide (z = beg) := by unfold joinM; rw [if_pos hf]
      rw [← e]
      exact hQ _ s1
    have e : joinM g beg cs = cs.any (nearM g) := by unfold joinM; rw [if_neg (by rw [hf]; exact Bool.false_ne_true)]
    rw [e] at hQ
    obtain ⟨us, hp, hus⟩ := hcs
    have hlen := map_len hus
    walk_at "rd"
    refine e_L (s1 _ _ hp) ?_
    refine f_L (fun i σ H' => (∃ a1 a2 a3 a4, σ = [some (.ref b), some (.ref p), a1, a2, a3, a4]) ∧ Same H H' ∧ (cs.take i).any (nearM g) = false) ⟨⟨_, _, _, _, rfl⟩, s1, rfl⟩ (fun i σ H' _ pv => SqL.of (pv.2.1 _ _ hp)) (fun i x σ H2 hi pv => ?_) (fun σ H2 pv => ?_)
    rotate_left
    · obtain ⟨⟨a1, a2, a3, a4, rfl⟩, s2, q⟩ := pv
      rw [List.take_of_length_le (by omega)] at q
      walk_at "rd"
      rw [← q]
      exact hQ _ s2
    obtain ⟨⟨a1, a2, a3, a4, rfl⟩, s2, q⟩ := pv
    obtain ⟨c, ec, hc⟩ := map_get hus hi
    obtain ⟨d, rfl, hd⟩ := cell_open (hc.same s2)
    walk_at "rd"
    intro p1 f1
    walk_at "rd"
    intro p2 f2
    walk_at "rd"
    intro p3 f3
    walk_at "rd"
    intro p4 f4
    walk_at "rd"
    intro p5 f5
    have s3 := ((((s2.trans (Same.new f1)).trans (Same.new f2)).trans (Same.new f3)).trans (Same.new f4)).trans (Same.new (o := .tup [.ref p1, .ref p2, .ref p3, .ref p4]) f5)
    refine e_T upd_same ?_
    refine f_T (fun j σ H' => (∃ a3 a4, σ = [some (.ref b), some (.ref p), some (.int (c.1 : Int)), some (.int (c.2 : Int)), a3, a4]) ∧ Same (upd (upd (upd (upd (upd H2 p1 _) p2 _) p3 _) p4 _) p5 _) H' ∧ (nearD.take j).any (fun d => decide (atI g ((c.1 : Int) + d.1) ((c.2 : Int) + d.2) ≠ 46)) = false) ⟨⟨_, _, rfl⟩, .refl _, rfl⟩ (fun i σ H' _ pv => SqT.of (pv.2.1 _ _ upd_same)) (fun j y σ H3 hj pv => ?_) (fun σ H3 pv => ?_)
    rotate_left
    · obtain ⟨⟨a3, a4, rfl⟩, s4, q2⟩ := pv
      refine ⟨⟨_, _, _, _, rfl⟩, s3.trans s4, ?_⟩
      rw [any_take ec, q, nearM_eq]
      exact q2
    obtain ⟨⟨a3, a4, rfl⟩, s4, q2⟩ := pv
    have hz : ∃ z dd, y = .ref z ∧ nearD[j]? = some dd ∧ H3 z = some (.tup [.int dd.1, .int dd.2]) := by
      match j, hj with
      | 0, hj => cases hj; exact ⟨_, _, rfl, rfl, s4 _ _ (upd_old (upd_old (upd_old (upd_old upd_same f2) f3) f4) f5)⟩
      | 1, hj => cases hj; exact ⟨_, _, rfl, rfl, s4 _ _ (upd_old (upd_old (upd_old upd_same f3) f4) f5)⟩
      | 2, hj => cases hj; exact ⟨_, _, rfl, rfl, s4 _ _ (upd_old (upd_old upd_same f4) f5)⟩
      | 3, hj => cases hj; exact ⟨_, _, rfl, rfl, s4 _ _ (upd_old upd_same f5)⟩
      | n + 4, hj => cases hj
    obtain ⟨z, dd, rfl, ed, hz⟩ := hz
    have hb3 := s4 _ _ (s3 _ _ hb)
    walk_at "rd"
    refine ⟨b, dx, _, rfl, hb3, rfl, ?_⟩
    walk_at "rd"
    refine ⟨b, _, _, g, m, beg, h, w, rfl, hB.same (s3.trans s4), hg, ?_⟩
    walk_at "rd"
    refine k_itend (fun hne => ?_) (fun he => ?_)
    · walk_at "rd"
      have : nearM g c = true := by
        rw [nearM_eq]
        refine any_at ed (decide_eq_true fun e => hne ?_)
        rw [e]
      rw [← any_at ec this]
      exact hQ _ (s3.trans s4)
    · walk_at "rd"
      refine ⟨⟨_, _, rfl⟩, s4, ?_⟩
      rw [any_take ed, q2, Bool.false_or]
      refine decide_eq_false fun e => e ?_
      injection he

theorem ok_Gap_init {P : Program} {wd : World} {K : PySem.W.Frag} {mg : Str → Option Value} {bas : Heap} (T : Tx K mg)  :
    ErrOk P wd K mg bas "Gap" 1 ["self", "row", "column"] (spInit2 K "Gap" "row" "column") := by
  refine err0 T.c_Gap T.fn_Gap_init sc_Gap_init bp_Gap_init (fun vs H Q E h => ?_) (fun f cdv A outer s H vs Q E hr h => ?_)
  · obtain ⟨a, y, z, rfl, ha, hQ⟩ := h
    rfl
  · obtain ⟨a, y, z, rfl, ha, hQ⟩ := h
    refine ⟨_, (pss_cons (ps_expr (pe_up T.c_RackError T.up.1 T.up.2 (pa_cons (pv 0) (pa_cons (pe_lit [97, 32, 102, 114, 101, 101, 32, 99, 101, 108, 108, 32, 98, 101, 116, 119, 101, 101, 110] (by decide +kernel)) pa_nil))))
      (pss_cons (ps_ost (pv 0) (pv 1))
      (pss_one (ps_ost (pv 0) (pv 2))))), ?_⟩
    have hcB := T.cls_Board
    have hnr := T.na_Board_rows
    have hnm := T.na_Board_marks
    have hnb := T.na_Board_begin
    have hcK := T.cls_Book
    have hnh := T.na_Book_held
    walk_at "rd"
    refine ⟨a, _, _, rfl, Nat.le_of_ble_eq_true (by rfl), T.w_Gap.1, ha, ?_⟩
    walk_at "rd"
    refine ⟨a, _, rfl, T.w_Gap.1, T.na_Gap_row, .inl ⟨ha, fun dx h1 h2 => ?_⟩⟩
    walk_at "rd"
    exact ⟨a, _, rfl, T.w_Gap.1, T.na_Gap_column, .inr ⟨dx, _, upd_same, by rw [upd_ne h2]; exact upd_same, Nat.le_of_ble_eq_true (by rfl), hQ dx h1 h2⟩⟩

theorem ok_Taken_init {P : Program} {wd : World} {K : PySem.W.Frag} {mg : Str → Option Value} {bas : Heap} (T : Tx K mg)  :
    ErrOk P wd K mg bas "Taken" 1 ["self", "row", "column"] (spInit2 K "Taken" "row" "column") := by
  refine err0 T.c_Taken T.fn_Taken_init sc_Taken_init bp_Taken_init (fun vs H Q E h => ?_) (fun f cdv A outer s H vs Q E hr h => ?_)
  · obtain ⟨a, y, z, rfl, ha, hQ⟩ := h
    rfl
  · obtain ⟨a, y, z, rfl, ha, hQ⟩ := h
    refine ⟨_, (pss_cons (ps_expr (pe_up T.c_RackError T.up.1 T.up.2 (pa_cons (pv 0) (pa_cons (pe_lit [97, 32, 99, 101, 108, 108, 32, 116, 104, 97, 116, 32, 105, 115, 32, 110, 111, 116, 32, 102, 114, 101, 101] (by decide +kernel)) pa_nil))))
      (pss_cons (ps_ost (pv 0) (pv 1))
      (pss_one (ps_ost (pv 0) (pv 2))))), ?_⟩
    have hcB := T.cls_Board
    have hnr := T.na_Board_rows
    have hnm := T.na_Board_marks
    have hnb := T.na_Board_begin
    have hcK := T.cls_Book
    have hnh := T.na_Book_held
    walk_at "rd"
    refine ⟨a, _, _, rfl, Nat.le_of_ble_eq_true (by rfl), T.w_Taken.1, ha, ?_⟩
    walk_at "rd"
    refine ⟨a, _, rfl, T.w_Taken.1, T.na_Taken_row, .inl ⟨ha, fun dx h1 h2 => ?_⟩⟩
    walk_at "rd"
    exact ⟨a, _, rfl, T.w_Taken.1, T.na_Taken_column, .inr ⟨dx, _, upd_same, by rw [upd_ne h2]; exact upd_same, Nat.le_of_ble_eq_true (by rfl), hQ dx h1 h2⟩⟩

theorem ok_check_cells {P : Program} {wd : World} {K : PySem.W.Frag} {mg : Str → Option Value} {bas : Heap} (T : Tx K mg) (c_Board_at : MethOk P wd K mg bas CX0 (He.ga K "Board") "at" 1 ["self", "row", "column"] (spBoardAt K)) (c_Gap_init : ErrOk P wd K mg bas "Gap" 1 ["self", "row", "column"] (spInit2 K "Gap" "row" "column")) (c_Taken_init : ErrOk P wd K mg bas "Taken" 1 ["self", "row", "column"] (spInit2 K "Taken" "row" "column")) (c_between : DefOk P wd K mg bas CX0 "between" 2 ["laying"] spBetween) (c_cells_of : DefOk P wd K mg bas CX0 "cells_of" 1 ["laying"] spCellsOf) (c_is_joined : DefOk P wd K mg bas CX0 "is_joined" 2 ["board", "cells"] (spIsJoined K)) :
    DefOk P wd K mg bas (L2.CX P wd) "check_cells" 3 ["board", "laying"] (spCheckCells K) := by
  refine defX T.fn_check_cells sc_check_cells bp_check_cells (fun vs H Q E h => ?_) (fun f cdv A outer s H vs Q E hr h => ?_)
  · obtain ⟨b, v, g, m, beg, h, w, L, rfl, hB, hg, hL, ho, hok, hbad⟩ := h
    rfl
  · obtain ⟨b, v, g, m, beg, h, w, L, rfl, hB, hg, hL, ho, hok, hbad⟩ := h
    refine ⟨_, (pss_cons (ps_set (i := 2) nd_check_cells rfl (Or.inl rfl) (pe_fn c_cells_of (hr.mono (by decide)) pass0 (pa_cons (pv 1) pa_nil)))
      (pss_cons (ps_for (passes_of rfl) rfl (pi_list (pv 2)) (pg_tup rfl (pgs_cons (pg_name (i := 3) nd_check_cells rfl (Or.inl rfl)) (pgs_cons (pg_name (i := 4) nd_check_cells rfl (Or.inl rfl)) pgs_nil))) (pss_one (ps_if (pt_cmpR op_ne (pe_mt c_Board_at T.cls_Board (hr.mono (by decide)) pass0 (pv 0) (pa_cons (pv 3) (pa_cons (pv 4) pa_nil))) (pe_lit [46] (by decide +kernel)) (nomark _)) (pss_one (ps_raise rfl (takes_of rfl rfl rfl rfl) (pe_err c_Taken_init T.w_Taken (hr.mono (by decide)) (pa_cons (pv 3) (pa_cons (pv 4) pa_nil))))) pss_nil)))
      (pss_cons (ps_if (PW.pt (pw_and (pt_cmpR op_gt (pe_kinds T.f_len T.f_set (pe_lc (own := [("row", 3), ("column", 4)]) (g := (gTup K 2 (gCons (gName 3) (gCons (gName 4) gNil)))) (tt := tYes) rfl nd_check_cells (pi_list (pv 2)) (blkOk_by (own := [("row", 3), ("column", 4)]) (N := N_check_cells) (sc := (defScope s_check_cells)) (by decide +kernel)) (fun _ _ _ _ _ => (pg_tup rfl (pgs_cons (pg_name (i := 3) nd_check_cells rfl (Or.inl rfl)) (pgs_cons (pg_name (i := 4) nd_check_cells rfl (Or.inl rfl)) pgs_nil)))) (fun _ _ _ _ _ => pts_nil) (fun _ _ _ _ _ => (pv 3)))) pe_int (nomark _)) (pw_and1 (pt_cmpR op_gt (pe_kinds T.f_len T.f_set (pe_lc (own := [("row", 3), ("column", 4)]) (g := (gTup K 2 (gCons (gName 3) (gCons (gName 4) gNil)))) (tt := tYes) rfl nd_check_cells (pi_list (pv 2)) (blkOk_by (own := [("row", 3), ("column", 4)]) (N := N_check_cells) (sc := (defScope s_check_cells)) (by decide +kernel)) (fun _ _ _ _ _ => (pg_tup rfl (pgs_cons (pg_name (i := 3) nd_check_cells rfl (Or.inl rfl)) (pgs_cons (pg_name (i := 4) nd_check_cells rfl (Or.inl rfl)) pgs_nil)))) (fun _ _ _ _ _ => pts_nil) (fun _ _ _ _ _ => (pv 4)))) pe_int (nomark _))))) (pss_one (ps_raise rfl (takes_of rfl rfl rfl rfl) (pmk_own PySem.F.excBase_ValueError T.x_Crooked.1 T.c_Crooked T.x_Crooked.2.1 (raises_own T.x_Crooked.2.2.1 T.x_Crooked.2.2.2) rfl))) pss_nil)
      (pss_cons (ps_for (passes_of rfl) rfl (pi_list (pe_fn c_between (hr.mono (by decide)) pass0 (pa_cons (pv 1) pa_nil))) (pg_tup rfl (pgs_cons (pg_name (i := 3) nd_check_cells rfl (Or.inl rfl)) (pgs_cons (pg_name (i := 4) nd_check_cells rfl (Or.inl rfl)) pgs_nil))) (pss_one (ps_if (PW.pt (pw_and (pt_cmpR op_eq (pe_mt c_Board_at T.cls_Board (hr.mono (by decide)) pass0 (pv 0) (pa_cons (pv 3) (pa_cons (pv 4) pa_nil))) (pe_lit [46] (by decide +kernel)) (nomark _)) (pw_and1 (pt_cmpR (op_notInD (un65 hr)) (pe_tup (pa_cons (pv 3) (pa_cons (pv 4) pa_nil))) (pv 2) (by rfl))))) (pss_one (ps_raise rfl (takes_of rfl rfl rfl rfl) (pe_err c_Gap_init T.w_Gap (hr.mono (by decide)) (pa_cons (pv 3) (pa_cons (pv 4) pa_nil))))) pss_nil)))
      (pss_one (ps_if (pt_not (pt_val (pe_fn c_is_joined (hr.mono (by decide)) pass0 (pa_cons (pv 0) (pa_cons (pv 2) pa_nil))))) (pss_one (ps_raise rfl (takes_of rfl rfl rfl rfl) (pmk_own PySem.F.excBase_ValueError T.x_Apart.1 T.c_Apart T.x_Apart.2.1 (raises_own T.x_Apart.2.2.1 T.x_Apart.2.2.2) rfl))) pss_nil)))))), ?_⟩
    have hcB := T.cls_Board
    have hnr := T.na_Board_rows
    have hnm := T.na_Board_marks
    have hnb := T.na_Board_begin
    have hcK := T.cls_Book
    have hnh := T.na_Book_held
    obtain ⟨dx, v1, v2, v3, hb, h1, h2, h3⟩ := id hB
    obtain ⟨p, vs, rfl, hp, hv⟩ := lay_open hL
    have hvl := map_len hv
    have l7 := ho.few
    have g9 := hg.h9
    have w9 := hg.w9
    walk_at "rd"
    refine ⟨_, L, rfl, hL, by omega, fun pc H1 s1 npc hpc => ?_⟩
    obtain ⟨cs, hc1, hc2⟩ := hpc
    have hcl := map_len hc2
    rw [List.length_map] at hcl
    walk_at "rd"
    refine f_L (fun i σ H' => (∃ a3 a4, σ = [some (.ref b), some (.ref p), some (.ref pc), a3, a4]) ∧ H' = H1 ∧ (L.take i).any (fun t => decide (atN g t.1 t.2.1 ≠ 46)) = false) ⟨⟨_, _, rfl⟩, rfl, rfl⟩ (fun i σ H' _ pv => by rw [pv.2.1]; exact SqL.of hc1) (fun i x σ H2 hi pv => ?_) (fun σ H2 pv => ?_)
    · obtain ⟨⟨a3, a4, rfl⟩, rfl, q⟩ := pv
      obtain ⟨c, ec, hc⟩ := map_get hc2 hi
      rw [List.getElem?_map] at ec
      obtain ⟨t, et, rfl⟩ := Option.map_eq_some_iff.mp ec
      obtain ⟨d, rfl, hd⟩ := cell_open hc
      have hb1 := s1 _ _ hb
      walk_at "rd"
      refine ⟨b, dx, _, rfl, hb1, rfl, ?_⟩
      walk_at "rd"
      refine ⟨b, _, _, g, m, beg, h, w, rfl, hB.same s1, hg, ?_⟩
      walk_at "rd"
      rw [atI_nat']
      refine k_itend (fun hne => ?_) (fun he => ?_)
      · have ht : takenM g L = true := any_at et (decide_eq_true fun e => hne (by show [atN g t.1 t.2.1] = _; rw [e]))
        have hc : cellsM g beg L = 1 := by unfold cellsM; rw [if_pos ht]
        rw [hc] at hbad
        walk_at "rd"
        exact k_mk2 fun d H3 s3 x3 => hbad (by decide) d H3 (s1.trans s3) x3
      · walk_at "rd"
        refine ⟨⟨_, _, rfl⟩, rfl, ?_⟩
        rw [any_take et, q, Bool.false_or]
        exact decide_eq_false fun e => e (List.cons.inj he).1
    obtain ⟨⟨a3, a4, rfl⟩, rfl, q⟩ := pv
    rw [List.take_of_length_le (by omega)] at q
    have ht : takenM g L = false := q
    with_reducible refine k_seq ?_
    with_reducible refine k_ifsP (fun b H' => b = crookM L ∧ Same H2 H') (fun P0 hP => ?_) (fun b0 H4 hI => ?_)
    · walk_at "rd"
      refine c_L (mp L fun t => .int (t.1 : Int)) hc1 (by omega) rfl (fun i x H3 hi s3 => ?_) (fun D H3 ys k1 k2 k3 k4 => ?_)
      · obtain ⟨c, ec, hc⟩ := map_get hc2 hi
        rw [List.getElem?_map] at ec
        obtain ⟨t, et, rfl⟩ := Option.map_eq_some_iff.mp ec
        obtain ⟨d, rfl, hd⟩ := cell_open (hc.same s3)
        intro P R h1 h2
        walk_at "rd"
        refine ⟨rfl, ?_⟩
        walk_at "rd"
        exact h1 _ _ _ (.refl _) (mp_succ et) at_int
      rw [mp_all _ _ (by omega)] at k4
      have ey : ys = (L.map fun t => (t.1 : Int)).map V.int := AtAll.ints' (H := H3) (by rw [List.map_map]; exact k4)
      rw [ey] at k3
      refine ⟨D, _, rfl, SqL.of k3, by rw [List.length_map]; omega, ?_⟩
      walk_at "rd"
      rw [kinds_all ho.ne (fun t => t.1)]
      refine k_itn (fun q1 => ?_) (fun q1 => ?_)
      rotate_left
      · exact hP _ _ ⟨by unfold crookM; rw [q1]; rfl, k2⟩
      have hc1' := k2 _ _ hc1
      have kk2 := k2
      walk_at "rd"
      refine c_L (mp L fun t => .int (t.2.1 : Int)) hc1' (by omega) rfl (fun i x H3 hi s3 => ?_) (fun D H3 ys k1 k2 k3 k4 => ?_)
      · obtain ⟨c, ec, hc⟩ := map_get hc2 hi
        rw [List.getElem?_map] at ec
        obtain ⟨t, et, rfl⟩ := Option.map_eq_some_iff.mp ec
        obtain ⟨d, rfl, hd⟩ := cell_open (hc.same (kk2.trans s3))
        intro P R h1 h2
        walk_at "rd"
        refine ⟨rfl, ?_⟩
        walk_at "rd"
        exact h1 _ _ _ (.refl _) (mp_succ et) at_int
      rw [mp_all _ _ (by omega)] at k4
      have ey : ys = (L.map fun t => (t.2.1 : Int)).map V.int := AtAll.ints' (H := H3) (by rw [List.map_map]; exact k4)
      rw [ey] at k3
      refine ⟨D, _, rfl, SqL.of k3, by rw [List.length_map]; omega, ?_⟩
      walk_at "rd"
      rw [kinds_all ho.ne (fun t => t.2.1)]
      exact hP _ _ ⟨by unfold crookM; rw [q1]; rfl, kk2.trans k2⟩
    obtain ⟨rfl, s4⟩ := hI
    refine k_ite (fun q2 => ?_) (fun q2 => ?_)
    · have hc : cellsM g beg L = 2 := by unfold cellsM; rw [if_neg (by rw [ht]; exact Bool.false_ne_true), if_pos q2]
      rw [hc] at hbad
      exact hbad (by decide) none H4 (s1.trans s4) fun x e => by cases e
    have hc1' := s4 _ _ hc1
    walk_at "rd"
    refine ⟨_, L, rfl, hL.same (s1.trans s4), ho.ne, fun t mt => by have := ho.inn t mt; omega, fun pb H5 s5 npb hpb => ?_⟩
    obtain ⟨bs, hb1, hb2⟩ := hpb
    have hbl := map_len hb2
    have hc1'' := s5 _ _ hc1'
    walk_at "rd"
    refine f_L (fun i σ H' => (∃ a3 a4, σ = [some (.ref b), some (.ref p), some (.ref pc), a3, a4]) ∧ Same H5 H' ∧ ((betw L).take i).any (fun c => decide (atN g c.1 c.2 = 46) && !((L.map cel).any fun z => decide (z = c))) = false) ⟨⟨_, _, rfl⟩, .refl _, rfl⟩ (fun i σ H' _ pv => SqL.of (pv.2.1 _ _ hb1)) (fun i x σ H6 hi pv => ?_) (fun σ H6 pv => ?_)
    · obtain ⟨⟨a3, a4, rfl⟩, s6, q3⟩ := pv
      obtain ⟨c, ec, hc⟩ := map_get hb2 hi
      obtain ⟨d, rfl, hd⟩ := cell_open (hc.same s6)
      have s16 := ((s1.trans s4).trans s5).trans s6
      have hb6 := s16 _ _ hb
      walk_at "rd"
      refine ⟨b, dx, _, rfl, hb6, rfl, ?_⟩
      walk_at "rd"
      refine ⟨b, _, _, g, m, beg, h, w, rfl, hB.same s16, hg, ?_⟩
      walk_at "rd"
      rw [atI_nat']
      refine k_ited (fun he => ?_) (fun hne => ?_)
      rotate_left
      · walk_at "rd"
        refine ⟨⟨_, _, rfl⟩, s6, ?_⟩
        rw [any_take ec, q3, Bool.false_or, decide_eq_false (fun e => hne (by rw [e]))]; rfl
      have he := (List.cons.inj he).1
      walk_at "rd"
      intro pt hpt
      walk_at "rd"
      refine k_ninCells (c := c) (cs := L.map cel) (cell_mk upd_same) ⟨cs, upd_old (s6 _ _ hc1'') hpt, (hc2.same ((s4.trans s5).trans s6)).same (Same.new hpt)⟩ ?_
      walk_at "rd"
      refine k_itn (fun q4 => ?_) (fun q4 => ?_)
      · have hgap : gapM g L = true := any_at ec (by rw [decide_eq_true he, q4]; rfl)
        have hc : cellsM g beg L = 3 := by unfold cellsM; rw [if_neg (by rw [ht]; exact Bool.false_ne_true), if_neg (by rw [q2]; exact Bool.false_ne_true), if_pos hgap]
        rw [hc] at hbad
        walk_at "rd"
        exact k_mk2 fun d H3 s3 x3 => hbad (by decide) d H3 ((s16.trans (Same.new hpt)).trans s3) x3
      · walk_at "rd"
        refine ⟨⟨_, _, rfl⟩, s6.trans (Same.new hpt), ?_⟩
        rw [any_take ec, q3, Bool.false_or, decide_eq_true he, q4]; rfl
    obtain ⟨⟨a3, a4, rfl⟩, s6, q3⟩ := pv
    rw [List.take_of_length_le (by omega)] at q3
    have hgap : gapM g L = false := q3
    have s16 := ((s1.trans s4).trans s5).trans s6
    walk_at "rd"
    refine ⟨b, pc, g, m, beg, h, w, L.map cel, rfl, hB.same s16, hg, ⟨cs, s6 _ _ hc1'', hc2.same ((s4.trans s5).trans s6)⟩, by rw [List.length_map]; omega, fun H7 s7 => ?_⟩
    have hce : cellsM g beg L = if joinM g beg (L.map cel) = true then 0 else 4 := by unfold cellsM; rw [if_neg (by rw [ht]; exact Bool.false_ne_true), if_neg (by rw [q2]; exact Bool.false_ne_true), if_neg (by rw [hgap]; exact Bool.false_ne_true)]
    walk_at "rd"
    refine k_itn (fun q5 => ?_) (fun q5 => ?_)
    · rw [if_neg (by rw [q5]; exact Bool.false_ne_true)] at hce
      rw [hce] at hbad
      exact hbad (by decide) none H7 (s16.trans s7) fun x e => by cases e
    · rw [if_pos q5] at hce
      exact hok hce H7 (s16.trans s7)

theorem ok_Book_has {P : Program} {wd : World} {K : PySem.W.Frag} {mg : Str → Option Value} {bas : Heap} (T : Tx K mg)  :
    MethOk P wd K mg bas CX0 (He.ga K "Book") "has" 1 ["self", "text"] (spBookHas K) := by
  refine meth0 T.m_Book_has T.fn_Book_has sc_Book_has bp_Book_has (fun vs H Q E h => ?_) (fun f cdv A outer s H vs Q E hr h => ?_)
  · obtain ⟨k, t, ws, rfl, ⟨dx, hd, kvs, hk, hh, hv⟩, hQ⟩ := h
    rfl
  · obtain ⟨k, t, ws, rfl, ⟨dx, hd, kvs, hk, hh, hv⟩, hQ⟩ := h
    refine ⟨_, (pss_one (ps_ret (pe_cmp (pc_din (hu_of hr) (pv 1) (pe_fld (pv 0) rfl)) rfl))), ?_⟩
    have hcB := T.cls_Board
    have hnr := T.na_Board_rows
    have hnm := T.na_Board_marks
    have hnb := T.na_Board_begin
    have hcK := T.cls_Book
    have hnh := T.na_Book_held
    walk_at "rd"
    refine ⟨hd, valV kvs (Sum.inr (mk t)), rfl, ?_, ?_⟩
    · exact DGet.k (k := .inr (mk t)) hh
    rw [hv t]
    exact hQ

theorem ok_NoWord_init {P : Program} {wd : World} {K : PySem.W.Frag} {mg : Str → Option Value} {bas : Heap} (T : Tx K mg)  :
    ErrOk P wd K mg bas "NoWord" 1 ["self", "word"] (spInit1 K "NoWord" "word") := by
  refine err0 T.c_NoWord T.fn_NoWord_init sc_NoWord_init bp_NoWord_init (fun vs H Q E h => ?_) (fun f cdv A outer s H vs Q E hr h => ?_)
  · obtain ⟨a, y, rfl, ha, hQ⟩ := h
    rfl
  · obtain ⟨a, y, rfl, ha, hQ⟩ := h
    refine ⟨_, (pss_cons (ps_expr (pe_up T.c_RackError T.up.1 T.up.2 (pa_cons (pv 0) (pa_cons (pe_lit [97, 32, 119, 111, 114, 100, 32, 116, 104, 97, 116, 32, 105, 115, 32, 110, 111, 116, 32, 105, 110, 32, 116, 104, 101, 32, 98, 111, 111, 107] (by decide +kernel)) pa_nil))))
      (pss_one (ps_ost (pv 0) (pv 1)))), ?_⟩
    have hcB := T.cls_Board
    have hnr := T.na_Board_rows
    have hnm := T.na_Board_marks
    have hnb := T.na_Board_begin
    have hcK := T.cls_Book
    have hnh := T.na_Book_held
    walk_at "rd"
    refine ⟨a, _, _, rfl, Nat.le_of_ble_eq_true (by rfl), T.w_NoWord.1, ha, ?_⟩
    walk_at "rd"
    exact ⟨a, _, rfl, T.w_NoWord.1, T.na_NoWord_word, .inl ⟨ha, fun dx h1 h2 => hQ dx h1 h2⟩⟩

theorem ok_check_laying {P : Program} {wd : World} {K : PySem.W.Frag} {mg : Str → Option Value} {bas : Heap} (T : Tx K mg) (c_Book_has : MethOk P wd K mg bas CX0 (He.ga K "Book") "has" 1 ["self", "text"] (spBookHas K)) (c_NoWord_init : ErrOk P wd K mg bas "NoWord" 1 ["self", "word"] (spInit1 K "NoWord" "word")) (c_check_cells : DefOk P wd K mg bas (L2.CX P wd) "check_cells" 3 ["board", "laying"] (spCheckCells K)) (c_formed : DefOk P wd K mg bas CX0 "formed" 6 ["board", "laying"] (spFormed K)) (c_is_laying : DefOk P wd K mg bas CX0 "is_laying" 3 ["board", "thing"] (spIsLaying K)) (c_left_of : DefOk P wd K mg bas (L2.CX P wd) "left_of" 4 ["rack", "signs"] (spLeftOf K)) (c_letter_of : DefOk P wd K mg bas CX0 "letter_of" 1 ["sign"] spLetterOf) :
    DefOk P wd K mg bas (L2.CX P wd) "check_laying" 7 ["board", "book", "rack", "laying"] (spCheckLaying K) := by
  refine defX T.fn_check_laying sc_check_laying bp_check_laying (fun vs H Q E h => ?_) (fun f cdv A outer s H vs Q E hr h => ?_)
  · obtain ⟨b, k, rack, v, g, m, beg, h, w, ws, L, rfl, hB, hg, hm, b1, b2, hK, hrk, hL, ho, hok, hbad⟩ := h
    rfl
  · obtain ⟨b, k, rack, v, g, m, beg, h, w, ws, L, rfl, hB, hg, hm, b1, b2, hK, hrk, hL, ho, hok, hbad⟩ := h
    refine ⟨_, (pss_cons (ps_if (pt_not (pt_val (pe_fn c_is_laying (hr.mono (by decide)) pass0 (pa_cons (pv 0) (pa_cons (pv 3) pa_nil))))) (pss_one (ps_raise rfl (takes_of rfl rfl rfl rfl) (pmk_own PySem.F.excBase_ValueError T.x_NoLaying.1 T.c_NoLaying T.x_NoLaying.2.1 (raises_own T.x_NoLaying.2.2.1 T.x_NoLaying.2.2.2) rfl))) pss_nil)
      (pss_cons (ps_expr (pe_fn (E := E) c_check_cells (hr.mono (by decide)) (passes_call (takes_of rfl rfl rfl rfl) fun _ _ _ _ q => q) (pa_cons (pv 0) (pa_cons (pv 3) pa_nil))))
      (pss_cons (ps_expr (pe_fn (E := E) c_left_of (hr.mono (by decide)) (passes_call (takes_of rfl rfl rfl rfl) fun _ _ _ _ q => q) (pa_cons (pv 2) (pa_cons (pe_bm PySem.F.plainAttrs_str PySem.F.slot_str_join PySem.F.type_str_join m_join (pe_lit [] (by decide +kernel)) (pa_cons (pe_lc (own := [("row", 5), ("column", 6), ("sign", 9)]) (g := (gTup K 3 (gCons (gName 5) (gCons (gName 6) (gCons (gName 9) gNil))))) (tt := tYes) rfl nd_check_laying (pi_tup (pv 3)) (blkOk_by (own := [("row", 5), ("column", 6), ("sign", 9)]) (N := N_check_laying) (sc := (defScope s_check_laying)) (by decide +kernel)) (fun _ _ _ _ _ => (pg_tup rfl (pgs_cons (pg_name (i := 5) nd_check_laying rfl (Or.inl rfl)) (pgs_cons (pg_name (i := 6) nd_check_laying rfl (Or.inl rfl)) (pgs_cons (pg_name (i := 9) nd_check_laying rfl (Or.inl rfl)) pgs_nil))))) (fun _ _ _ _ _ => pts_nil) (fun _ _ _ _ _ => (pv 9))) pa_nil)) pa_nil))))
      (pss_cons (ps_set (i := 4) nd_check_laying rfl (Or.inl rfl) (pe_fn c_formed (hr.mono (by decide)) pass0 (pa_cons (pv 0) (pa_cons (pv 3) pa_nil))))
      (pss_cons (ps_for (passes_of rfl) rfl (pi_tup (pv 4)) (pg_tup rfl (pgs_cons (pg_name (i := 5) nd_check_laying rfl (Or.inl rfl)) (pgs_cons (pg_name (i := 6) nd_check_laying rfl (Or.inl rfl)) (pgs_cons (pg_name (i := 7) nd_check_laying rfl (Or.inl rfl)) (pgs_cons (pg_name (i := 8) nd_check_laying rfl (Or.inl rfl)) pgs_nil))))) (pss_one (ps_if (pt_not (pt_val (pe_mt c_Book_has T.cls_Book (hr.mono (by decide)) pass0 (pv 1) (pa_cons (pe_bm0 PySem.F.plainAttrs_str PySem.F.slot_str_lower PySem.F.type_str_lower m_low (pv 8)) pa_nil)))) (pss_one (ps_raise rfl (takes_of rfl rfl rfl rfl) (pe_err c_NoWord_init T.w_NoWord (hr.mono (by decide)) (pa_cons (pe_bm0 PySem.F.plainAttrs_str PySem.F.slot_str_lower PySem.F.type_str_lower m_low (pv 8)) pa_nil)))) pss_nil)))
      (pss_one (ps_if (pt_cmpR (op_eqD hr.units) (pv 4) (pe_tup pa_nil) (nomark _)) (pss_one (ps_raise rfl (takes_of rfl rfl rfl rfl) (pe_err c_NoWord_init T.w_NoWord (hr.mono (by decide)) (pa_cons (pe_fn c_letter_of (hr.mono (by decide)) pass0 (pa_cons (pe_ix ix_tup (pe_ix ix_tup (pv 3) pe_int (fun _ _ => rfl)) pe_int (fun _ _ => rfl)) pa_nil)) pa_nil)))) pss_nil))))))), ?_⟩
    have hcB := T.cls_Board
    have hnr := T.na_Board_rows
    have hnm := T.na_Board_marks
    have hnb := T.na_Board_begin
    have hcK := T.cls_Book
    have hnh := T.na_Book_held
    obtain ⟨p, vs, rfl, hp, hv⟩ := lay_open hL
    have hvl := map_len hv
    have l7 := ho.few
    obtain ⟨x0, e0, hx0⟩ := map_head (d := (0, 0, 0)) hv ho.ne
    obtain ⟨kx, khd, kvs, hk1, hk2, hk3⟩ := id hK
    walk_at "rd"
    refine ⟨b, _, g, m, beg, h, w, L, rfl, hB, hg, hL, ho, fun H1 s1 => ?_⟩
    walk_at "rd"
    refine ⟨b, _, g, m, beg, h, w, L, rfl, hB.same s1, hg, hL.same s1, ho, fun q1 H2 s2 => ?_, fun q1 d H2 s2 x2 => ?_⟩
    rotate_left
    · have hc : checkM g beg ws rack L = cellsM g beg L := by unfold checkM; rw [if_pos q1]
      rw [hc] at hbad
      exact hbad q1 d H2 (s1.trans s2) x2
    have hp2 := s2 _ _ (s1 _ _ hp)
    walk_at "rd"
    refine c_T (mp L fun t => sD [t.2.2]) hp2 (by omega) rfl (fun i x H3 hi s3 => ?_) (fun D H3 ys k1 k2 k3 k4 => ?_)
    · obtain ⟨t, et, ht⟩ := map_get hv hi
      obtain ⟨q, rfl, hq⟩ := tri_open (ht.same ((s1.trans s2).trans s3))
      intro P R h1 h2
      walk_at "rd"
      refine ⟨rfl, ?_⟩
      walk_at "rd"
      exact h1 _ _ _ (.refl _) (mp_succ et) at_str
    rw [mp_all _ _ (by omega)] at k4
    have ey : ys = (L.map fun t => [t.2.2]).map fun t => V.str (mk t) := by
      have := AtAll.strs' (l := L.map fun t => mk [t.2.2]) (H := H3) (vs := ys) (by rw [List.map_map]; exact k4)
      rw [this, List.map_map, List.map_map]; rfl
    rw [ey] at k3
    have s13 := (s1.trans s2).trans k2
    walk_at "rd"
    refine k_join (.inl k3) (by rw [flat_single, List.length_map]; omega) ?_
    rw [flat_single]
    walk_at "rd"
    have etl : (L.map fun t => t.2.2).map tilC = L.map fun t => tilC t.2.2 := by rw [List.map_map]; rfl
    refine ⟨rack, L.map fun t => t.2.2, rfl, hrk, by rw [List.length_map]; omega, fun q2 v2 H4 s4 => ?_, fun q2 d H4 s4 x4 => ?_⟩
    rotate_left
    · rw [etl] at q2
      have hc : checkM g beg ws rack L = 5 := by unfold checkM; rw [if_neg (fun z => z q1), if_pos q2]
      rw [hc] at hbad
      exact hbad (by decide) d H4 (s13.trans s4) x4
    rw [etl] at q2
    have hc : checkM g beg ws rack L = if wordsM ws (formedM g L) = true then 6 else 0 := by unfold checkM; rw [if_neg (fun z => z q1), if_neg (by rw [q2]; exact Bool.false_ne_true)]
    have s14 := s13.trans s4
    walk_at "rd"
    refine ⟨b, _, g, m, beg, h, w, L, rfl, hB.same s14, hg, hm, b1, b2, hL.same s14, ho, fun u H5 s5 hu => ?_⟩
    obtain ⟨pu, us, rfl, hpu, hus⟩ := at_tup' hu
    have hul := map_len hus
    have s15 := s14.trans s5
    have hbad6 : wordsM ws (formedM g L) = true → ∀ d H', Same H H' → XD H' d → E (.ref (He.ga K (errN 6))) d H' := fun z => by
      rw [if_pos z] at hc
      rw [hc] at hbad
      exact hbad (by decide)
    walk_at "rd"
    refine f_T (fun i σ H' => (∃ a5 a6 a7 a8 a9, σ = [some (.ref b), some (.ref k), some (.str (mk rack)), some (.ref p), some (.ref pu), a5, a6, a7, a8, a9]) ∧ H' = H5 ∧ ((formedM g L).take i).any (fun x => !decide (x.2.2.2.map lowC ∈ ws)) = false) ⟨⟨_, _, _, _, _, rfl⟩, rfl, rfl⟩ (fun i σ H' _ pv => by rw [pv.2.1]; exact SqT.of hpu) (fun i x σ H6 hi pv => ?_) (fun σ H6 pv => ?_)
    · obtain ⟨⟨a5, a6, a7, a8, a9, rfl⟩, rfl, q3⟩ := pv
      obtain ⟨t, et, ht⟩ := map_get hus hi
      obtain ⟨q, rfl, hq⟩ := wrd_open ht
      obtain ⟨w9, wsg⟩ := formed_ok hg ho (List.mem_of_getElem? et)
      have hk6 := s15 _ _ hk1
      walk_at "rd"
      refine ⟨k, kx, _, rfl, hk6, rfl, ?_⟩
      walk_at "rd"
      refine k_low (by rw [mk_len]; omega) ?_
      rw [low_word wsg]
      walk_at "rd"
      refine ⟨k, _, ws, rfl, hK.same s15, ?_⟩
      walk_at "rd"
      refine k_itn (fun q4 => ?_) (fun q4 => ?_)
      · have hw : wordsM ws (formedM g L) = true := by
          unfold wordsM
          rw [any_at (f := fun x : Wrd => !decide (x.2.2.2.map lowC ∈ ws)) et (by rw [q4]; rfl)]; rfl
        walk_at "rd"
        refine k_low (by rw [mk_len]; omega) ?_
        walk_at "rd"
        exact k_mk1 fun d H7 s7 x7 => hbad6 hw d H7 (s15.trans s7) x7
      · walk_at "rd"
        refine ⟨⟨_, _, _, _, _, rfl⟩, rfl, ?_⟩
        rw [any_take et, q3, q4]; rfl
    obtain ⟨⟨a5, a6, a7, a8, a9, rfl⟩, rfl, q3⟩ := pv
    rw [List.take_of_length_le (by omega)] at q3
    walk_at "rd"
    intro pe hpe
    have fsh := formed_shp hg ho
    refine ⟨wrdsD (formedM g L), .tuple [], (hu.same (Same.new hpe)).dp _ _, .tup (SqT.of upd_same) .nil, fsh, rfl, ?_⟩
    walk_at "rd"
    have hemp : PyData.eqv (wrdsD (formedM g L)) (.tuple []) = (formedM g L).isEmpty := by
      unfold wrdsD
      cases formedM g L <;> simp [PyData.eqv, PyData.eqvAll]
    rw [hemp]
    have hws : wordsM ws (formedM g L) = (formedM g L).isEmpty := by unfold wordsM; rw [q3]; rfl
    refine k_ite (fun q4 => ?_) (fun q4 => ?_)
    · obtain ⟨q0, rfl, hq0⟩ := tri_open (hx0.same s15)
      have hp5 := s15 _ _ hp
      have hp6 := upd_old (u := .tup []) hp5 hpe
      have hq6 := upd_old (u := .tup []) hq0 hpe
      walk_at "rd"
      refine ⟨_, rfl, (ho.inn _ (headD_mem (0, 0, 0) ho.ne)).2.2, ?_⟩
      walk_at "rd"
      exact k_mk1 fun d H7 s7 x7 => hbad6 (hws.trans q4) d H7 ((s15.trans (Same.new hpe)).trans s7) x7
    · rw [hws, q4, if_neg Bool.false_ne_true] at hc
      walk_at "rd"
      exact hok hc _ (s15.trans (Same.new hpe))

abbrev lcScope_turned_rows : Scope := { kind := .function, names := [(".0", .local), ("column", .cell), ("rows", .free)], isGenerator := false, isCoroutine := false }
theorem ok_turned_rows {P : Program} {wd : World} {K : PySem.W.Frag} {mg : Str → Option Value} {bas : Heap} (T : Tx K mg)  :
    DefOk P wd K mg bas CX0 "turned_rows" 1 ["rows"] spTurnedRows := by
  refine def0 T.fn_turned_rows sc_turned_rows bp_turned_rows (fun vs H Q E h => ?_) (fun f cdv A outer s H vs Q E hr h => ?_)
  · obtain ⟨v, g, w, rfl, hv, n1, n9, hr9, w1, w9, hQ⟩ := h
    rfl
  · obtain ⟨v, g, w, rfl, hv, n1, n9, hr9, w1, w9, hQ⟩ := h
    refine ⟨_, (pss_one (ps_ret (pe_callTy b_tupL rfl T.f_tuple (by decide +kernel) (pa_cons (pe_lc (own := [("column", 1)]) (g := (gName 1)) (tt := tYes) rfl nd_turned_rows (pi_range1 rfl T.f_range (pa_cons (pe_callB b_lenT rfl T.f_len (by decide +kernel) (pa_cons (pe_ix ix_tup (pv 0) pe_int (fun _ _ => rfl)) pa_nil)) pa_nil)) (blkOk_by (own := [("column", 1)]) (N := N_turned_rows) (sc := (defScope s_turned_rows)) (by decide +kernel)) (fun _ _ _ _ _ => (pg_name (i := 1) nd_turned_rows rfl (Or.inr rfl))) (fun _ _ _ _ _ => pts_nil) (fun _ _ _ _ _ => (pe_bmE (K := K) rfl PySem.F.plainAttrs_str PySem.F.slot_str_join PySem.F.type_str_join (mt_of (rJoin K) m_join rfl) (pe_lit [] (by decide +kernel)) (pa_cons (pe_lc (own := [("row", 2)]) (g := (gName 2)) (tt := tYes) rfl nd_turned_rows (pi_of (iTup K _) (pi_tup (pv 0)) rfl) (blkOk_by (own := [("row", 2)]) (N := N_turned_rows) (sc := (relS lcScope_turned_rows (defScope s_turned_rows))) (by decide +kernel)) (fun _ _ _ _ _ => (pg_name (i := 2) nd_turned_rows rfl (Or.inl rfl))) (fun _ _ _ _ _ => pts_nil) (fun _ _ _ _ _ => (pe_ix ix_str (pv 2) (pv 1) (fun _ _ => rfl)))) pa_nil)))) pa_nil)))), ?_⟩
    have hcB := T.cls_Board
    have hnr := T.na_Board_rows
    have hnm := T.na_Board_marks
    have hnb := T.na_Board_begin
    have hcK := T.cls_Book
    have hnh := T.na_Book_held
    obtain ⟨a, rfl, ha⟩ := rows_open hv
    have hl : (g.map fun l => V.str (mk l)).length = g.length := List.length_map _
    have e0 : g[0]? = some g[0] := List.getElem?_eq_getElem (by omega)
    have e0' := gmap e0
    have n0 : g[0].length = w := hr9 _ (List.getElem_mem _)
    walk_at "rd"
    refine k_lenT (by omega) ?_
    rw [n0]
    walk_at "rd"
    refine e_R1 (by omega) ?_
    walk_at "rd"
    refine c_R (mp (trG w g) sD) (by omega) rfl (fun i H1 hi hs => ?_) (fun D H1 ys h1 h2 h3 h4 => ?_)
    · intro P R h1 h2
      have ha1 := hs _ _ ha
      walk_at "rd"
      refine ⟨rfl, ?_⟩
      walk_at "rd"
      refine c_T (mp g fun r => sD [r.getD i 46]) ha1 (by omega) rfl (fun j x H2 hj hs2 => ?_) (fun D2 H2 ys2 f1 f2 f3 f4 => ?_)
      · rw [List.getElem?_map] at hj
        obtain ⟨l, el, rfl⟩ := Option.map_eq_some_iff.mp hj
        have nl : l.length = w := hr9 _ (List.mem_of_getElem? el)
        intro P2 R2 g1 g2
        walk_at "rd"
        refine ⟨rfl, ?_⟩
        walk_at "rd"
        rw [Int.zero_add]
        refine k_ixS (c := l.getD i 46) (by omega) (by rw [List.getD_eq_getElem?_getD, List.getElem?_eq_getElem (by omega : i < l.length)]; rfl) ?_
        exact g1 _ _ _ (.refl _) (mp_succ el) at_str
      · rw [mp_all _ _ (by omega)] at f4
        have h5 : ys2 = (g.map fun r => [r.getD i 46]).map fun t => V.str (mk t) := by
          have := AtAll.strs' (l := g.map fun r => mk [r.getD i 46]) (H := H2) (vs := ys2) (by rw [List.map_map]; exact f4)
          rw [this, List.map_map, List.map_map]; rfl
        rw [h5] at f3
        have ef : (g.map fun r => [r.getD i 46]).flatten = g.map fun r => r.getD i 46 := flat_single _ _
        walk_at "rd"
        refine k_join (.inl f3) (by rw [ef, List.length_map]; omega) ?_
        rw [ef]
        refine h1 _ _ (sD (g.map fun r => r.getD i 46)) f2 (mp_succ ?_) at_str
        unfold trG
        rw [List.getElem?_map, List.getElem?_range (by omega)]; rfl
    rw [mp_all _ _ (by unfold trG; rw [List.length_map, List.length_range]; omega)] at h4
    walk_at "rd"
    refine k_tupL h3 fun p hp => ?_
    refine hQ _ _ (h2.trans (Same.new hp)) ?_
    exact at_tup upd_same (h4.same (Same.new hp))

theorem ok_Board_turned {P : Program} {wd : World} {K : PySem.W.Frag} {mg : Str → Option Value} {bas : Heap} (T : Tx K mg) (c_Board : MakeOk P wd K mg bas CX0 (He.ga K "Board") "Board" 3 ["self", "rows", "marks", "begin"] (spBoardInit K)) (c_turned_rows : DefOk P wd K mg bas CX0 "turned_rows" 1 ["rows"] spTurnedRows) :
    MethOk P wd K mg bas CX0 (He.ga K "Board") "turned" 5 ["self"] (spBoardTurned K) := by
  refine meth0 T.m_Board_turned T.fn_Board_turned sc_Board_turned bp_Board_turned (fun vs H Q E h => ?_) (fun f cdv A outer s H vs Q E hr h => ?_)
  · obtain ⟨b, g, m, beg, h, w, rfl, hB, hg, hm, b1, b2, hQ⟩ := h
    rfl
  · obtain ⟨b, g, m, beg, h, w, rfl, hB, hg, hm, b1, b2, hQ⟩ := h
    refine ⟨_, (pss_one (ps_ret (pe_new c_Board (hr.mono (by decide)) pass0 (pa_cons (pe_fn c_turned_rows (hr.mono (by decide)) pass0 (pa_cons (pe_fld (pv 0) rfl) pa_nil)) (pa_cons (pe_fn c_turned_rows (hr.mono (by decide)) pass0 (pa_cons (pe_fld (pv 0) rfl) pa_nil)) (pa_cons (pe_tup (pa_cons (pe_ix ix_tup (pe_fld (pv 0) rfl) pe_int (fun _ _ => rfl)) (pa_cons (pe_ix ix_tup (pe_fld (pv 0) rfl) pe_int (fun _ _ => rfl)) pa_nil))) pa_nil)))))), ?_⟩
    have hcB := T.cls_Board
    have hnr := T.na_Board_rows
    have hnm := T.na_Board_marks
    have hnb := T.na_Board_begin
    have hcK := T.cls_Book
    have hnh := T.na_Book_held
    obtain ⟨dx, v1, v2, v3, hb, h1, h2, h3⟩ := id hB
    have g1 := hg.h1
    have g9 := hg.h9
    have gl := hg.len
    have ml := hm.len
    obtain ⟨cp, rfl, hcp⟩ := cell_open h3
    walk_at "rd"
    refine ⟨_, g, w, rfl, h1, by omega, by omega, hg.row, hg.w1, hg.w9, fun u H1 s1 hu => ?_⟩
    have hb1 := s1 _ _ hb
    walk_at "rd"
    refine ⟨_, m, w, rfl, h2.same s1, by omega, by omega, hm.row, hg.w1, hg.w9, fun u2 H2 s2 hu2 => ?_⟩
    have hb2 := s2 _ _ hb1
    have hcp2 := s2 _ _ (s1 _ _ hcp)
    walk_at "rd"
    intro p hp
    walk_at "rd"
    intro x dx2 n1 n2 ne
    have s3 : Same H (upd H2 p (.tup [.int (beg.2 : Int), .int (beg.1 : Int)])) := (s1.trans s2).trans (Same.new hp)
    have s4 : Same (upd H2 p (.tup [.int (beg.2 : Int), .int (beg.1 : Int)])) (upd (upd (upd H2 p (.tup [.int (beg.2 : Int), .int (beg.1 : Int)])) dx2 (.own x)) x (.ins (He.ga K "Board") dx2 [])) :=
      (Same.new n2).trans (Same.new (by rw [upd_ne (fun e => ne e.symm)]; exact n1))
    have s4' := (Same.new (o := .tup [.int (beg.2 : Int), .int (beg.1 : Int)]) hp).trans s4
    refine ⟨x, dx2, u, u2, .ref p, trG w g, trG w m, swp beg, w, h, rfl, upd_same, (hu.same s2).same s4', hu2.same s4', cell_mk (c := swp beg) (s4 _ _ upd_same), hg.tr, hm.tr hg, b2, b1, fun H5 s5 hx5 => ⟨rfl, ?_⟩⟩
    have s6 : Same (upd H2 p (.tup [.int (beg.2 : Int), .int (beg.1 : Int)])) H5 := fun a o e => s5 a o (fun q => by rw [q, n1] at e; cases e) (s4 _ _ e)
    have s6' := (Same.new (o := .tup [.int (beg.2 : Int), .int (beg.1 : Int)]) hp).trans s6
    exact hQ x H5 (s3.trans s6) ⟨dx2, u, u2, .ref p, hx5, (hu.same s2).same s6', hu2.same s6', cell_mk (c := swp beg) (s6 _ _ upd_same)⟩

theorem ok_check_word {P : Program} {wd : World} {K : PySem.W.Frag} {mg : Str → Option Value} {bas : Heap} (T : Tx K mg)  :
    DefOk P wd K mg bas CX0 "check_word" 1 ["thing"] spCheckWord := by
  refine def0 T.fn_check_word sc_check_word bp_check_word (fun vs H Q E h => ?_) (fun f cdv A outer s H vs Q E hr h => ?_)
  · obtain ⟨t, rfl, ⟨t2, t9, tl⟩, hQ⟩ := h
    rfl
  · obtain ⟨t, rfl, ⟨t2, t9, tl⟩, hQ⟩ := h
    refine ⟨_, (pss_cons (ps_if (PW.pt (pw_or (pt_not (pt_val (pe_callB call_isi rfl T.f_isinstance (by decide +kernel) (pa_cons (pv 0) (pa_cons (pe_bltn (v := .ty "str") rfl T.f_str (by decide +kernel) rfl) pa_nil))))) (pw_or1 (pt_not (pt_chain op_le op_le pe_int (pe_callB b_lenT rfl T.f_len (by decide +kernel) (pa_cons (pv 0) pa_nil)) pe_int))))) (pss_one ps_never) pss_nil)
      (pss_one (ps_if (pt_not (pt_val (pe_callB (cr_all rfl) rfl T.f_all (by decide +kernel) (pa_cons (pe_lc (own := [("letter", 1)]) (g := (gName 1)) (tt := tYes) rfl nd_check_word (pi_str (pv 0)) (blkOk_by (own := [("letter", 1)]) (N := N_check_word) (sc := (defScope s_check_word)) (by decide +kernel)) (fun _ _ _ _ _ => (pg_name (i := 1) nd_check_word rfl (Or.inl rfl))) (fun _ _ _ _ _ => pts_nil) (fun _ _ _ _ _ => (pe_cmpR o_inC (pv 1) (pe_gs T.g_LETTERS_books) (by rfl)))) pa_nil)))) (pss_one ps_never) pss_nil))), ?_⟩
    have hcB := T.cls_Board
    have hnr := T.na_Board_rows
    have hnm := T.na_Board_marks
    have hnb := T.na_Board_begin
    have hcK := T.cls_Book
    have hnh := T.na_Book_held
    walk_at "rd"
    refine k_lenT (by omega) ?_
    walk_at "rd"
    refine k_itTr (by omega) ?_
    walk_at "rd"
    refine k_itnTr (by omega) ?_
    walk_at "rd"
    refine c_S (mp t fun c => .bool true) (by omega) rfl (fun i c H1 hi hs => ?_) (fun D H1 ys h1 h2 h3 h4 => ?_)
    · intro P R h1 h2
      walk_at "rd"
      refine ⟨rfl, ?_⟩
      walk_at "rd"
      exact h1 _ _ (.bool true) (.refl _) (mp_succ hi) (by rw [decide_eq_true (tl c (List.mem_of_getElem? hi) : c ∈ lowL)]; exact at_bl)
    rw [mp_all _ _ (Nat.le_refl _)] at h4
    have h5 : ys = (t.map fun c => true).map V.bl := by
      apply AtAll.bls' (H := H1)
      rw [List.map_map]
      exact h4
    rw [h5] at h3
    walk_at "rd"
    refine k_all h3 ?_
    walk_at "rd"
    refine k_nT (by simp) ?_
    walk_at "rd"
    exact hQ _ h2

theorem ok_Book_init {P : Program} {wd : World} {K : PySem.W.Frag} {mg : Str → Option Value} {bas : Heap} (T : Tx K mg) (c_check_word : DefOk P wd K mg bas CX0 "check_word" 1 ["thing"] spCheckWord) :
    MakeOk P wd K mg bas CX0 (He.ga K "Book") "Book" 2 ["self", "words"] (spBookInit K) := by
  refine make0 T.c_Book T.mk_Book T.fn_Book_init sc_Book_init bp_Book_init (fun vs H Q E h => ?_) (fun f cdv A outer s H vs Q E hr h => ?_)
  · obtain ⟨x, dx, p, ws, rfl, hx, hp, hn, hw, hQ⟩ := h
    rfl
  · obtain ⟨x, dx, p, ws, rfl, hx, hp, hn, hw, hQ⟩ := h
    refine ⟨_, (pss_cons (ps_fld (pv 0) pe_dnewK rfl)
      (pss_one (ps_for PassesOwn.never rfl (pi_list (pv 1)) (pg_name (i := 2) nd_Book_init rfl (Or.inl rfl)) (pss_cons (ps_expr (pe_fn c_check_word (hr.mono (by decide)) pass0 (pa_cons (pv 2) pa_nil)))
      (pss_one (ps_dput (hu_of hr) (pe_fld (pv 0) rfl) (pv 2) pe_bl rfl)))))), ?_⟩
    have hcB := T.cls_Board
    have hnr := T.na_Board_rows
    have hnm := T.na_Board_marks
    have hnb := T.na_Board_begin
    have hcK := T.cls_Book
    have hnh := T.na_Book_held
    walk_at "rd"
    intro d hd
    walk_at "rd"
    refine k_sf (upd_old hx hd) hcK hnh rfl ?_
    have s0 : Same H (upd H d (.dK [])) := Same.new hd
    have nex : d ≠ x := fun e => by rw [e, hx] at hd; cases hd
    have nep : p ≠ x := fun e => by rw [e, hx] at hp; cases hp
    walk_at "rd"
    refine e_L (by rw [upd_ne nep]; exact upd_old hp hd) ?_
    refine f_L (fun i σ H' => (∃ a1, σ = [some (.ref x), some (.ref p), a1]) ∧ Sb x H H' ∧ H' p = some (.lst (ws.map fun t => V.str (mk t))) ∧ H' x = some (.ins (He.ga K "Book") dx (putF "held" (.ref d) [])) ∧ H' d = some (.dK (bookD (ws.take i))))
      ⟨⟨_, rfl⟩, (Sb.same s0).wr, by rw [upd_ne nep]; exact upd_old hp hd, upd_same, by rw [upd_ne nex]; exact upd_same⟩ (fun i σ H' _ pv => SqL.of pv.2.2.1) (fun i y σ H2 hi pv => ?_) (fun σ H2 pv => ?_)
    rotate_left
    · obtain ⟨⟨a1, rfl⟩, s2, f1, f2, f3⟩ := pv
      rw [List.take_of_length_le (by rw [List.length_map]; omega)] at f3
      exact hQ _ s2 ⟨dx, d, _, f2, f3, fun t => bookD_val ws t⟩
    obtain ⟨⟨a1, rfl⟩, s2, f1, f2, f3⟩ := pv
    rw [List.getElem?_map] at hi
    obtain ⟨t, et, rfl⟩ := Option.map_eq_some_iff.mp hi
    walk_at "rd"
    refine ⟨t, rfl, hw t (List.mem_of_getElem? et), fun H3 s3 => ?_⟩
    have g1 := s3 _ _ f1
    have g2 := s3 _ _ f2
    have g3 := s3 _ _ f3
    walk_at "rd"
    refine ⟨d, _, rfl, DPut.k (k := .inr (mk t)) g3 (by have := bookD_len (ws.take i); rw [List.length_take] at this; rw [sizeLine_eq]; omega), ?_⟩
    refine ⟨⟨_, rfl⟩, (s2.trans (Sb.same s3)).wrn hd, ?_, ?_, ?_⟩
    · rw [upd_ne (fun e => by rw [e, g3] at g1; cases g1)]; exact g1
    · rw [upd_ne (fun e => by rw [e, g3] at g2; cases g2)]; exact g2
    · rw [upd_same, bookD_take et]

theorem ok_law_cell_at {P : Program} {wd : World} {K : PySem.W.Frag} {mg : Str → Option Value} {bas : Heap} (T : Tx K mg)  :
    DefOk P wd K mg bas CX0 "_law_cell_at" 1 ["_law_script", "_law_k"] (spCellAt K) := by
  refine def0 T.fn_law_cell_at sc_law_cell_at bp_law_cell_at (fun vs H Q E h => ?_) (fun f cdv A outer s H vs Q E hr h => ?_)
  · obtain ⟨a, ns, k, rfl, hs, n63, hk, hQ⟩ := h
    rfl
  · obtain ⟨a, ns, k, rfl, hs, n63, hk, hQ⟩ := h
    refine ⟨_, (pss_cons (ps_if (pt_cmpR op_lt (pv 1) (pe_callB b_lenQ rfl T.f_len (by decide +kernel) (pa_cons (pv 0) pa_nil)) (nomark _)) (pss_one (ps_ret (pe_ix ix_list (pv 0) (pv 1) (fun _ _ => rfl)))) pss_nil)
      (pss_one (ps_ret pe_int))), ?_⟩
    have hcB := T.cls_Board
    have hnr := T.na_Board_rows
    have hnm := T.na_Board_marks
    have hnb := T.na_Board_begin
    have hcK := T.cls_Book
    have hnh := T.na_Book_held
    walk_at "rd"
    refine ⟨a, _, rfl, .inl hs, ?_⟩
    walk_at "rd"
    refine k_ited (fun h => ?_) (fun h => ?_)
    · walk_at "rd"
      rw [List.length_map] at h
      obtain ⟨j, rfl⟩ := Int.eq_ofNat_of_zero_le hk
      refine ⟨a, _, _, .int (ns[j]'(by omega)), rfl, rfl, hs, atI_nat (by rw [List.getElem?_map, List.getElem?_eq_getElem (by omega)]; rfl), ?_⟩
      exact hQ _
    · walk_at "rd"
      exact hQ 0

theorem ok_law_take {P : Program} {wd : World} {K : PySem.W.Frag} {mg : Str → Option Value} {bas : Heap} (T : Tx K mg)  :
    DefOk P wd K mg bas CX0 "_law_take" 1 ["_law_rest_here", "_law_base"] spTake := by
  refine def0 T.fn_law_take sc_law_take bp_law_take (fun vs H Q E h => ?_) (fun f cdv A outer s H vs Q E hr h => ?_)
  · obtain ⟨r, n, base, rfl, hr0, b0, b1, hQ⟩ := h
    rfl
  · obtain ⟨r, n, base, rfl, hr0, b0, b1, hQ⟩ := h
    refine ⟨_, (pss_cons (ps_set (i := 2) nd_law_take rfl (Or.inl rfl) (pe_op op_mod (pe_ix ix_list (pv 0) pe_int (fun _ _ => rfl)) (pv 1)))
      (pss_cons (ps_asg (pe_op op_fdiv (pe_ix ix_list (pv 0) pe_int (fun _ _ => rfl)) (pv 1)) (pg_sub (pv 0) pe_int set_list))
      (pss_one (ps_ret (pv 2))))), ?_⟩
    have hcB := T.cls_Board
    have hnr := T.na_Board_rows
    have hnm := T.na_Board_marks
    have hnb := T.na_Board_begin
    have hcK := T.cls_Book
    have hnh := T.na_Book_held
    walk_at "rd"
    refine k_ixL0 hr0 rfl ?_
    walk_at "rd"
    refine k_I b0 ?_
    walk_at "rd"
    refine k_ixL0 hr0 rfl ?_
    walk_at "rd"
    refine k_I ⟨b0, by omega⟩ ?_
    walk_at "rd"
    refine k_set0 hr0 Nat.one_pos ?_
    walk_at "rd"
    exact hQ _ _ (Int.emod_nonneg _ (by omega)) (Int.emod_lt_of_pos _ b0)

theorem ok_law_rest {P : Program} {wd : World} {K : PySem.W.Frag} {mg : Str → Option Value} {bas : Heap} (T : Tx K mg)  :
    DefOk P wd K mg bas CX0 "_law_rest" 1 ["_law_cell"] spRest := by
  refine def0 T.fn_law_rest sc_law_rest bp_law_rest (fun vs H Q E h => ?_) (fun f cdv A outer s H vs Q E hr h => ?_)
  · obtain ⟨n, rfl, hQ⟩ := h
    rfl
  · obtain ⟨n, rfl, hQ⟩ := h
    refine ⟨_, (pss_cons (ps_if (pt_cmpR op_eq (pe_op op_mod (pv 0) pe_int) pe_int (nomark _)) (pss_one (ps_ret (pe_lst (pa_cons (pe_op op_fdiv (pv 0) pe_int) pa_nil)))) pss_nil)
      (pss_cons (ps_set (i := 1) nd_law_rest rfl (Or.inl rfl) (pv 0))
      (pss_cons (ps_set (i := 2) nd_law_rest rfl (Or.inl rfl) pe_int)
      (pss_cons (ps_for PassesOwn.never rfl (pi_range1 rfl T.f_range (pa_cons pe_int pa_nil)) (pg_name (i := 3) nd_law_rest rfl (Or.inl rfl)) (pss_cons (ps_set (i := 1) nd_law_rest rfl (Or.inl rfl) (pe_op op_mod (pe_op op_add (pe_op op_add (pe_op op_mul (pv 1) pe_int) (pe_op op_mul pe_int (pv 3))) pe_int) pe_int))
      (pss_cons (ps_set (i := 1) nd_law_rest rfl (Or.inl rfl) (pe_op op_mod (pe_op op_add (pe_op op_add (pe_op op_mul (pv 1) pe_int) (pe_op op_mul pe_int (pv 3))) pe_int) pe_int))
      (pss_one (ps_set (i := 2) nd_law_rest rfl (Or.inl rfl) (pe_op op_add (pe_op op_mul (pv 2) pe_int) (pv 1)))))))
      (pss_one (ps_ret (pe_lst (pa_cons (pv 2) pa_nil)))))))), ?_⟩
    have hcB := T.cls_Board
    have hnr := T.na_Board_rows
    have hnm := T.na_Board_marks
    have hnb := T.na_Board_begin
    have hcK := T.cls_Book
    have hnh := T.na_Book_held
    walk_at "rd"
    refine k_ited (fun h => ?_) (fun h => ?_)
    · walk_at "rd"
      intro p hp
      exact hQ p _ hp
    · walk_at "rd"
      refine e_R1 (by omega) ?_
      refine f_R (fun i σ H' => (∃ (a b : Int) (c : Option V), σ = [some (.int n), some (.int a), some (.int b), c]) ∧ H' = H) ⟨⟨_, _, _, rfl⟩, rfl⟩ (fun i σ H' hi pv => ?_) (fun σ H' pv => ?_)
      · obtain ⟨⟨a, b, c, rfl⟩, rfl⟩ := pv
        have hi2 : i < 40 := hi
        walk_at "rd"
        exact ⟨⟨_, _, _, rfl⟩, rfl⟩
      · obtain ⟨⟨a, b, c, rfl⟩, rfl⟩ := pv
        walk_at "rd"
        intro p hp
        exact hQ p _ hp

theorem ok_law_letters {P : Program} {wd : World} {K : PySem.W.Frag} {mg : Str → Option Value} {bas : Heap} (T : Tx K mg) (c_law_take : DefOk P wd K mg bas CX0 "_law_take" 1 ["_law_rest_here", "_law_base"] spTake) :
    DefOk P wd K mg bas CX0 "_law_letters" 2 ["_law_rest_here"] spLetters := by
  refine def0 T.fn_law_letters sc_law_letters bp_law_letters (fun vs H Q E h => ?_) (fun f cdv A outer s H vs Q E hr h => ?_)
  · obtain ⟨r, rfl, hr0, hQ⟩ := h
    rfl
  · obtain ⟨r, rfl, hr0, hQ⟩ := h
    refine ⟨_, (pss_cons (ps_set (i := 1) nd_law_letters rfl (Or.inl rfl) (pe_lit [97, 98, 99, 100, 101, 102, 103, 104, 105, 106, 107, 108, 109, 110, 111, 112, 113, 114, 115, 116, 117, 118, 119, 120, 121, 122] (by decide +kernel)))
      (pss_cons (ps_if (pt_cmpR op_eq (pe_fn c_law_take (hr.mono (by decide)) pass0 (pa_cons (pv 0) (pa_cons pe_int pa_nil))) pe_int (nomark _)) (pss_one (ps_ret (pv 1))) pss_nil)
      (pss_cons (ps_set (i := 2) nd_law_letters rfl (Or.inr rfl) (pe_lit [] (by decide +kernel)))
      (pss_cons (ps_for PassesOwn.never rfl (pi_range1 rfl T.f_range (pa_cons (pe_op op_add pe_int (pe_fn c_law_take (hr.mono (by decide)) pass0 (pa_cons (pv 0) (pa_cons pe_int pa_nil)))) pa_nil)) (pg_name (i := 3) nd_law_letters rfl (Or.inl rfl)) (pss_cons (ps_setLc (i := 4) (own := [("_law_letter", 5)]) (g := (gName 5)) rfl nd_law_letters rfl rfl (sw_true rfl rfl rfl (by decide +kernel)) (pi_str (pv 1)) (blkOk_by (own := [("_law_letter", 5)]) (N := N_law_letters) (sc := (defScope s_law_letters)) (by decide +kernel)) (fun _ _ _ _ _ => (pg_name (i := 5) nd_law_letters rfl (Or.inl rfl))) (fun _ _ _ _ _ => (pts_one (pt_cmpR o_ninC (pv 5) (pv 2) (by rfl)))) (fun _ _ _ _ _ => (pv 5)))
      (pss_one (ps_set (i := 2) nd_law_letters rfl (Or.inr rfl) (pe_op o_addS (pv 2) (pe_ix ix_list (pv 4) (pe_fn c_law_take (hr.mono (by decide)) pass0 (pa_cons (pv 0) (pa_cons (pe_callB b_lenQ rfl T.f_len (by decide +kernel) (pa_cons (pv 4) pa_nil)) pa_nil))) (fun _ _ => rfl)))))))
      (pss_one (ps_ret (pv 2))))))), ?_⟩
    have hcB := T.cls_Board
    have hnr := T.na_Board_rows
    have hnm := T.na_Board_marks
    have hnb := T.na_Board_begin
    have hcK := T.cls_Book
    have hnh := T.na_Book_held
    obtain ⟨n0, hr0⟩ := hr0
    walk_at "rd"
    refine ⟨r, n0, 8, rfl, hr0, by decide, by decide, fun d n1 d0 d8 => ?_⟩
    walk_at "rd"
    refine k_ited (fun h => ?_) (fun h => ?_)
    · walk_at "rd"
      exact hQ lowL _ (Sb.refl _ _).wr ⟨_, upd_same⟩ ⟨by decide, by decide, fun c m => m⟩
    walk_at "rd"
    have s1 : Sb r H (upd H r (.lst [.int n1])) := (Sb.refl _ _).wr
    have g1 : (upd H r (.lst [.int n1])) r = some _ := upd_same
    generalize upd H r (.lst [.int n1]) = H1 at s1 g1
    refine ⟨r, n1, 3, rfl, g1, by decide, by decide, fun d2 n2 e0 e3 => ?_⟩
    have s2 : Sb r H (upd H1 r (.lst [.int n2])) := s1.wr
    have g2 : (upd H1 r (.lst [.int n2])) r = some _ := upd_same
    generalize upd H1 r (.lst [.int n2]) = H2 at s2 g2
    walk_at "rd"
    refine e_R1 (by omega) ?_
    refine f_R (fun i σ H' => (∃ (ls : List Nat) (a3 a4 a5 : Option V), σ = [some (.ref r), some (.str (mk lowL)), some (.str (mk ls)), a3, a4, a5] ∧ ls.length = i ∧ ∀ c ∈ ls, c ∈ lowL) ∧ Sb r H H' ∧ RestAt H' r) ⟨⟨[], _, _, _, rfl, rfl, fun c m => by cases m⟩, s2, _, g2⟩ (fun i σ H' hi pv => ?_) (fun σ H' pv => ?_)
    rotate_left
    · obtain ⟨⟨ls, a3, a4, a5, rfl, hl, hc⟩, s3, hr3⟩ := pv
      walk_at "rd"
      exact hQ ls H' s3 hr3 ⟨by omega, by omega, hc⟩
    obtain ⟨⟨ls, a3, a4, a5, rfl, hl, hc⟩, s3, n3, hr3⟩ := pv
    have hi4 : i < 4 := by omega
    walk_at "rd"
    refine c_S (flt lowL (fun c => !decide (c ∈ ls)) fun c => sD [c]) (by decide) rfl (fun j c H3 hj hs => ?_) (fun D H3 ys k1 k2 k3 k4 => ?_)
    · intro P R h1 h2
      walk_at "rd"
      refine ⟨rfl, ?_⟩
      walk_at "rd"
      refine k_ite (fun q => ?_) (fun q => ?_)
      · walk_at "rd"
        exact h1 _ _ (sD [c]) (.refl _) (flt_yes hj q) at_str
      · exact h2 _ (.refl _) (flt_no hj q)
    rw [flt_all _ _ _ (Nat.le_refl _)] at k4
    have ylen := map_len k4
    have ypos : 0 < (lowL.filter fun c => !decide (c ∈ ls)).length := left_pos (by omega)
    have yle : (lowL.filter fun c => !decide (c ∈ ls)).length ≤ 26 := List.length_filter_le _ _
    walk_at "rd"
    refine ⟨r, n3, _, rfl, k2 _ _ hr3, by omega, by omega, fun d4 n4 f0 f1 => ?_⟩
    obtain ⟨j, rfl⟩ := Int.eq_ofNat_of_zero_le f0
    have hj : j < ys.length := by omega
    obtain ⟨c, ec, hcv⟩ := map_get k4 (List.getElem?_eq_getElem hj)
    have k3' : upd H3 r (.lst [.int n4]) D = some (.lst ys) := by rw [upd_ne (fun z => by rw [z, hr3] at k1; cases k1)]; exact k3
    refine k_ixL k3' (List.getElem?_eq_getElem hj) ?_
    rw [at_str' hcv]
    refine k_addS (by rw [hl, List.length_singleton]; omega) ?_
    walk_at "rd"
    refine ⟨⟨ls ++ [c], _, _, _, rfl, by rw [List.length_append, hl]; rfl, fun x m => ?_⟩, (s3.trans (Sb.same k2)).wr, _, upd_same⟩
    rcases List.mem_append.mp m with m | m
    · exact hc x m
    · rw [List.mem_singleton.mp m]
      exact (List.mem_filter.mp (List.mem_of_getElem? ec)).1

theorem ok_law_sign {P : Program} {wd : World} {K : PySem.W.Frag} {mg : Str → Option Value} {bas : Heap} (T : Tx K mg) (c_law_take : DefOk P wd K mg bas CX0 "_law_take" 1 ["_law_rest_here", "_law_base"] spTake) :
    DefOk P wd K mg bas CX0 "_law_sign" 2 ["_law_rest_here", "_law_letters_here", "_law_great"] spSign := by
  refine def0 T.fn_law_sign sc_law_sign bp_law_sign (fun vs H Q E h => ?_) (fun f cdv A outer s H vs Q E hr h => ?_)
  · obtain ⟨r, ls, b, rfl, ⟨n0, hr0⟩, hls, hQ⟩ := h
    rfl
  · obtain ⟨r, ls, b, rfl, ⟨n0, hr0⟩, hls, hQ⟩ := h
    refine ⟨_, (pss_cons (ps_set (i := 3) nd_law_sign rfl (Or.inl rfl) (pe_ix ix_str (pv 1) (pe_fn c_law_take (hr.mono (by decide)) pass0 (pa_cons (pv 0) (pa_cons (pe_callB b_lenT rfl T.f_len (by decide +kernel) (pa_cons (pv 1) pa_nil)) pa_nil))) (fun _ _ => rfl)))
      (pss_cons (ps_if (PW.pt (pw_and (pt_cmpR op_eq (pe_fn c_law_take (hr.mono (by decide)) pass0 (pa_cons (pv 0) (pa_cons pe_int pa_nil))) pe_int (nomark _)) (pw_and1 (pt_val (pv 2))))) (pss_one (ps_ret (pe_bm0 PySem.F.plainAttrs_str PySem.F.slot_str_upper PySem.F.type_str_upper m_upp (pv 3)))) pss_nil)
      (pss_one (ps_ret (pv 3))))), ?_⟩
    have hcB := T.cls_Board
    have hnr := T.na_Board_rows
    have hnm := T.na_Board_marks
    have hnb := T.na_Board_begin
    have hcK := T.cls_Book
    have hnh := T.na_Book_held
    obtain ⟨l2, l26, lc⟩ := hls
    walk_at "rd"
    refine k_lenT (by omega) ?_
    walk_at "rd"
    refine ⟨r, n0, _, rfl, hr0, by omega, by omega, fun d n1 d0 d1 => ?_⟩
    obtain ⟨j, rfl⟩ := Int.eq_ofNat_of_zero_le d0
    have hj : j < ls.length := by omega
    have s1 : Sb r H (upd H r (.lst [.int n1])) := (Sb.refl _ _).wr
    have g1 : (upd H r (.lst [.int n1])) r = some _ := upd_same
    generalize upd H r (.lst [.int n1]) = H1 at s1 g1
    refine k_ixS (c := ls[j]) (by omega) (List.getElem?_eq_getElem hj) ?_
    have hc := lc _ (List.getElem_mem hj)
    walk_at "rd"
    refine ⟨r, n1, 5, rfl, g1, by decide, by decide, fun d2 n2 e0 e3 => ?_⟩
    have s2 : Sb r H (upd H1 r (.lst [.int n2])) := s1.wr
    have g2 : RestAt (upd H1 r (.lst [.int n2])) r := ⟨_, upd_same⟩
    generalize upd H1 r (.lst [.int n2]) = H2 at s2 g2
    have hno : isSg ls[j] = true := decide_eq_true (List.mem_append.mpr (.inl hc))
    walk_at "rd"
    refine k_ited (fun q => ?_) (fun q => ?_)
    · walk_at "rd"
      refine k_ite (fun q2 => ?_) (fun q2 => ?_)
      · walk_at "rd"
        have hup : ∀ c ∈ lowL, Txt.upper (mk [c]) = mk [c - 32] ∧ isSg (c - 32) = true := by decide +kernel
        refine ⟨_, rfl, rfl, by simp [Str.length], ?_⟩
        rw [(hup _ hc).1]
        exact hQ _ H2 s2 g2 (hup _ hc).2
      · walk_at "rd"
        exact hQ _ H2 s2 g2 hno
    · walk_at "rd"
      exact hQ _ H2 s2 g2 hno

theorem ok_law_rows {P : Program} {wd : World} {K : PySem.W.Frag} {mg : Str → Option Value} {bas : Heap} (T : Tx K mg) (c_law_sign : DefOk P wd K mg bas CX0 "_law_sign" 2 ["_law_rest_here", "_law_letters_here", "_law_great"] spSign) (c_law_take : DefOk P wd K mg bas CX0 "_law_take" 1 ["_law_rest_here", "_law_base"] spTake) :
    DefOk P wd K mg bas CX0 "_law_rows" 3 ["_law_rest_here", "_law_letters_here", "_law_most"] spRows := by
  refine def0 T.fn_law_rows sc_law_rows bp_law_rows (fun vs H Q E h => ?_) (fun f cdv A outer s H vs Q E hr h => ?_)
  · obtain ⟨r, ls, rfl, hr0, hls, hQ⟩ := h
    rfl
  · obtain ⟨r, ls, rfl, hr0, hls, hQ⟩ := h
    refine ⟨_, (pss_cons (ps_set (i := 3) nd_law_rows rfl (Or.inl rfl) (pe_ix ix_list (pe_lst (pa_cons (pv 2) (pa_cons pe_int pa_nil))) (pe_callTy b_intB rfl T.f_int (by decide +kernel) (pa_cons (pe_cmpR op_eq (pe_fn c_law_take (hr.mono (by decide)) pass0 (pa_cons (pv 0) (pa_cons pe_int pa_nil))) pe_int (nomark _)) pa_nil)) (fun _ _ => rfl)))
      (pss_cons (ps_set (i := 4) nd_law_rows rfl (Or.inl rfl) (pe_op op_add pe_int (pe_fn c_law_take (hr.mono (by decide)) pass0 (pa_cons (pv 0) (pa_cons (pv 3) pa_nil)))))
      (pss_cons (ps_set (i := 5) nd_law_rows rfl (Or.inl rfl) (pe_op op_add pe_int (pe_fn c_law_take (hr.mono (by decide)) pass0 (pa_cons (pv 0) (pa_cons (pv 3) pa_nil)))))
      (pss_cons (ps_set (i := 6) nd_law_rows rfl (Or.inl rfl) (pe_ix ix_list (pe_lst (pa_cons pe_int (pa_cons pe_int (pa_cons pe_int (pa_cons pe_int (pa_cons pe_int (pa_cons pe_int (pa_cons pe_int (pa_cons pe_int pa_nil))))))))) (pe_fn c_law_take (hr.mono (by decide)) pass0 (pa_cons (pv 0) (pa_cons pe_int pa_nil))) (fun _ _ => rfl)))
      (pss_cons (ps_set (i := 7) nd_law_rows rfl (Or.inl rfl) (pe_lst pa_nil))
      (pss_cons (ps_for PassesOwn.never rfl (pi_range1 rfl T.f_range (pa_cons (pv 4) pa_nil)) (pg_name (i := 8) nd_law_rows rfl (Or.inl rfl)) (pss_cons (ps_set (i := 9) nd_law_rows rfl (Or.inl rfl) (pe_lit [] (by decide +kernel)))
      (pss_cons (ps_for PassesOwn.never rfl (pi_range1 rfl T.f_range (pa_cons (pv 5) pa_nil)) (pg_name (i := 10) nd_law_rows rfl (Or.inl rfl)) (pss_one (ps_if (pt_cmpR op_lt (pe_fn c_law_take (hr.mono (by decide)) pass0 (pa_cons (pv 0) (pa_cons pe_int pa_nil))) (pv 6) (nomark _)) (pss_one (ps_set (i := 9) nd_law_rows rfl (Or.inl rfl) (pe_op o_addS (pv 9) (pe_fn c_law_sign (hr.mono (by decide)) pass0 (pa_cons (pv 0) (pa_cons (pv 1) (pa_cons pe_bl pa_nil))))))) (pss_one (ps_set (i := 9) nd_law_rows rfl (Or.inl rfl) (pe_op o_addS (pv 9) (pe_lit [46] (by decide +kernel))))))))
      (pss_one (ps_expr (pe_bm PySem.F.plainAttrs_list PySem.F.slot_list_append PySem.F.type_list_append mt_append (pv 7) (pa_cons (pv 9) pa_nil)))))))
      (pss_cons (ps_set (i := 11) nd_law_rows rfl (Or.inl rfl) (pe_fn c_law_take (hr.mono (by decide)) pass0 (pa_cons (pv 0) (pa_cons (pe_op op_mul (pv 4) (pv 5)) pa_nil))))
      (pss_cons (ps_set (i := 12) nd_law_rows rfl (Or.inl rfl) (pe_ix ix_list (pv 7) (pe_op op_fdiv (pv 11) (pv 5)) (fun _ _ => rfl)))
      (pss_cons (ps_set (i := 13) nd_law_rows rfl (Or.inl rfl) (pe_op op_mod (pv 11) (pv 5)))
      (pss_cons (ps_asg (pe_op o_addS (pe_op o_addS (pe_slice sl_str (pv 12) po_none (po_some (pv 13))) (pe_lit [46] (by decide +kernel))) (pe_slice sl_str (pv 12) (po_some (pe_op op_add (pv 13) pe_int)) po_none)) (pg_sub (pv 7) (pe_op op_fdiv (pv 11) (pv 5)) set_list))
      (pss_one (ps_ret (pe_callTy b_tupL rfl T.f_tuple (by decide +kernel) (pa_cons (pv 7) pa_nil)))))))))))))), ?_⟩
    have hcB := T.cls_Board
    have hnr := T.na_Board_rows
    have hnm := T.na_Board_marks
    have hnb := T.na_Board_begin
    have hcK := T.cls_Book
    have hnh := T.na_Book_held
    obtain ⟨rn, hrn⟩ := id hr0
    walk_at "rd"
    intro p0 hp0
    have g0 : (upd H p0 (.lst [.int 6, .int 9])) p0 = some _ := upd_same
    have s0 : Sb r H (upd H p0 (.lst [.int 6, .int 9])) := Sb.same (Same.new hp0)
    have r0 := hr0.new (o := .lst [.int 6, .int 9]) hp0
    have n0 : p0 ≠ r := fun z => by rw [z, hrn] at hp0; cases hp0
    generalize upd H p0 (.lst [.int 6, .int 9]) = H0 at g0 s0 r0
    walk_at "rd"
    refine k_dig s0 r0 (by decide) (by decide) fun d1 H1 d1b s1 s1' r1 => ?_
    have g1 := s1' _ _ n0 g0
    walk_at "rd"
    obtain ⟨j1, ej1, hj1⟩ : ∃ j : Nat, (if decide ((d1 : Int) = 3) = true then (1 : Int) else 0) = (j : Int) ∧ j < 2 := by
      by_cases q : (d1 : Int) = 3
      · exact ⟨1, by rw [decide_eq_true q]; rfl, by decide⟩
      · exact ⟨0, by rw [decide_eq_false q]; rfl, by decide⟩
    rw [ej1]
    obtain ⟨sz, esz, hsz⟩ : ∃ sz : Nat, [V.int 6, V.int 9][j1]? = some (.int (sz : Int)) ∧ (sz = 6 ∨ sz = 9) := by
      match j1, hj1 with
      | 0, _ => exact ⟨6, rfl, .inl rfl⟩
      | 1, _ => exact ⟨9, rfl, .inr rfl⟩
    refine k_ixL g1 esz ?_
    walk_at "rd"
    refine k_dig s1 r1 (by omega) (by omega) fun d2 H2 d2b s2 s2' r2 => ?_
    walk_at "rd"
    refine k_dig s2 r2 (by omega) (by omega) fun d3 H3 d3b s3 s3' r3 => ?_
    walk_at "rd"
    intro p1 hp1
    have g4 : (upd H3 p1 (.lst [.int 0, .int 1, .int 1, .int 2, .int 2, .int 3, .int 4, .int 5])) p1 = some _ := upd_same
    have s4 : Sb r H (upd H3 p1 (.lst [.int 0, .int 1, .int 1, .int 2, .int 2, .int 3, .int 4, .int 5])) := s3.trans (Sb.same (Same.new hp1))
    have r4 := r3.new (o := .lst [.int 0, .int 1, .int 1, .int 2, .int 2, .int 3, .int 4, .int 5]) hp1
    have n1 : p1 ≠ r := fun z => by obtain ⟨m, hm⟩ := r3; rw [z, hm] at hp1; cases hp1
    generalize upd H3 p1 (.lst [.int 0, .int 1, .int 1, .int 2, .int 2, .int 3, .int 4, .int 5]) = H4 at g4 s4 r4
    walk_at "rd"
    refine k_dig s4 r4 (by decide) (by decide) fun d5 H5 d5b s5 s5' r5 => ?_
    have g5 := s5' _ _ n1 g4
    obtain ⟨fu, efu⟩ : ∃ fu : Int, [V.int 0, V.int 1, V.int 1, V.int 2, V.int 2, V.int 3, V.int 4, V.int 5][d5]? = some (.int fu) := by
      have h8 : d5 < ([0, 1, 1, 2, 2, 3, 4, 5] : List Int).length := by show d5 < 8; omega
      refine ⟨([0, 1, 1, 2, 2, 3, 4, 5] : List Int)[d5], ?_⟩
      show (([0, 1, 1, 2, 2, 3, 4, 5] : List Int).map V.int)[d5]? = _
      rw [List.getElem?_map, List.getElem?_eq_getElem h8]; rfl
    refine k_ixL g5 efu ?_
    walk_at "rd"
    intro fd hfd
    have hfd0 : H fd = none := s5.free r5.choose_spec hfd
    have nfr : fd ≠ r := fun z => by rw [z, hrn] at hfd0; cases hfd0
    obtain ⟨ta, eta⟩ : ∃ ta : Nat, ta = 1 + d2 := ⟨_, rfl⟩
    obtain ⟨wi, ewi⟩ : ∃ wi : Nat, wi = 1 + d3 := ⟨_, rfl⟩
    have e1 : (1 : Int) + (d2 : Int) = (ta : Int) := by omega
    have e2 : (1 : Int) + (d3 : Int) = (wi : Int) := by omega
    rw [e1, e2]
    walk_at "rd"
    refine e_R1 (by omega) ?_
    refine f_R (fun i σ H' => (∃ a8 a9 a10 a11 a12 a13, σ = [some (.ref r), some (.str (mk ls)), some (.int 6), some (.int (sz : Int)), some (.int (ta : Int)), some (.int (wi : Int)), some (.int fu), some (.ref fd), a8, a9, a10, a11, a12, a13]) ∧ Sb r H H' ∧ RestAt H' r ∧ ∃ G : Grid, H' fd = some (.lst (G.map fun t => V.str (mk t))) ∧ G.length = i ∧ (∀ l ∈ G, l.length = wi) ∧ ∀ l ∈ G, ∀ c ∈ l, c = 46 ∨ isSg c = true)
      ⟨⟨_, _, _, _, _, _, rfl⟩, s5.trans (Sb.same (Same.new hfd)), r5.new hfd, [], upd_same, rfl, fun l m => (by cases m), fun l m => (by cases m)⟩ (fun i σ H6 hi pv => ?_) (fun σ H6 pv => ?_)
    · obtain ⟨⟨a8, a9, a10, a11, a12, a13, rfl⟩, s6, r6, G, f1, f2, f3, f4⟩ := pv
      have hi9 : i < 9 := by omega
      walk_at "rd"
      refine e_R1 (by omega) ?_
      refine f_R (fun j σ H' => (∃ t a8 a10 a11 a12 a13, σ = [some (.ref r), some (.str (mk ls)), some (.int 6), some (.int (sz : Int)), some (.int (ta : Int)), some (.int (wi : Int)), some (.int fu), some (.ref fd), a8, some (.str (mk t)), a10, a11, a12, a13] ∧ t.length = j ∧ ∀ c ∈ t, c = 46 ∨ isSg c = true) ∧ Sb r H6 H' ∧ RestAt H' r)
        ⟨⟨[], _, _, _, _, _, rfl, rfl, fun c m => (by cases m)⟩, .refl _ _, r6⟩ (fun j σ H7 hj pv => ?_) (fun σ H7 pv => ?_)
      · obtain ⟨⟨t, a8, a10, a11, a12, a13, rfl, ht, hc⟩, s7, r7⟩ := pv
        have hj9 : j < 9 := by omega
        walk_at "rd"
        refine k_dig s7 r7 (by decide) (by decide) fun d8 H8 d8b s8 s8' r8 => ?_
        walk_at "rd"
        refine k_ited (fun q => ?_) (fun q => ?_)
        · walk_at "rd"
          refine ⟨r, ls, true, rfl, r8, hls, fun c H9 s9 r9 hsg => ?_⟩
          refine k_addS (by rw [List.length_singleton]; omega) ?_
          walk_at "rd"
          refine ⟨⟨t ++ [c], _, _, _, _, _, rfl, by rw [List.length_append, ht]; rfl, fun x m => ?_⟩, s8.trans s9, r9⟩
          rcases List.mem_append.mp m with m | m
          · exact hc x m
          · rw [List.mem_singleton.mp m]; exact .inr hsg
        · walk_at "rd"
          refine k_addS (by rw [List.length_singleton]; omega) ?_
          walk_at "rd"
          refine ⟨⟨t ++ [46], _, _, _, _, _, rfl, by rw [List.length_append, ht]; rfl, fun x m => ?_⟩, s8, r8⟩
          rcases List.mem_append.mp m with m | m
          · exact hc x m
          · rw [List.mem_singleton.mp m]; exact .inl rfl
      · obtain ⟨⟨t, a8, a10, a11, a12, a13, rfl, ht, hc⟩, s7, r7⟩ := pv
        have f1' := s7 _ _ nfr f1
        walk_at "rd"
        refine k_app f1' (by rw [List.length_map]; omega) ?_
        refine ⟨⟨_, _, _, _, _, _, rfl⟩, (s6.trans s7).wrn hfd0, ?_, G ++ [t], ?_, by rw [List.length_append, f2]; rfl, fun l m => ?_, fun l m => ?_⟩
        · obtain ⟨n, hn⟩ := r7
          exact ⟨n, by rw [upd_ne (Ne.symm nfr)]; exact hn⟩
        · rw [upd_same, List.map_append]; rfl
        · rcases List.mem_append.mp m with m | m
          · exact f3 l m
          · rw [List.mem_singleton.mp m, ht]; omega
        · rcases List.mem_append.mp m with m | m
          · exact f4 l m
          · rw [List.mem_singleton.mp m]; exact hc
    obtain ⟨⟨a8, a9, a10, a11, a12, a13, rfl⟩, s6, r6, G, f1, f2, f3, f4⟩ := pv
    have f2 : G.length = ta := by omega
    have htw : (ta : Int) * (wi : Int) = ((ta * wi : Nat) : Int) := (Int.natCast_mul ta wi).symm
    have hpos : 0 < ta * wi := Nat.mul_pos (by omega) (by omega)
    have hle : ta * wi ≤ 9 * 9 := Nat.mul_le_mul (by omega) (by omega)
    walk_at "rd"
    refine k_I (Or.inl ⟨by omega, by omega⟩) ?_
    walk_at "rd"
    rw [htw]
    refine k_dig s6 r6 (by omega) (by omega) fun d7 H7 d7b s7 s7' r7 => ?_
    have f1' := s7' _ _ nfr f1
    have hd7 : d7 < ta * wi := by omega
    have q1 : d7 / wi < ta := Nat.div_lt_of_lt_mul (by rw [Nat.mul_comm]; exact hd7)
    have q2 : d7 % wi < wi := Nat.mod_lt _ (by omega)
    have e3 : (d7 : Int) / (wi : Int) = ((d7 / wi : Nat) : Int) := (Int.natCast_ediv d7 wi).symm
    have e4 : (d7 : Int) % (wi : Int) = ((d7 % wi : Nat) : Int) := (Int.natCast_emod d7 wi).symm
    have eG : G[d7 / wi]? = some (G[d7 / wi]'(by omega)) := List.getElem?_eq_getElem _
    have hlen : (G[d7 / wi]'(by omega)).length = wi := f3 _ (List.getElem_mem _)
    have hent := f4 _ (List.getElem_mem (show d7 / wi < G.length by omega))
    walk_at "rd"
    refine k_I ⟨by omega, by omega⟩ ?_
    rw [e3]
    refine k_ixL f1' (gmap eG) ?_
    generalize G[d7 / wi]'(by omega) = l at eG hlen hent
    walk_at "rd"
    refine k_I (show (0 : Int) < _ by omega) ?_
    rw [e4]
    walk_at "rd"
    refine k_slTo (by omega) ?_
    walk_at "rd"
    refine k_addS (by rw [List.length_take, List.length_singleton]; omega) ?_
    walk_at "rd"
    rw [show ((d7 % wi : Nat) : Int) + 1 = ((d7 % wi + 1 : Nat) : Int) from rfl]
    refine k_slFrom (by omega) ?_
    refine k_addS (by rw [List.length_append, List.length_take, List.length_drop, List.length_singleton]; omega) ?_
    walk_at "rd"
    refine k_I ⟨by omega, by omega⟩ ?_
    rw [e3]
    refine k_set f1' (by rw [List.length_map]; omega) ?_
    have r8 : RestAt (upd H7 fd (.lst ((G.map fun t => V.str (mk t)).set (d7 / wi) (.str (mk (l.take (d7 % wi) ++ [46] ++ l.drop (d7 % wi + 1))))))) r := by
      obtain ⟨n, hn⟩ := r7
      exact ⟨n, by rw [upd_ne (Ne.symm nfr)]; exact hn⟩
    have f8 : (upd H7 fd (.lst ((G.map fun t => V.str (mk t)).set (d7 / wi) (.str (mk (l.take (d7 % wi) ++ [46] ++ l.drop (d7 % wi + 1))))))) fd = some (.lst ((G.set (d7 / wi) (l.take (d7 % wi) ++ [46] ++ l.drop (d7 % wi + 1))).map fun t => V.str (mk t))) := by
      rw [upd_same, List.map_set]
    have s8 : Sb r H (upd H7 fd (.lst ((G.map fun t => V.str (mk t)).set (d7 / wi) (.str (mk (l.take (d7 % wi) ++ [46] ++ l.drop (d7 % wi + 1))))))) := s7.wrn hfd0
    generalize upd H7 fd (.lst ((G.map fun t => V.str (mk t)).set (d7 / wi) (.str (mk (l.take (d7 % wi) ++ [46] ++ l.drop (d7 % wi + 1)))))) = H8 at r8 f8 s8
    walk_at "rd"
    refine k_tupL f8 fun p hp => ?_
    have hg1 := free_grid (G := G) (l := l) (i := d7 / wi) (j := d7 % wi) (h := ta) (w := wi) f2 f3 f4 (by omega) (by omega) (by omega) (by omega) eG q2
    exact hQ (.ref p) _ ta wi _ (s8.trans (Sb.same (Same.new hp))) (r8.new hp) (rows_mk upd_same) hg1.1 ⟨_, _, q1, q2, hg1.2⟩

theorem ok_law_marks {P : Program} {wd : World} {K : PySem.W.Frag} {mg : Str → Option Value} {bas : Heap} (T : Tx K mg) (c_law_take : DefOk P wd K mg bas CX0 "_law_take" 1 ["_law_rest_here", "_law_base"] spTake) :
    DefOk P wd K mg bas CX0 "_law_marks" 2 ["_law_rest_here", "_law_rows_here"] spMarks := by
  refine def0 T.fn_law_marks sc_law_marks bp_law_marks (fun vs H Q E h => ?_) (fun f cdv A outer s H vs Q E hr h => ?_)
  · obtain ⟨r, v, g, h, w, rfl, hr0, hv, hg, hQ⟩ := h
    rfl
  · obtain ⟨r, v, g, h, w, rfl, hr0, hv, hg, hQ⟩ := h
    refine ⟨_, (pss_cons (ps_set (i := 2) nd_law_marks rfl (Or.inl rfl) (pe_lst pa_nil))
      (pss_cons (ps_for PassesOwn.never rfl (pi_tup (pv 1)) (pg_name (i := 3) nd_law_marks rfl (Or.inl rfl)) (pss_one (ps_expr (pe_bm PySem.F.plainAttrs_list PySem.F.slot_list_append PySem.F.type_list_append mt_append (pv 2) (pa_cons (pe_bm PySem.F.plainAttrs_str PySem.F.slot_str_join PySem.F.type_str_join m_join (pe_lit [] (by decide +kernel)) (pa_cons (pe_lc (own := [("_law_sign_here", 4)]) (g := (gName 4)) (tt := tYes) rfl nd_law_marks (pi_str (pv 3)) (blkOk_by (own := [("_law_sign_here", 4)]) (N := N_law_marks) (sc := (defScope s_law_marks)) (by decide +kernel)) (fun _ _ _ _ _ => (pg_name (i := 4) nd_law_marks rfl (Or.inl rfl))) (fun _ _ _ _ _ => pts_nil) (fun _ _ _ _ _ => (pe_ix ix_str (pe_op o_addS (pe_lit [50, 51, 52, 98, 99, 100] (by decide +kernel)) (pe_op o_mulS (pe_lit [46] (by decide +kernel)) pe_int)) (pe_fn c_law_take (hr.mono (by decide)) pass0 (pa_cons (pv 0) (pa_cons pe_int pa_nil))) (fun _ _ => rfl)))) pa_nil)) pa_nil)))))
      (pss_one (ps_ret (pe_callTy b_tupL rfl T.f_tuple (by decide +kernel) (pa_cons (pv 2) pa_nil)))))), ?_⟩
    have hcB := T.cls_Board
    have hnr := T.na_Board_rows
    have hnm := T.na_Board_marks
    have hnb := T.na_Board_begin
    have hcK := T.cls_Book
    have hnh := T.na_Book_held
    obtain ⟨a, rfl, ha⟩ := rows_open hv
    have h9 := hg.h9
    have gl := hg.len
    walk_at "rd"
    intro fd hfd
    have nfr : fd ≠ r := fun z => by obtain ⟨n, hn⟩ := hr0; rw [z, hn] at hfd; cases hfd
    have ha1 := upd_old (u := .lst []) ha hfd
    have hr1 := hr0.new (o := .lst []) hfd
    walk_at "rd"
    refine f_T (fun i σ H' => (∃ a3 a4, σ = [some (.ref r), some (.ref a), some (.ref fd), a3, a4]) ∧ Sb r H H' ∧ RestAt H' r ∧ ∃ m : Grid, H' fd = some (.lst (m.map fun t => V.str (mk t))) ∧ m.length = i ∧ (∀ l ∈ m, l.length = w) ∧ ∀ l ∈ m, ∀ c ∈ l, c ∈ markL)
      ⟨⟨_, _, rfl⟩, Sb.same (Same.new hfd), hr1, [], upd_same, rfl, fun l m => (by cases m), fun l m => (by cases m)⟩ (fun i σ H' _ pv => SqT.of (pv.2.1.tup hr0 ha)) (fun i x σ H2 hi pv => ?_) (fun σ H2 pv => ?_)
    rotate_left
    · obtain ⟨⟨a3, a4, rfl⟩, s2, r2, m, f1, f2, f3, f4⟩ := pv
      rw [List.length_map] at f2
      walk_at "rd"
      refine k_tupL f1 fun p hp => ?_
      exact hQ (.ref p) m _ (s2.trans (Sb.same (Same.new hp))) (r2.new hp) (rows_mk upd_same) ⟨by rw [f2, gl], f3, f4⟩
    obtain ⟨⟨a3, a4, rfl⟩, s2, r2, m, f1, f2, f3, f4⟩ := pv
    rw [List.getElem?_map] at hi
    obtain ⟨l, el, rfl⟩ := Option.map_eq_some_iff.mp hi
    have nl : l.length = w := hg.row _ (List.mem_of_getElem? el)
    have w9 := hg.w9
    have hi2 := (List.getElem?_eq_some_iff.mp el).1
    walk_at "rd"
    refine c_marks (fun c => c ∈ markL) r2 (by omega) (fun c mc H3 P R s3 r3 hP => ?_) (fun D H3 ms nD s3 r3 k1 k2 k3 => ?_)
    · walk_at "rd"
      refine ⟨rfl, ?_⟩
      walk_at "rd"
      refine k_mulS (m := List.replicate 12 46) (by decide) (by decide) (by decide) (by decide +kernel) ?_
      refine k_addS (by decide) ?_
      walk_at "rd"
      refine k_dig (.refl _ _) r3 (by decide) (by decide) fun d H4 d18 s4 s4' r4 => ?_
      have hd : d < ([50, 51, 52, 98, 99, 100] ++ List.replicate 12 46 : List Nat).length := by show d < 18; omega
      refine k_ixS (c := ([50, 51, 52, 98, 99, 100] ++ List.replicate 12 46 : List Nat)[d]) (by decide) (List.getElem?_eq_getElem hd) ?_
      have hall : ∀ c ∈ ([50, 51, 52, 98, 99, 100] ++ List.replicate 12 46 : List Nat), c ∈ markL := by decide
      exact hP _ _ s4 r4 (hall _ (List.getElem_mem hd))
    have f1' := s3 _ _ nfr f1
    walk_at "rd"
    have k1' : H3 D = some (.lst ((ms.map fun c => [c]).map fun t => V.str (mk t))) := by rw [List.map_map]; exact k1
    refine k_join (.inl k1') (by rw [flat_single, List.map_id']; omega) ?_
    rw [flat_single, List.map_id']
    walk_at "rd"
    refine k_app f1' (by rw [List.length_map]; omega) ?_
    refine ⟨⟨_, _, rfl⟩, (s2.trans s3).wrn hfd, ?_, m ++ [ms], ?_, by rw [List.length_append, f2]; rfl, fun l m => ?_, fun l m => ?_⟩
    · obtain ⟨n, hn⟩ := r3
      exact ⟨n, by rw [upd_ne (Ne.symm nfr)]; exact hn⟩
    · rw [upd_same, List.map_append]; rfl
    · rcases List.mem_append.mp m with m | m
      · exact f3 l m
      · rw [List.mem_singleton.mp m, k2, nl]
    · rcases List.mem_append.mp m with m | m
      · exact f4 l m
      · rw [List.mem_singleton.mp m]; exact k3

theorem ok_law_begin {P : Program} {wd : World} {K : PySem.W.Frag} {mg : Str → Option Value} {bas : Heap} (T : Tx K mg) (c_law_take : DefOk P wd K mg bas CX0 "_law_take" 1 ["_law_rest_here", "_law_base"] spTake) :
    DefOk P wd K mg bas CX0 "_law_begin" 2 ["_law_rest_here", "_law_rows_here"] spBegin := by
  refine def0 T.fn_law_begin sc_law_begin bp_law_begin (fun vs H Q E h => ?_) (fun f cdv A outer s H vs Q E hr h => ?_)
  · obtain ⟨r, v, g, h, w, rfl, ⟨n0, hr0⟩, hv, hg, hQ⟩ := h
    rfl
  · obtain ⟨r, v, g, h, w, rfl, ⟨n0, hr0⟩, hv, hg, hQ⟩ := h
    refine ⟨_, (pss_cons (ps_set (i := 2) nd_law_begin rfl (Or.inl rfl) (pe_fn c_law_take (hr.mono (by decide)) pass0 (pa_cons (pv 0) (pa_cons (pe_op op_mul (pe_callB b_lenQ rfl T.f_len (by decide +kernel) (pa_cons (pv 1) pa_nil)) (pe_callB b_lenT rfl T.f_len (by decide +kernel) (pa_cons (pe_ix ix_tup (pv 1) pe_int (fun _ _ => rfl)) pa_nil))) pa_nil))))
      (pss_one (ps_ret (pe_tup (pa_cons (pe_op op_fdiv (pv 2) (pe_callB b_lenT rfl T.f_len (by decide +kernel) (pa_cons (pe_ix ix_tup (pv 1) pe_int (fun _ _ => rfl)) pa_nil))) (pa_cons (pe_op op_mod (pv 2) (pe_callB b_lenT rfl T.f_len (by decide +kernel) (pa_cons (pe_ix ix_tup (pv 1) pe_int (fun _ _ => rfl)) pa_nil))) pa_nil)))))), ?_⟩
    have hcB := T.cls_Board
    have hnr := T.na_Board_rows
    have hnm := T.na_Board_marks
    have hnb := T.na_Board_begin
    have hcK := T.cls_Book
    have hnh := T.na_Book_held
    obtain ⟨a, rfl, ha⟩ := rows_open hv
    obtain ⟨l0, e0, n0'⟩ := hg.top
    have e0' := gmap e0
    have hl : (g.map fun l => V.str (mk l)).length = h := by rw [List.length_map, hg.len]
    have h1 := hg.h1
    have h9 := hg.h9
    have w1 := hg.w1
    have w9 := hg.w9
    walk_at "rd"
    refine k_lenT (by omega) ?_
    rw [hl, n0']
    refine k_I (Or.inl ⟨by omega, by omega⟩) ?_
    walk_at "rd"
    have hpos : (0 : Int) < (h : Int) * (w : Int) := Int.mul_pos (by omega) (by omega)
    have hle : (h : Int) * (w : Int) ≤ 81 := by
      have : h * w ≤ 9 * 9 := Nat.mul_le_mul h9 w9
      have e : (h : Int) * (w : Int) = ((h * w : Nat) : Int) := (Int.natCast_mul h w).symm
      rw [e]; omega
    refine ⟨r, n0, _, rfl, hr0, hpos, by omega, fun d n1 d0 d1 => ?_⟩
    have s1 : Sb r H (upd H r (.lst [.int n1])) := (Sb.refl _ _).wr
    have g1 : (upd H r (.lst [.int n1])) r = some _ := upd_same
    have ha1 : upd H r (.lst [.int n1]) a = _ := (s1 a _ (fun z => by rw [z, hr0] at ha; cases ha) ha)
    generalize upd H r (.lst [.int n1]) = H1 at s1 g1 ha1
    obtain ⟨j, rfl⟩ := Int.eq_ofNat_of_zero_le d0
    have hj : j < h * w := by
      have e : (h : Int) * (w : Int) = ((h * w : Nat) : Int) := (Int.natCast_mul h w).symm
      rw [e] at d1; omega
    walk_at "rd"
    refine k_lenT (by omega) ?_
    rw [n0']
    refine k_I ⟨by omega, by omega⟩ ?_
    walk_at "rd"
    refine k_lenT (by omega) ?_
    rw [n0']
    refine k_I (show (0 : Int) < _ by omega) ?_
    walk_at "rd"
    intro p hp
    have e1 : (j : Int) / (w : Int) = ((j / w : Nat) : Int) := (Int.natCast_ediv j w).symm
    have e2 : (j : Int) % (w : Int) = ((j % w : Nat) : Int) := (Int.natCast_emod j w).symm
    rw [e1, e2]
    have hrn : upd H1 p (.tup [.int ((j / w : Nat) : Int), .int ((j % w : Nat) : Int)]) r = some _ := upd_old g1 hp
    refine hQ (.ref p) (j / w, j % w) _ (s1.trans (Sb.same (Same.new hp))) ⟨_, hrn⟩ (cell_mk (c := (j / w, j % w)) upd_same) ?_ ?_
    · exact Nat.div_lt_of_lt_mul (by rw [Nat.mul_comm]; exact hj)
    · exact Nat.mod_lt _ (by omega)

theorem ok_law_grid {P : Program} {wd : World} {K : PySem.W.Frag} {mg : Str → Option Value} {bas : Heap} (T : Tx K mg)  :
    DefOk P wd K mg bas CX0 "_law_grid" 1 ["_law_rows_here", "_law_laying"] spGrid := by
  refine def0 T.fn_law_grid sc_law_grid bp_law_grid (fun vs H Q E h => ?_) (fun f cdv A outer s H vs Q E hr h => ?_)
  · obtain ⟨v, u, g, h, w, L, rfl, hv, hg, hL, ho, hQ⟩ := h
    rfl
  · obtain ⟨v, u, g, h, w, L, rfl, hv, hg, hL, ho, hQ⟩ := h
    refine ⟨_, (pss_cons (ps_setLc (i := 2) (own := [("_law_row", 3)]) (g := (gName 3)) (tt := tYes) rfl nd_law_grid rfl rfl (sw_true rfl rfl rfl (by decide +kernel)) (pi_tup (pv 0)) (blkOk_by (own := [("_law_row", 3)]) (N := N_law_grid) (sc := (defScope s_law_grid)) (by decide +kernel)) (fun _ _ _ _ _ => (pg_name (i := 3) nd_law_grid rfl (Or.inl rfl))) (fun _ _ _ _ _ => pts_nil) (fun _ _ _ _ _ => (pe_callTy (b_lstS rfl) rfl T.f_list (by decide +kernel) (pa_cons (pv 3) pa_nil))))
      (pss_cons (ps_for PassesOwn.never rfl (pi_tup (pv 1)) (pg_tup rfl (pgs_cons (pg_name (i := 3) nd_law_grid rfl (Or.inl rfl)) (pgs_cons (pg_name (i := 4) nd_law_grid rfl (Or.inl rfl)) (pgs_cons (pg_name (i := 5) nd_law_grid rfl (Or.inl rfl)) pgs_nil)))) (pss_one (ps_asg (pv 5) (pg_sub (pe_ix ix_list (pv 2) (pv 3) (fun _ _ => rfl)) (pv 4) set_list))))
      (pss_one (ps_ret (pv 2))))), ?_⟩
    have hcB := T.cls_Board
    have hnr := T.na_Board_rows
    have hnm := T.na_Board_marks
    have hnb := T.na_Board_begin
    have hcK := T.cls_Book
    have hnh := T.na_Book_held
    obtain ⟨a, rfl, ha⟩ := rows_open hv
    obtain ⟨p, vs, rfl, hp, hv⟩ := lay_open hL
    have g9 := hg.h9
    have gl := hg.len
    have hvl := map_len hv
    walk_at "rd"
    refine c_grid ha (by omega) (fun r mr H1 P R hP => ?_) (fun D H1 hN => ?_)
    · have r9 := hg.w9
      have rl := hg.row r mr
      walk_at "rd"
      refine ⟨rfl, ?_⟩
      walk_at "rd"
      exact ⟨r, rfl, by omega, fun l hl => hP l hl⟩
    have hp1 := hN.2.1 _ _ hp
    walk_at "rd"
    refine f_T (fun i σ H' => (∃ a3 a4 a5, σ = [some (.ref a), some (.ref p), some (.ref D), a3, a4, a5]) ∧ GridN H H' D (laidM g (L.take i))) ⟨⟨_, _, _, rfl⟩, hN⟩ (fun i σ H' _ pv => SqT.of (pv.2.2.1 _ _ hp)) (fun i x σ H2 hi pv => ?_) (fun σ H2 pv => ?_)
    · obtain ⟨⟨a3, a4, a5, rfl⟩, hN2⟩ := pv
      obtain ⟨t, et, ht⟩ := map_get hv hi
      obtain ⟨q, rfl, hq⟩ := tri_open (ht.same hN2.2.1)
      obtain ⟨k1, k2, k3⟩ := ho.inn t (List.mem_of_getElem? et)
      have ok := hg.laid (L.take i) fun z mz => ho.inn z (List.mem_of_mem_take mz)
      have er : (laidM g (L.take i))[t.1]? = some ((laidM g (L.take i))[t.1]'(by rw [ok.len]; exact k1)) := List.getElem?_eq_getElem _
      obtain ⟨qs, z, z1, z2, z3, z4⟩ := hN2.grid.row er
      have rl : ((laidM g (L.take i))[t.1]'(by rw [ok.len]; exact k1)).length = w := ok.row _ (List.getElem_mem _)
      walk_at "rd"
      refine k_ixL z1 z3 ?_
      walk_at "rd"
      refine k_set z4 (by rw [List.length_map, rl]; exact k2) ?_
      refine ⟨⟨_, _, _, rfl⟩, ?_⟩
      rw [laid_take et]
      exact hN2.set er z1 z3 (by rw [rl]; exact k2)
    obtain ⟨⟨a3, a4, a5, rfl⟩, hN2⟩ := pv
    rw [List.take_of_length_le (by omega)] at hN2
    walk_at "rd"
    exact hQ D _ H2 hN2.2.1 hN2.1 hN2.grid (hg.laid L ho.inn)

theorem ok_law_run {P : Program} {wd : World} {K : PySem.W.Frag} {mg : Str → Option Value} {bas : Heap} (T : Tx K mg)  :
    DefOk P wd K mg bas CX0 "_law_run" 1 ["_law_grid_here", "_law_row", "_law_column", "_law_way"] spRun := by
  refine def0 T.fn_law_run sc_law_run bp_law_run (fun vs H Q E h => ?_) (fun f cdv A outer s H vs Q E hr h => ?_)
  · obtain ⟨p, G, h, w, r, c, way, rfl, hG, hg, hr1, hc1, hw1, hQ⟩ := h
    rfl
  · obtain ⟨p, G, h, w, r, c, way, rfl, hG, hg, hr1, hc1, hw1, hQ⟩ := h
    refine ⟨_, (pss_cons (ps_while PassesOwn.never (PW.pt (pw_and (pt_cmpR op_ge (pv 1) (pv 3) (nomark _)) (pw_and (pt_cmpR op_ge (pv 2) (pe_op op_sub pe_int (pv 3)) (nomark _)) (pw_and1 (pt_cmpR op_ne (pe_ix ix_list (pe_ix ix_list (pv 0) (pe_op op_sub (pv 1) (pv 3)) (fun _ _ => rfl)) (pe_op op_add (pe_op op_sub (pv 2) pe_int) (pv 3)) (fun _ _ => rfl)) (pe_lit [46] (by decide +kernel)) (nomark _)))))) (pss_cons (ps_set (i := 1) nd_law_run rfl (Or.inl rfl) (pe_op op_sub (pv 1) (pv 3)))
      (pss_one (ps_set (i := 2) nd_law_run rfl (Or.inl rfl) (pe_op op_add (pe_op op_sub (pv 2) pe_int) (pv 3))))))
      (pss_cons (ps_set (i := 4) nd_law_run rfl (Or.inl rfl) (pe_lit [] (by decide +kernel)))
      (pss_cons (ps_set (i := 5) nd_law_run rfl (Or.inl rfl) (pe_tup (pa_cons (pv 1) (pa_cons (pv 2) pa_nil))))
      (pss_cons (ps_while PassesOwn.never (PW.pt (pw_and (pt_cmpR op_lt (pe_ix ix_tup (pv 5) pe_int (fun _ _ => rfl)) (pe_callB b_lenQ rfl T.f_len (by decide +kernel) (pa_cons (pv 0) pa_nil)) (nomark _)) (pw_and (pt_cmpR op_lt (pe_ix ix_tup (pv 5) pe_int (fun _ _ => rfl)) (pe_callB b_lenQ rfl T.f_len (by decide +kernel) (pa_cons (pe_ix ix_list (pv 0) pe_int (fun _ _ => rfl)) pa_nil)) (nomark _)) (pw_and1 (pt_cmpR op_ne (pe_ix ix_list (pe_ix ix_list (pv 0) (pe_ix ix_tup (pv 5) pe_int (fun _ _ => rfl)) (fun _ _ => rfl)) (pe_ix ix_tup (pv 5) pe_int (fun _ _ => rfl)) (fun _ _ => rfl)) (pe_lit [46] (by decide +kernel)) (nomark _)))))) (pss_cons (ps_set (i := 4) nd_law_run rfl (Or.inl rfl) (pe_op o_addS (pv 4) (pe_ix ix_list (pe_ix ix_list (pv 0) (pe_ix ix_tup (pv 5) pe_int (fun _ _ => rfl)) (fun _ _ => rfl)) (pe_ix ix_tup (pv 5) pe_int (fun _ _ => rfl)) (fun _ _ => rfl))))
      (pss_one (ps_set (i := 5) nd_law_run rfl (Or.inl rfl) (pe_tup (pa_cons (pe_op op_add (pe_ix ix_tup (pv 5) pe_int (fun _ _ => rfl)) (pv 3)) (pa_cons (pe_op op_sub (pe_op op_add (pe_ix ix_tup (pv 5) pe_int (fun _ _ => rfl)) pe_int) (pv 3)) pa_nil)))))))
      (pss_one (ps_ret (pe_tup (pa_cons (pv 1) (pa_cons (pv 2) (pa_cons (pv 3) (pa_cons (pv 4) pa_nil))))))))))), ?_⟩
    have hcB := T.cls_Board
    have hnr := T.na_Board_rows
    have hnm := T.na_Board_marks
    have hnb := T.na_Board_begin
    have hcK := T.cls_Book
    have hnh := T.na_Book_held
    have h9 := hg.h9
    have w9 := hg.w9
    obtain ⟨vs0, hp, hv0⟩ : ∃ vs0, H p = some (.lst vs0) ∧ vs0.length = h := by
      obtain ⟨qs, z, z1, z2, _⟩ := hG.row (show G[r]? = some (G[r]'(by rw [hg.len]; exact hr1)) from List.getElem?_eq_getElem _)
      exact ⟨qs, z1, by rw [z2, hg.len]⟩
    walk_at "rd"
    refine k_while (fun m σ H' => H' = H ∧ ∃ r' c' : Nat, σ = [some (.ref p), some (.int (r' : Int)), some (.int (c' : Int)), some (.int (way : Int)), none, none] ∧ r' < h ∧ c' < w ∧ m = r' + c') (r + c) ⟨rfl, r, c, rfl, hr1, hc1, rfl⟩ (fun n σ H' TT FF kT kF pv => ?_)
    obtain ⟨rfl, r', c', rfl, hr', hc', rfl⟩ := pv
    have hF : FF H' := by
      refine kF _ ?_
      walk_at "rd"
      intro hpA hpA0
      refine k_while (fun m σ H2 => Same H' H2 ∧ ∃ (r2 c2 : Nat) (l : List Nat) (ha : Addr), σ = [some (.ref p), some (.int (r' : Int)), some (.int (c' : Int)), some (.int (way : Int)), some (.str (mk l)), some (.ref ha)] ∧ H2 ha = some (.tup [.int (r2 : Int), .int (c2 : Int)]) ∧ r2 ≤ h ∧ c2 ≤ w ∧ l.length + r' + c' = r2 + c2 ∧ (way = 1 → c2 = c') ∧ (way = 0 → r2 = r') ∧ r' ≤ r2 ∧ c' ≤ c2 ∧ (∀ x ∈ l, isSg x = true) ∧ m = h + w - r2 - c2) (h + w - r' - c')
        ⟨Same.new hpA0, r', c', [], hpA, rfl, upd_same, by omega, by omega, by simp, fun _ => rfl, fun _ => rfl, Nat.le_refl _, Nat.le_refl _, fun x m => (by cases m), rfl⟩ (fun n σ H2 T2 F2 kT2 kF2 pv => ?_)
      obtain ⟨s2, r2, c2, l, ha, rfl, hha, b1, b2, b3, b4, b5, b6, b7, hsg, rfl⟩ := pv
      have hl9 : l.length ≤ 9 := by
        rcases (show way = 0 ∨ way = 1 by omega) with e | e
        · have := b5 e; omega
        · have := b4 e; omega
      have hp2 := s2 _ _ hp
      have hF2 : F2 H2 := by
        refine kF2 _ ?_
        walk_at "rd"
        intro pu hpu
        exact hQ (.ref pu) (r', c', way, l) _ (s2.trans (Same.new hpu)) (wrd_mk upd_same) hl9 hsg
      walk_at "rd"
      rw [hv0]
      refine k_ited (fun q1 => ?_) (fun q1 => ?_)
      rotate_left
      · exact hF2
      walk_at "rd"
      obtain ⟨qs0, q0, z1, z2, z3, z4⟩ := (GridAt.same s2 hG).row (show G[0]? = some (G[0]'hg.pos) from List.getElem?_eq_getElem _)
      refine k_ixL0 z1 z3 ?_
      walk_at "rd"
      rw [List.length_map, hg.row _ (List.getElem_mem _)]
      refine k_ited (fun q2 => ?_) (fun q2 => ?_)
      rotate_left
      · exact hF2
      have hr2 : r2 < h := by omega
      have hc2 : c2 < w := by omega
      have er : G[r2]? = some (G[r2]'(by rw [hg.len]; exact hr2)) := List.getElem?_eq_getElem _
      obtain ⟨qs1, q1', y1, y2, y3, y4⟩ := (GridAt.same s2 hG).row er
      have rl := hg.row _ (List.getElem_mem (show r2 < G.length by rw [hg.len]; exact hr2))
      have rs := hg.sg _ (List.getElem_mem (show r2 < G.length by rw [hg.len]; exact hr2))
      generalize G[r2]'(by rw [hg.len]; exact hr2) = row at er y4 rl rs
      have ec : (row.map chV)[c2]? = some (.str (mk [row[c2]'(by omega)])) := by rw [List.getElem?_map, List.getElem?_eq_getElem (show c2 < row.length by omega)]; rfl
      have cs := rs _ (List.getElem_mem (show c2 < row.length by omega))
      generalize row[c2]'(by omega) = x at ec cs
      walk_at "rd"
      refine k_ixL y1 y3 ?_
      walk_at "rd"
      refine k_ixL y4 ec ?_
      walk_at "rd"
      refine k_itend (fun q5 => ?_) (fun q5 => ?_)
      rotate_left
      · exact hF2
      have hx : isSg x = true := cs.resolve_left fun e => q5 (by rw [e])
      refine kT2 _ ?_
      walk_at "rd"
      refine k_ixL y1 y3 ?_
      walk_at "rd"
      refine k_ixL y4 ec ?_
      refine k_addS (by rw [List.length_singleton]; omega) ?_
      walk_at "rd"
      intro pn hpn
      have e1 : (r2 : Int) + (way : Int) = ((r2 + way : Nat) : Int) := (Int.natCast_add r2 way).symm
      have e2 : (c2 : Int) + 1 - (way : Int) = ((c2 + 1 - way : Nat) : Int) := by omega
      rw [e1, e2]
      refine ⟨_, ?_, s2.trans (Same.new hpn), r2 + way, c2 + 1 - way, l ++ [x], pn, rfl, upd_same, by omega, by omega, by rw [List.length_append, List.length_singleton]; omega, by omega, by omega, by omega, by omega, fun y m => ?_, rfl⟩
      · omega
      · rcases List.mem_append.mp m with m | m
        · exact hsg y m
        · rw [List.mem_singleton.mp m]; exact hx
    walk_at "rd"
    refine k_ited (fun q1 => ?_) (fun q1 => ?_)
    rotate_left
    · exact hF
    walk_at "rd"
    refine k_ited (fun q2 => ?_) (fun q2 => ?_)
    rotate_left
    · exact hF
    have er : G[r' - way]? = some (G[r' - way]'(by rw [hg.len]; omega)) := List.getElem?_eq_getElem _
    obtain ⟨qs1, q1', y1, y2, y3, y4⟩ := hG.row er
    have rl := hg.row _ (List.getElem_mem (show r' - way < G.length by rw [hg.len]; omega))
    have ec : ((G[r' - way]'(by rw [hg.len]; omega)).map chV)[c' - (1 - way)]? = some (.str (mk [(G[r' - way]'(by rw [hg.len]; omega))[c' - (1 - way)]'(by omega)])) := by rw [List.getElem?_map, List.getElem?_eq_getElem (by omega)]; rfl
    have e1 : (r' : Int) - (way : Int) = ((r' - way : Nat) : Int) := by omega
    have e2 : (c' : Int) - 1 + (way : Int) = ((c' - (1 - way) : Nat) : Int) := by omega
    walk_at "rd"
    rw [e1]
    refine k_ixL y1 y3 ?_
    walk_at "rd"
    rw [e2]
    refine k_ixL y4 ec ?_
    walk_at "rd"
    refine k_itend (fun q5 => ?_) (fun q5 => ?_)
    rotate_left
    · exact hF
    refine kT _ ?_
    walk_at "rd"
    rw [e1, e2]
    exact ⟨_, by omega, rfl, r' - way, c' - (1 - way), rfl, by omega, by omega, rfl⟩

theorem ok_law_words {P : Program} {wd : World} {K : PySem.W.Frag} {mg : Str → Option Value} {bas : Heap} (T : Tx K mg) (c_law_grid : DefOk P wd K mg bas CX0 "_law_grid" 1 ["_law_rows_here", "_law_laying"] spGrid) (c_law_run : DefOk P wd K mg bas CX0 "_law_run" 1 ["_law_grid_here", "_law_row", "_law_column", "_law_way"] spRun) :
    DefOk P wd K mg bas CX0 "_law_words" 2 ["_law_rows_here", "_law_laying"] spWords := by
  refine def0 T.fn_law_words sc_law_words bp_law_words (fun vs H Q E h => ?_) (fun f cdv A outer s H vs Q E hr h => ?_)
  · obtain ⟨v, u, g, h, w, L, rfl, hv, hg, hL, ho, hQ⟩ := h
    rfl
  · obtain ⟨v, u, g, h, w, L, rfl, hv, hg, hL, ho, hQ⟩ := h
    refine ⟨_, (pss_cons (ps_set (i := 2) nd_law_words rfl (Or.inl rfl) (pe_fn c_law_grid (hr.mono (by decide)) pass0 (pa_cons (pv 0) (pa_cons (pv 1) pa_nil))))
      (pss_cons (ps_set (i := 3) nd_law_words rfl (Or.inl rfl) (pe_callTy b_intB rfl T.f_int (by decide +kernel) (pa_cons (pe_cmpR op_ne (pe_ix ix_tup (pe_ix ix_tup (pv 1) pe_int (fun _ _ => rfl)) pe_int (fun _ _ => rfl)) (pe_ix ix_tup (pe_ix ix_tup (pv 1) (pe_un un_neg pe_int) (fun _ _ => rfl)) pe_int (fun _ _ => rfl)) (nomark _)) pa_nil)))
      (pss_cons (ps_set (i := 4) nd_law_words rfl (Or.inl rfl) (pe_lst (pa_cons (pe_fn c_law_run (hr.mono (by decide)) pass0 (pa_cons (pv 2) (pa_cons (pe_ix ix_tup (pe_ix ix_tup (pv 1) pe_int (fun _ _ => rfl)) pe_int (fun _ _ => rfl)) (pa_cons (pe_ix ix_tup (pe_ix ix_tup (pv 1) pe_int (fun _ _ => rfl)) pe_int (fun _ _ => rfl)) (pa_cons (pv 3) pa_nil))))) pa_nil)))
      (pss_cons (ps_for PassesOwn.never rfl (pi_tup (pv 1)) (pg_tup rfl (pgs_cons (pg_name (i := 5) nd_law_words rfl (Or.inl rfl)) (pgs_cons (pg_name (i := 6) nd_law_words rfl (Or.inl rfl)) (pgs_cons (pg_name (i := 7) nd_law_words rfl (Or.inl rfl)) pgs_nil)))) (pss_one (ps_expr (pe_bm PySem.F.plainAttrs_list PySem.F.slot_list_append PySem.F.type_list_append mt_append (pv 4) (pa_cons (pe_fn c_law_run (hr.mono (by decide)) pass0 (pa_cons (pv 2) (pa_cons (pv 5) (pa_cons (pv 6) (pa_cons (pe_op op_sub pe_int (pv 3)) pa_nil))))) pa_nil)))))
      (pss_one (ps_ret (pe_callTy b_tupL rfl T.f_tuple (by decide +kernel) (pa_cons (pe_lc (own := [("_law_run_here", 8)]) (g := (gName 8)) rfl nd_law_words (pi_list (pv 4)) (blkOk_by (own := [("_law_run_here", 8)]) (N := N_law_words) (sc := (defScope s_law_words)) (by decide +kernel)) (fun _ _ _ _ _ => (pg_name (i := 8) nd_law_words rfl (Or.inl rfl))) (fun _ _ _ _ _ => (pts_one (pt_cmpR op_gt (pe_callB b_lenT rfl T.f_len (by decide +kernel) (pa_cons (pe_ix (ix_of (rIxT K) ix_tup rfl) (pv 8) pe_int (fun _ _ => rfl)) pa_nil)) pe_int (nomark _)))) (fun _ _ _ _ _ => (pv 8))) pa_nil)))))))), ?_⟩
    have hcB := T.cls_Board
    have hnr := T.na_Board_rows
    have hnm := T.na_Board_marks
    have hnb := T.na_Board_begin
    have hcK := T.cls_Book
    have hnh := T.na_Book_held
    obtain ⟨p, vs, rfl, hp, hvs⟩ := lay_open hL
    have hvl := map_len hvs
    have l7 := ho.few
    obtain ⟨x0, e0, hx0⟩ := map_head (d := (0, 0, 0)) hvs ho.ne
    obtain ⟨x1, e1, hx1⟩ := map_last (d := (0, 0, 0)) hvs ho.ne
    obtain ⟨p0, rfl, hp0⟩ := tri_open hx0
    obtain ⟨p1, rfl, hp1⟩ := tri_open hx1
    obtain ⟨k1, k2, k3⟩ := ho.inn _ (headD_mem (0, 0, 0) ho.ne)
    walk_at "rd"
    refine ⟨v, _, g, h, w, L, rfl, hv, hg, hL, ho, fun pg G H1 s1 npg hG hGk => ?_⟩
    have hp' := s1 _ _ hp
    have hp0' := s1 _ _ hp0
    have hp1' := s1 _ _ hp1
    walk_at "rd"
    obtain ⟨li, eli, hli⟩ : ∃ li : Nat, (if (!decide (((L.headD (0, 0, 0)).1 : Int) = ((L.getLastD (0, 0, 0)).1 : Int))) = true then (1 : Int) else 0) = (li : Int) ∧ li ≤ 1 := by
      by_cases q : ((L.headD (0, 0, 0)).1 : Int) = ((L.getLastD (0, 0, 0)).1 : Int)
      · exact ⟨0, by rw [decide_eq_true q]; rfl, by decide⟩
      · exact ⟨1, by rw [decide_eq_false q]; rfl, by decide⟩
    rw [eli]
    refine ⟨pg, G, h, w, _, _, li, rfl, hG, hGk, k1, k2, hli, fun u0 x H2 s2 hu0 hx9 hxs => ?_⟩
    walk_at "rd"
    intro fd hfd
    have hp2 := s2 _ _ hp'
    have hfd0 : H fd = none := Same.fr (s1.trans s2) hfd
    have hfd1 : H1 fd = none := Same.fr s2 hfd
    have s3 : Same H1 (upd H2 fd (.lst [u0])) := s2.trans (Same.new hfd)
    walk_at "rd"
    refine e_T (upd_old hp2 hfd) ?_
    refine f_T (fun i σ H' => (∃ a5 a6 a7 a8, σ = [some v, some (.ref p), some (.ref pg), some (.int (li : Int)), some (.ref fd), a5, a6, a7, a8]) ∧ Same H1 H' ∧ ∃ xs : List Wrd, LsAt H' fd (xs.map wrdD) ∧ xs.length = i + 1 ∧ ∀ x ∈ xs, x.2.2.2.length ≤ 9 ∧ ∀ c ∈ x.2.2.2, isSg c = true)
      ⟨⟨_, _, _, _, rfl⟩, s3, [x], ⟨[u0], upd_same, aa_cons (hu0.same (Same.new hfd)) aa_nil⟩, rfl, fun y m => by rw [List.mem_singleton.mp m]; exact ⟨hx9, hxs⟩⟩ (fun i σ H' _ pv => SqT.of (pv.2.1 _ _ hp')) (fun i y σ H3 hi pv => ?_) (fun σ H3 pv => ?_)
    · obtain ⟨⟨a5, a6, a7, a8, rfl⟩, s4, xs, ⟨ys, z1, z2⟩, z3, z4⟩ := pv
      obtain ⟨t, et, ht⟩ := map_get hvs hi
      obtain ⟨q, rfl, hq⟩ := tri_open (ht.same (s1.trans s4))
      obtain ⟨j1, j2, j3⟩ := ho.inn t (List.mem_of_getElem? et)
      have hi2 := (List.getElem?_eq_some_iff.mp et).1
      have ew : (1 : Int) - (li : Int) = ((1 - li : Nat) : Int) := by omega
      walk_at "rd"
      rw [ew]
      refine ⟨pg, G, h, w, _, _, 1 - li, rfl, GridAt.same s4 hG, hGk, j1, j2, by omega, fun u2 x2 H4 s5 hu2 h9 hs => ?_⟩
      have z1' := s5 _ _ z1
      walk_at "rd"
      refine k_app z1' (by rw [map_len z2]; omega) ?_
      refine ⟨⟨_, _, _, _, rfl⟩, Same.wr (s4.trans s5) hfd1, xs ++ [x2], ⟨_, upd_same, ?_⟩, by rw [List.length_append, z3]; rfl, fun y m => ?_⟩
      · rw [List.map_append]
        exact (AtAll.snoc (z2.same s5) hu2).mono (Tk.wr z1' nofun)
      · rcases List.mem_append.mp m with m | m
        · exact z4 y m
        · rw [List.mem_singleton.mp m]; exact ⟨h9, hs⟩
    obtain ⟨⟨a5, a6, a7, a8, rfl⟩, s4, xs, ⟨ys, z1, z2⟩, z3, z4⟩ := pv
    have zl := map_len z2
    walk_at "rd"
    refine c_L (flt xs (fun x => decide (1 < x.2.2.2.length)) wrdD) z1 (by omega) rfl (fun i y H4 hi s5 => ?_) (fun D H4 zs f1 f2 f3 f4 => ?_)
    · obtain ⟨x2, ex, hx2⟩ := map_get z2 hi
      obtain ⟨q, rfl, hq⟩ := wrd_open (hx2.same s5)
      have h9 := (z4 x2 (List.mem_of_getElem? ex)).1
      intro P R h1 h2
      walk_at "rd"
      refine ⟨rfl, ?_⟩
      walk_at "rd"
      refine k_ixT3 hq rfl ?_
      walk_at "rd"
      refine k_lenT (by omega) ?_
      walk_at "rd"
      refine k_ited (fun q => ?_) (fun q => ?_)
      · walk_at "rd"
        exact h1 _ _ _ (.refl _) (flt_yes ex (decide_eq_true (by omega))) (hx2.same s5)
      · exact h2 _ (.refl _) (flt_no ex (decide_eq_false (by omega)))
    rw [flt_all _ _ _ (by omega)] at f4
    walk_at "rd"
    refine k_tupL f3 fun pt hpt => ?_
    refine hQ (.ref pt) _ _ (((s1.trans s4).trans f2).trans (Same.new hpt)) (at_tup upd_same (f4.same (Same.new hpt))) ?_ fun y m => ?_
    · exact Nat.le_trans (List.length_filter_le _ _) (by omega)
    · obtain ⟨m1, m2⟩ := List.mem_filter.mp m
      exact ⟨of_decide_eq_true m2, (z4 y m1).1, (z4 y m1).2⟩

theorem ok_law_is_near {P : Program} {wd : World} {K : PySem.W.Frag} {mg : Str → Option Value} {bas : Heap} (T : Tx K mg)  :
    DefOk P wd K mg bas CX0 "_law_is_near" 1 ["_law_rows_here", "_law_row", "_law_column"] spIsNear := by
  refine def0 T.fn_law_is_near sc_law_is_near bp_law_is_near (fun vs H Q E h => ?_) (fun f cdv A outer s H vs Q E hr h => ?_)
  · obtain ⟨v, r, c, g, h, w, rfl, hv, hg, hQ⟩ := h
    rfl
  · obtain ⟨v, r, c, g, h, w, rfl, hv, hg, hQ⟩ := h
    refine ⟨_, (pss_cons (ps_for PassesOwn.never rfl (pi_list (pe_lst (pa_cons (pe_tup (pa_cons (pe_op op_sub (pv 1) pe_int) (pa_cons (pv 2) pa_nil))) (pa_cons (pe_tup (pa_cons (pv 1) (pa_cons (pe_op op_sub (pv 2) pe_int) pa_nil))) (pa_cons (pe_tup (pa_cons (pv 1) (pa_cons (pe_op op_add (pv 2) pe_int) pa_nil))) (pa_cons (pe_tup (pa_cons (pe_op op_add (pv 1) pe_int) (pa_cons (pv 2) pa_nil))) pa_nil)))))) (pg_name (i := 3) nd_law_is_near rfl (Or.inl rfl)) (pss_one (ps_if (PW.pt (pw_and (pt_chain op_le op_lt pe_int (pe_ix ix_tup (pv 3) pe_int (fun _ _ => rfl)) (pe_callB b_lenQ rfl T.f_len (by decide +kernel) (pa_cons (pv 0) pa_nil))) (pw_and (pt_chain op_le op_lt pe_int (pe_ix ix_tup (pv 3) pe_int (fun _ _ => rfl)) (pe_callB b_lenT rfl T.f_len (by decide +kernel) (pa_cons (pe_ix ix_tup (pv 0) pe_int (fun _ _ => rfl)) pa_nil))) (pw_and1 (pt_cmpR op_ne (pe_ix ix_str (pe_ix ix_tup (pv 0) (pe_ix ix_tup (pv 3) pe_int (fun _ _ => rfl)) (fun _ _ => rfl)) (pe_ix ix_tup (pv 3) pe_int (fun _ _ => rfl)) (fun _ _ => rfl)) (pe_lit [46] (by decide +kernel)) (nomark _)))))) (pss_one (ps_ret pe_bl)) pss_nil)))
      (pss_one (ps_ret pe_bl))), ?_⟩
    have hcB := T.cls_Board
    have hnr := T.na_Board_rows
    have hnm := T.na_Board_marks
    have hnb := T.na_Board_begin
    have hcK := T.cls_Book
    have hnh := T.na_Book_held
    obtain ⟨a, rfl, ha⟩ := rows_open hv
    obtain ⟨l0, e0, n0⟩ := hg.top
    have hl : (g.map fun l => V.str (mk l)).length = h := by rw [List.length_map, hg.len]
    have w9 := hg.w9
    walk_at "rd"
    intro p1 f1
    walk_at "rd"
    intro p2 f2
    walk_at "rd"
    intro p3 f3
    walk_at "rd"
    intro p4 f4
    walk_at "rd"
    intro p5 f5
    have s3 := ((((Same.new f1).trans (Same.new f2)).trans (Same.new f3)).trans (Same.new f4)).trans (Same.new (o := .lst [.ref p1, .ref p2, .ref p3, .ref p4]) f5)
    refine e_L upd_same ?_
    refine f_L (fun j σ H' => (∃ a3, σ = [some (.ref a), some (.int r), some (.int c), a3]) ∧ H' = (upd (upd (upd (upd (upd H p1 _) p2 _) p3 _) p4 _) p5 _)) ⟨⟨_, rfl⟩, rfl⟩ (fun i σ H' _ pv => by rw [pv.2]; exact SqL.of upd_same) (fun j y σ H3 hj pv => ?_) (fun σ H3 pv => ?_)
    rotate_left
    · obtain ⟨⟨a3, rfl⟩, rfl⟩ := pv
      walk_at "rd"
      exact hQ false _ s3
    obtain ⟨⟨a3, rfl⟩, hH⟩ := pv
    have hz : ∃ z i2 j2, y = .ref z ∧ H3 z = some (.tup [.int i2, .int j2]) := by
      rw [hH]
      match j, hj with
      | 0, hj => cases hj; exact ⟨_, _, _, rfl, (upd_old (upd_old (upd_old (upd_old upd_same f2) f3) f4) f5)⟩
      | 1, hj => cases hj; exact ⟨_, _, _, rfl, (upd_old (upd_old (upd_old upd_same f3) f4) f5)⟩
      | 2, hj => cases hj; exact ⟨_, _, _, rfl, (upd_old (upd_old upd_same f4) f5)⟩
      | 3, hj => cases hj; exact ⟨_, _, _, rfl, (upd_old upd_same f5)⟩
      | n + 4, hj => cases hj
    have s4 : Same H H3 := by rw [hH]; exact s3
    obtain ⟨z, i2, j2, rfl, hz⟩ := hz
    have ha3 := s4 _ _ ha
    have e0' := gmap e0
    have hend : ∀ a3, (∃ a3_1, [some (V.ref a), some (V.int r), some (V.int c), a3] = [some (V.ref a), some (V.int r), some (V.int c), a3_1]) ∧ H3 = _ := fun a3 => ⟨⟨_, rfl⟩, hH⟩
    walk_at "rd"
    refine k_ited (fun q1 => ?_) (fun q1 => ?_)
    rotate_left
    · walk_at "rd"
      exact hend _
    walk_at "rd"
    rw [hl]
    refine k_ited (fun q2 => ?_) (fun q2 => ?_)
    rotate_left
    · walk_at "rd"
      exact hend _
    walk_at "rd"
    refine k_ited (fun q3 => ?_) (fun q3 => ?_)
    rotate_left
    · walk_at "rd"
      exact hend _
    walk_at "rd"
    refine k_lenT (by omega) ?_
    rw [n0]
    walk_at "rd"
    refine k_ited (fun q4 => ?_) (fun q4 => ?_)
    rotate_left
    · walk_at "rd"
      exact hend _
    obtain ⟨i2, rfl⟩ := Int.eq_ofNat_of_zero_le q1
    obtain ⟨j2, rfl⟩ := Int.eq_ofNat_of_zero_le q3
    obtain ⟨l, e1, e2, e3⟩ := atN_get (r := i2) (c := j2) hg.row (by rw [hg.len]; omega) (by omega)
    walk_at "rd"
    refine k_ixT ha3 (gmap e1) ?_
    walk_at "rd"
    refine k_ixS (by omega) e3 ?_
    walk_at "rd"
    refine k_itend (fun q5 => ?_) (fun q5 => ?_)
    · walk_at "rd"
      exact hQ true _ s4
    · walk_at "rd"
      exact hend _

theorem ok_law_starts {P : Program} {wd : World} {K : PySem.W.Frag} {mg : Str → Option Value} {bas : Heap} (T : Tx K mg) (c_law_is_near : DefOk P wd K mg bas CX0 "_law_is_near" 1 ["_law_rows_here", "_law_row", "_law_column"] spIsNear) (c_law_take : DefOk P wd K mg bas CX0 "_law_take" 1 ["_law_rest_here", "_law_base"] spTake) :
    DefOk P wd K mg bas CX0 "_law_starts" 2 ["_law_rows_here", "_law_rest_here"] spStarts := by
  refine def0 T.fn_law_starts sc_law_starts bp_law_starts (fun vs H Q E h => ?_) (fun f cdv A outer s H vs Q E hr h => ?_)
  · obtain ⟨v, r, g, h, w, rfl, hr0, hv, hg, hex, hQ⟩ := h
    rfl
  · obtain ⟨v, r, g, h, w, rfl, hr0, hv, hg, hex, hQ⟩ := h
    refine ⟨_, (pss_cons (ps_set (i := 2) nd_law_starts rfl (Or.inl rfl) (pe_lst pa_nil))
      (pss_cons (ps_set (i := 3) nd_law_starts rfl (Or.inl rfl) (pe_lst pa_nil))
      (pss_cons (ps_for PassesOwn.never rfl (pi_range1 rfl T.f_range (pa_cons (pe_callB b_lenQ rfl T.f_len (by decide +kernel) (pa_cons (pv 0) pa_nil)) pa_nil)) (pg_name (i := 4) nd_law_starts rfl (Or.inl rfl)) (pss_one (ps_for PassesOwn.never rfl (pi_range1 rfl T.f_range (pa_cons (pe_callB b_lenT rfl T.f_len (by decide +kernel) (pa_cons (pe_ix ix_tup (pv 0) pe_int (fun _ _ => rfl)) pa_nil)) pa_nil)) (pg_name (i := 5) nd_law_starts rfl (Or.inl rfl)) (pss_one (ps_if (pt_cmpR op_eq (pe_ix ix_str (pe_ix ix_tup (pv 0) (pv 4) (fun _ _ => rfl)) (pv 5) (fun _ _ => rfl)) (pe_lit [46] (by decide +kernel)) (nomark _)) (pss_cons (ps_expr (pe_bm PySem.F.plainAttrs_list PySem.F.slot_list_append PySem.F.type_list_append mt_append (pv 2) (pa_cons (pe_tup (pa_cons (pv 4) (pa_cons (pv 5) pa_nil))) pa_nil)))
      (pss_one (ps_if (pt_val (pe_fn c_law_is_near (hr.mono (by decide)) pass0 (pa_cons (pv 0) (pa_cons (pv 4) (pa_cons (pv 5) pa_nil))))) (pss_one (ps_expr (pe_bm PySem.F.plainAttrs_list PySem.F.slot_list_append PySem.F.type_list_append mt_append (pv 3) (pa_cons (pe_tup (pa_cons (pv 4) (pa_cons (pv 5) pa_nil))) pa_nil)))) pss_nil))) pss_nil)))))
      (pss_cons (ps_if (PW.pt (pw_and (pt_cmpR (op_neD hr.units) (pv 3) (pe_lst pa_nil) (nomark _)) (pw_and1 (pt_cmpR op_gt (pe_fn c_law_take (hr.mono (by decide)) pass0 (pa_cons (pv 1) (pa_cons pe_int pa_nil))) pe_int (nomark _))))) (pss_one (ps_ret (pe_ix ix_list (pv 3) (pe_fn c_law_take (hr.mono (by decide)) pass0 (pa_cons (pv 1) (pa_cons (pe_callB b_lenQ rfl T.f_len (by decide +kernel) (pa_cons (pv 3) pa_nil)) pa_nil))) (fun _ _ => rfl)))) pss_nil)
      (pss_one (ps_ret (pe_ix ix_list (pv 2) (pe_fn c_law_take (hr.mono (by decide)) pass0 (pa_cons (pv 1) (pa_cons (pe_callB b_lenQ rfl T.f_len (by decide +kernel) (pa_cons (pv 2) pa_nil)) pa_nil))) (fun _ _ => rfl)))))))), ?_⟩
    have hcB := T.cls_Board
    have hnr := T.na_Board_rows
    have hnm := T.na_Board_marks
    have hnb := T.na_Board_begin
    have hcK := T.cls_Book
    have hnh := T.na_Book_held
    obtain ⟨a, rfl, ha⟩ := rows_open hv
    have h9 := hg.h9
    have gl := hg.len
    have w9 := hg.w9
    obtain ⟨l0, e0, n0⟩ := hg.top
    have e0' := gmap e0
    have hl : (g.map fun l => V.str (mk l)).length = h := by rw [List.length_map, hg.len]
    obtain ⟨rn, hrn⟩ := id hr0
    walk_at "rd"
    intro fd hfd
    have nfr : fd ≠ r := fun z => by rw [z, hrn] at hfd; cases hfd
    walk_at "rd"
    intro nd hnd
    have hnd0 : H nd = none := free_upd hnd
    have nnr : nd ≠ r := fun z => by rw [z, hrn] at hnd0; cases hnd0
    have nfn : fd ≠ nd := fun z => by rw [← z, upd_same] at hnd; cases hnd
    have sA : Same H (upd (upd H fd (.lst [])) nd (.lst [])) := (Same.new hfd).trans (Same.new hnd)
    have haA := sA _ _ ha
    walk_at "rd"
    rw [hl]
    refine e_R1 (by omega) ?_
    refine f_R (fun i σ H' => (∃ a4 a5, σ = [some (.ref a), some (.ref r), some (.ref fd), some (.ref nd), a4, a5]) ∧ Same H H' ∧ StartAt g h w H' fd nd (i * 9) (i * 9) fun x y => x < i)
      ⟨⟨_, _, rfl⟩, sA, [], [], ⟨[], by rw [upd_ne nfn]; exact upd_same, aa_nil⟩, ⟨[], upd_same, aa_nil⟩, fun c m => (by cases m), fun c m => (by cases m), fun x y z => (by cases z), by simp, by simp⟩ (fun i σ H1 hi pv => ?_) (fun σ H1 pv => ?_)
    · obtain ⟨⟨a4, a5, rfl⟩, s1, S1⟩ := pv
      have ha1 := s1 _ _ ha
      walk_at "rd"
      refine k_lenT (by omega) ?_
      rw [n0, Int.zero_add]
      walk_at "rd"
      refine e_R1 (by omega) ?_
      refine f_R (fun j σ H' => (∃ a5, σ = [some (.ref a), some (.ref r), some (.ref fd), some (.ref nd), some (.int (i : Int)), a5]) ∧ Same H H' ∧ StartAt g h w H' fd nd (i * 9 + j) (i * 9 + j) fun x y => x < i ∨ (x = i ∧ y < j))
        ⟨⟨_, rfl⟩, s1, S1.monoW ⟨by omega, by omega⟩ fun x y _ _ z => z.resolve_right (by omega)⟩ (fun j σ H2 hj pv => ?_) (fun σ H2 pv => ?_)
      rotate_left
      · obtain ⟨⟨a5, rfl⟩, s2, S2⟩ := pv
        exact ⟨⟨_, _, rfl⟩, s2, S2.monoW ⟨by omega, by omega⟩ fun x y hy _ z => by
          by_cases q : x = i
          · exact .inr ⟨q, by omega⟩
          · exact .inl (by omega)⟩
      obtain ⟨⟨a5, rfl⟩, s2, S2⟩ := pv
      have ha2 := s2 _ _ ha
      have hih : i < h := by omega
      have hjw : j < w := by omega
      obtain ⟨l, e1, e2, e3⟩ := atN_get (r := i) (c := j) hg.row (by omega) hjw
      walk_at "rd"
      refine k_ixT ha2 (gmap e1) ?_
      walk_at "rd"
      rw [Int.zero_add]
      refine k_ixS (by omega) e3 ?_
      walk_at "rd"
      refine k_ited (fun q => ?_) (fun q => ?_)
      rotate_left
      · have q : atN g i j ≠ 46 := fun e => q (by rw [e])
        walk_at "rd"
        refine ⟨⟨_, rfl⟩, s2, S2.monoW ⟨by omega, by omega⟩ fun x y _ hat z => ?_⟩
        rcases z with z | ⟨z1, z2⟩
        · exact .inl z
        · refine .inr ⟨z1, ?_⟩
          by_cases e : y = j
          · subst z1 e; exact (q hat).elim
          · omega
      have q := (List.cons.inj q).1
      obtain ⟨fs, ns, ⟨ys, z1, z2⟩, ⟨zs, z3, z4⟩, z5, z6, z7, z8, z9⟩ := S2
      walk_at "rd"
      intro pc hpc
      have s3 := s2.trans (Same.new (o := .tup [.int (i : Int), .int (j : Int)]) hpc)
      have z1' := upd_old (u := .tup [.int (i : Int), .int (j : Int)]) z1 hpc
      have z3' := upd_old (u := .tup [.int (i : Int), .int (j : Int)]) z3 hpc
      walk_at "rd"
      refine k_app z1' (by rw [map_len z2]; omega) ?_
      have s4 := Same.wr (o := .lst (ys ++ [.ref pc])) s3 hfd
      have S3 : StartAt g h w (upd (upd H2 pc (.tup [.int (i : Int), .int (j : Int)])) fd (.lst (ys ++ [.ref pc]))) fd nd (i * 9 + (j + 1)) (i * 9 + j) fun x y => x < i ∨ (x = i ∧ y < j + 1) := by
        have tk := Tk.wr (u := .lst (ys ++ [.ref pc])) z1' nofun
        refine ⟨fs ++ [(i, j)], ns, ⟨_, upd_same, ?_⟩, ⟨zs, by rw [upd_ne (Ne.symm nfn)]; exact z3', (z4.same (Same.new hpc)).mono tk⟩, fun c m => ?_, z6, fun x y hxy hy hat => by simp, ?_, ?_⟩
        · rw [List.map_append]
          exact ((z2.same (Same.new hpc)).snoc (cell_mk (c := (i, j)) upd_same)).mono tk
        · rcases List.mem_append.mp m with m | m
          · exact z5 c m
          · rw [List.mem_singleton.mp m]; exact ⟨hih, hjw, q⟩
        · rw [List.length_append, List.length_singleton]; omega
        · omega
      generalize upd (upd H2 pc (.tup [.int (i : Int), .int (j : Int)])) fd (.lst (ys ++ [.ref pc])) = H3 at s4 S3
      walk_at "rd"
      refine ⟨_, _, _, g, h, w, rfl, hv.same s4, hg, fun b H4 s5 => ?_⟩
      have S4 : StartAt g h w H4 fd nd (i * 9 + (j + 1)) (i * 9 + j) fun x y => x < i ∨ (x = i ∧ y < j + 1) := by
        obtain ⟨fs, ns, z1, z2, z3⟩ := S3
        exact ⟨fs, ns, z1.same s5, z2.same s5, z3⟩
      have s6 := s4.trans s5
      walk_at "rd"
      refine k_ite (fun q2 => ?_) (fun q2 => ?_)
      rotate_left
      · walk_at "rd"
        exact ⟨⟨_, rfl⟩, s6, S4.monoW ⟨by omega, by omega⟩ fun x y _ _ z => z⟩
      clear z1 z2 z3 z4 z5 z6 z7 z8 z9
      obtain ⟨fs, ns, ⟨ys, z1, z2⟩, ⟨zs, z3, z4⟩, z5, z6, z7, z8, z9⟩ := S4
      walk_at "rd"
      intro pc2 hpc2
      have z3' := upd_old (u := .tup [.int (i : Int), .int (j : Int)]) z3 hpc2
      have z1' := upd_old (u := .tup [.int (i : Int), .int (j : Int)]) z1 hpc2
      walk_at "rd"
      refine k_app z3' (by rw [map_len z4]; omega) ?_
      have tk := Tk.wr (u := .lst (zs ++ [.ref pc2])) z3' nofun
      refine ⟨⟨_, rfl⟩, Same.wr (s6.trans (Same.new hpc2)) hnd0, fs, ns ++ [(i, j)], ⟨ys, by rw [upd_ne nfn]; exact z1', (z2.same (Same.new hpc2)).mono tk⟩, ⟨_, upd_same, ?_⟩, z5, fun c m => ?_, z7, z8, ?_⟩
      · rw [List.map_append]
        exact ((z4.same (Same.new hpc2)).snoc (cell_mk (c := (i, j)) upd_same)).mono tk
      · rcases List.mem_append.mp m with m | m
        · exact z6 c m
        · rw [List.mem_singleton.mp m]; exact ⟨hih, hjw, q⟩
      · rw [List.length_append, List.length_singleton]; omega
    obtain ⟨⟨a4, a5, rfl⟩, s1, fs, ns, ⟨ys, z1, z2⟩, ⟨zs, z3, z4⟩, z5, z6, z7, z8, z9⟩ := pv
    have hfne : fs ≠ [] := by
      obtain ⟨i, j, hi, hj, hat⟩ := hex
      exact z7 i j (by show i < (h : Int).toNat; omega) hj hat
    have hflen : 0 < fs.length := List.length_pos_iff.mpr hfne
    walk_at "rd"
    intro pe hpe
    refine k_neNil (upd_old z3 hpe) (z4.same (Same.new hpe)) (cells_shp ns) upd_same ?_
    have s2 := s1.trans (Same.new (o := .lst []) hpe)
    have z1' := upd_old (u := .lst []) z1 hpe
    have z2' := z2.same (Same.new (o := .lst []) hpe)
    have z3' := upd_old (u := .lst []) z3 hpe
    have z4' := z4.same (Same.new (o := .lst []) hpe)
    have r2 := hr0.same s2
    generalize upd H1 pe (.lst []) = H2 at s2 z1' z2' z3' z4' r2
    clear z1 z2 z3 z4
    have l1 := map_len z2'
    have l2 := map_len z4'
    have fle : fs.length ≤ 81 := by omega
    have nle : ns.length ≤ 81 := by omega
    have hlast : ∀ H3, Sb r H H3 → Sb r H2 H3 → RestAt H3 r → ∀ σ, σ[2]? = some (some (.ref fd)) → σ[1]? = some (some (.ref r)) → tRet (tOp (rIxL K) (tVar 2) (tCall spTake [] E0 (tCons (tVar 1) (tCons (tCB (rLenQ K) (tCons (tVar 2) tNil)) tNil)))) ⟨fun _ H' => Q .non H', Q, fun _ _ => False, fun _ _ => False⟩ σ H3 := by
      intro H3 s3 s3' r3 σ e1 e2
      have f1 := s3' _ _ nfr z1'
      walk_at "rd"
      refine k_dig s3 r3 (by omega) (by omega) fun d H4 db s4 s4' r4 => ?_
      refine k_pick ⟨ys, s4' _ _ nfr f1, (z2'.sb r2 s3').sb r3 s4'⟩ (d := d) (by omega) fun u hu => ?_
      obtain ⟨c1, c2, c3⟩ := z5 _ (List.getElem_mem (show d < fs.length by omega))
      exact hQ u _ H4 s4 r4 hu c1 c2 c3
    refine k_bl ?_
    refine k_ite (fun q => ?_) (fun q => ?_)
    · have npos : 0 < ns.length := by
        cases ns with
        | nil => simp at q
        | cons a b => simp
      walk_at "rd"
      refine k_dig (Sb.same s2) r2 (by decide) (by decide) fun d H3 db s3 s3' r3 => ?_
      have f3 := s3' _ _ nnr z3'
      walk_at "rd"
      refine k_ited (fun q2 => ?_) (fun q2 => ?_)
      · walk_at "rd"
        refine k_dig s3 r3 (by omega) (by omega) fun d2 H4 db2 s4 s4' r4 => ?_
        refine k_pick ⟨zs, s4' _ _ nnr f3, (z4'.sb r2 s3').sb r3 s4'⟩ (d := d2) (by omega) fun u hu => ?_
        obtain ⟨c1, c2, c3⟩ := z6 _ (List.getElem_mem (show d2 < ns.length by omega))
        exact hQ u _ H4 s4 r4 hu c1 c2 c3
      · refine k_next ?_
        exact hlast H3 s3 s3' r3 _ rfl rfl
    · refine k_itF ?_
      refine k_next ?_
      exact hlast H2 (Sb.same s2) (.refl _ _) r2 _ rfl rfl

theorem ok_law_straight {P : Program} {wd : World} {K : PySem.W.Frag} {mg : Str → Option Value} {bas : Heap} (T : Tx K mg) (c_law_sign : DefOk P wd K mg bas CX0 "_law_sign" 2 ["_law_rest_here", "_law_letters_here", "_law_great"] spSign) (c_law_starts : DefOk P wd K mg bas CX0 "_law_starts" 2 ["_law_rows_here", "_law_rest_here"] spStarts) (c_law_take : DefOk P wd K mg bas CX0 "_law_take" 1 ["_law_rest_here", "_law_base"] spTake) :
    DefOk P wd K mg bas CX0 "_law_straight" 3 ["_law_rows_here", "_law_rest_here", "_law_letters_here"] spStraight := by
  refine def0 T.fn_law_straight sc_law_straight bp_law_straight (fun vs H Q E h => ?_) (fun f cdv A outer s H vs Q E hr h => ?_)
  · obtain ⟨v, r, ls, g, h, w, rfl, hr0, hls, hv, hg, hex, hQ⟩ := h
    rfl
  · obtain ⟨v, r, ls, g, h, w, rfl, hr0, hls, hv, hg, hex, hQ⟩ := h
    refine ⟨_, (pss_cons (ps_set (i := 3) nd_law_straight rfl (Or.inl rfl) (pe_fn c_law_take (hr.mono (by decide)) pass0 (pa_cons (pv 1) (pa_cons pe_int pa_nil))))
      (pss_cons (ps_set (i := 4) nd_law_straight rfl (Or.inl rfl) (pe_op op_add pe_int (pe_fn c_law_take (hr.mono (by decide)) pass0 (pa_cons (pv 1) (pa_cons pe_int pa_nil)))))
      (pss_cons (ps_asg (pe_fn c_law_starts (hr.mono (by decide)) pass0 (pa_cons (pv 0) (pa_cons (pv 1) pa_nil))) (pg_tup rfl (pgs_cons (pg_name (i := 5) nd_law_straight rfl (Or.inl rfl)) (pgs_cons (pg_name (i := 6) nd_law_straight rfl (Or.inl rfl)) pgs_nil))))
      (pss_cons (ps_set (i := 7) nd_law_straight rfl (Or.inl rfl) (pe_lst pa_nil))
      (pss_cons (ps_set (i := 8) nd_law_straight rfl (Or.inl rfl) pe_int)
      (pss_cons (ps_while PassesOwn.never (PW.pt (pw_and (pt_cmpR op_lt (pv 5) (pe_callB b_lenQ rfl T.f_len (by decide +kernel) (pa_cons (pv 0) pa_nil)) (nomark _)) (pw_and (pt_cmpR op_lt (pv 6) (pe_callB b_lenT rfl T.f_len (by decide +kernel) (pa_cons (pe_ix ix_tup (pv 0) pe_int (fun _ _ => rfl)) pa_nil)) (nomark _)) (pw_and1 (pt_cmpR op_lt (pe_callB b_lenQ rfl T.f_len (by decide +kernel) (pa_cons (pv 7) pa_nil)) (pv 4) (nomark _)))))) (pss_cons (ps_if (pt_cmpR op_eq (pe_ix ix_str (pe_ix ix_tup (pv 0) (pv 5) (fun _ _ => rfl)) (pv 6) (fun _ _ => rfl)) (pe_lit [46] (by decide +kernel)) (nomark _)) (pss_cons (ps_set (i := 9) nd_law_straight rfl (Or.inl rfl) (pe_fn c_law_sign (hr.mono (by decide)) pass0 (pa_cons (pv 1) (pa_cons (pv 2) (pa_cons (pe_cmpR op_lt (pv 8) pe_int (nomark _)) pa_nil)))))
      (pss_cons (ps_set (i := 8) nd_law_straight rfl (Or.inl rfl) (pe_op op_add (pv 8) (pe_callTy b_intB rfl T.f_int (by decide +kernel) (pa_cons (pe_cmpR op_ne (pv 9) (pe_bm0 PySem.F.plainAttrs_str PySem.F.slot_str_lower PySem.F.type_str_lower m_low (pv 9)) (nomark _)) pa_nil))))
      (pss_one (ps_expr (pe_bm PySem.F.plainAttrs_list PySem.F.slot_list_append PySem.F.type_list_append mt_append (pv 7) (pa_cons (pe_tup (pa_cons (pv 5) (pa_cons (pv 6) (pa_cons (pv 9) pa_nil)))) pa_nil)))))) pss_nil)
      (pss_cons (ps_set (i := 5) nd_law_straight rfl (Or.inl rfl) (pe_op op_add (pv 5) (pv 3)))
      (pss_one (ps_set (i := 6) nd_law_straight rfl (Or.inl rfl) (pe_op op_sub (pe_op op_add (pv 6) pe_int) (pv 3)))))))
      (pss_one (ps_ret (pe_callTy b_tupL rfl T.f_tuple (by decide +kernel) (pa_cons (pv 7) pa_nil)))))))))), ?_⟩
    have hcB := T.cls_Board
    have hnr := T.na_Board_rows
    have hnm := T.na_Board_marks
    have hnb := T.na_Board_begin
    have hcK := T.cls_Book
    have hnh := T.na_Book_held
    obtain ⟨a, rfl, ha⟩ := rows_open hv
    have h9 := hg.h9
    have gl := hg.len
    have w9 := hg.w9
    obtain ⟨l0, e0, n0⟩ := hg.top
    have e0' := gmap e0
    have hl : (g.map fun l => V.str (mk l)).length = h := by rw [List.length_map, hg.len]
    obtain ⟨rn, hrn⟩ := id hr0
    walk_at "rd"
    refine k_dig (.refl _ _) hr0 (by decide) (by decide) fun wy H1 wyb s1 _ r1 => ?_
    walk_at "rd"
    refine k_dig s1 r1 (by decide) (by decide) fun my H2 myb s2 _ r2 => ?_
    obtain ⟨many, em⟩ : ∃ many : Nat, many = 1 + my := ⟨_, rfl⟩
    have em1 : (1 : Int) + (my : Int) = (many : Int) := by omega
    walk_at "rd"
    rw [em1]
    refine ⟨_, r, g, h, w, rfl, r2, hv.sb hr0 s2, hg, hex, fun u c H3 s3 r3 hu c1 c2 c3 => ?_⟩
    obtain ⟨q, rfl, hq⟩ := cell_open hu
    have s4 := s2.trans s3
    walk_at "rd"
    intro fd hfd
    have hfd0 : H fd = none := s4.free r3.choose_spec hfd
    have nfr : fd ≠ r := fun z => by rw [z, hrn] at hfd0; cases hfd0
    have s5 : Sb r H (upd H3 fd (.lst [])) := s4.trans (Sb.same (Same.new hfd))
    have r5 := r3.new (o := .lst []) hfd
    have f5 : upd H3 fd (.lst []) fd = some (.lst []) := upd_same
    generalize upd H3 fd (.lst []) = H5 at s5 r5 f5
    walk_at "rd"
    refine k_while (fun m σ H' => ∃ (r' c' : Nat) (b : Int) (L : List Tri) (a9 : Option V), σ = [some (.ref a), some (.ref r), some (.str (mk ls)), some (.int (wy : Int)), some (.int (many : Int)), some (.int (r' : Int)), some (.int (c' : Int)), some (.ref fd), some (.int b), a9] ∧ Sb r H H' ∧ RestAt H' r ∧ LsAt H' fd (L.map triD) ∧ (L ≠ [] ∨ (r' < h ∧ c' < w ∧ atN g r' c' = 46)) ∧ L.length ≤ many ∧ (∀ t ∈ L, t.1 < h ∧ t.2.1 < w ∧ isSg t.2.2 = true ∧ cLt (cel t) (r', c')) ∧ L.Pairwise (fun a b => cLt (cel a) (cel b)) ∧ m = h + w - r' - c' ∧ r' ≤ h ∧ c' ≤ w) (h + w - c.1 - c.2)
      ⟨c.1, c.2, 0, [], _, rfl, s5, r5, ⟨[], f5, aa_nil⟩, .inr ⟨c1, c2, c3⟩, Nat.zero_le _, fun t m => (by cases m), .nil, rfl, by omega, by omega⟩ (fun n σ H6 TT FF kT kF pv => ?_)
    obtain ⟨r', c', b, L, a9, rfl, s6, r6, ⟨ys, z1, z2⟩, z3, z4, z5, z6, rfl, z7, z8⟩ := pv
    have l1 := map_len z2
    have ha6 := s6.tup hr0 ha
    have hF : L ≠ [] → FF H6 := fun ne => by
      refine kF _ ?_
      walk_at "rd"
      refine k_tupL z1 fun p hp => ?_
      exact hQ (.ref p) L _ (s6.trans (Sb.same (Same.new hp))) (r6.new hp) (at_tup upd_same (z2.same (Same.new hp))) ⟨ne, by omega, fun t m => ⟨(z5 t m).1, (z5 t m).2.1, (z5 t m).2.2.1⟩, z6⟩
    walk_at "rd"
    rw [hl]
    refine k_ited (fun q1 => ?_) (fun q1 => ?_)
    rotate_left
    · exact hF (z3.resolve_right fun z => q1 (by omega))
    walk_at "rd"
    refine k_lenT (by omega) ?_
    rw [n0]
    walk_at "rd"
    refine k_ited (fun q2 => ?_) (fun q2 => ?_)
    rotate_left
    · exact hF (z3.resolve_right fun z => q2 (by omega))
    walk_at "rd"
    rw [l1]
    refine k_ited (fun q3 => ?_) (fun q3 => ?_)
    rotate_left
    · refine hF fun e => q3 ?_
      rw [e]; show (0 : Int) < _; omega
    refine kT _ ?_
    have hr' : r' < h := by omega
    have hc' : c' < w := by omega
    obtain ⟨l, e1, e2, e3⟩ := atN_get (r := r') (c := c') hg.row (by omega) hc'
    have ew1 : (r' : Int) + (wy : Int) = ((r' + wy : Nat) : Int) := (Int.natCast_add r' wy).symm
    have ew2 : (c' : Int) + 1 - (wy : Int) = ((c' + 1 - wy : Nat) : Int) := by omega
    have hstep : ∀ t, cLt (cel t) (r', c') → cLt (cel t) (r' + wy, c' + 1 - wy) := fun t z => by
      unfold cLt at z ⊢
      simp only at z ⊢
      omega
    have hself : ∀ k, cLt (cel (r', c', k)) (r' + wy, c' + 1 - wy) := fun k => by
      unfold cLt cel
      simp only
      omega
    walk_at "rd"
    refine k_ixT ha6 (gmap e1) ?_
    walk_at "rd"
    refine k_ixS (by omega) e3 ?_
    walk_at "rd"
    refine k_ited (fun q4 => ?_) (fun q4 => ?_)
    rotate_left
    · have hne : L ≠ [] := z3.resolve_right fun z => q4 (by rw [z.2.2])
      walk_at "rd"
      rw [ew1]
      walk_at "rd"
      rw [ew2]
      exact ⟨_, by omega, r' + wy, c' + 1 - wy, b, L, _, rfl, s6, r6, ⟨ys, z1, z2⟩, .inl hne, z4, fun t m => ⟨(z5 t m).1, (z5 t m).2.1, (z5 t m).2.2.1, hstep t (z5 t m).2.2.2⟩, z6, rfl, by omega, by omega⟩
    walk_at "rd"
    refine ⟨r, ls, _, rfl, r6, hls, fun k H7 s7 r7 hk => ?_⟩
    have z1' := s7 _ _ nfr z1
    have z2' := z2.sb r6 s7
    have hdone : ∀ b' : Int, ∀ pt, H7 pt = none → ∃ m', m' < h + w - r' - c' ∧ ∃ (r'' c'' : Nat) (b : Int) (L : List Tri) (a9 : Option V), [some (.ref a), some (.ref r), some (.str (mk ls)), some (.int (wy : Int)), some (.int (many : Int)), some (.int ((r' + wy : Nat) : Int)), some (.int ((c' + 1 - wy : Nat) : Int)), some (.ref fd), some (.int b'), some (V.str (mk [k]))] = [some (.ref a), some (.ref r), some (.str (mk ls)), some (.int (wy : Int)), some (.int (many : Int)), some (.int (r'' : Int)), some (.int (c'' : Int)), some (.ref fd), some (.int b), a9] ∧ Sb r H (upd (upd H7 pt (.tup [.int (r' : Int), .int (c' : Int), .str (mk [k])])) fd (.lst (ys ++ [.ref pt]))) ∧ RestAt (upd (upd H7 pt (.tup [.int (r' : Int), .int (c' : Int), .str (mk [k])])) fd (.lst (ys ++ [.ref pt]))) r ∧ LsAt (upd (upd H7 pt (.tup [.int (r' : Int), .int (c' : Int), .str (mk [k])])) fd (.lst (ys ++ [.ref pt]))) fd (L.map triD) ∧ (L ≠ [] ∨ (r'' < h ∧ c'' < w ∧ atN g r'' c'' = 46)) ∧ L.length ≤ many ∧ (∀ t ∈ L, t.1 < h ∧ t.2.1 < w ∧ isSg t.2.2 = true ∧ cLt (cel t) (r'', c'')) ∧ L.Pairwise (fun a b => cLt (cel a) (cel b)) ∧ m' = h + w - r'' - c'' ∧ r'' ≤ h ∧ c'' ≤ w := by
      intro b' pt hpt
      have z1'' := upd_old (u := .tup [.int (r' : Int), .int (c' : Int), .str (mk [k])]) z1' hpt
      refine ⟨_, by omega, r' + wy, c' + 1 - wy, b', L ++ [(r', c', k)], _, rfl, ((s6.trans s7).trans (Sb.same (Same.new hpt))).wrn hfd0, ?_, ⟨_, upd_same, ?_⟩, .inl (by simp), by rw [List.length_append, List.length_singleton]; omega, fun t m => ?_, ?_, rfl, by omega, by omega⟩
      · obtain ⟨n, hn⟩ := r7.new (o := .tup [.int (r' : Int), .int (c' : Int), .str (mk [k])]) hpt
        exact ⟨n, by rw [upd_ne (Ne.symm nfr)]; exact hn⟩
      · rw [List.map_append]
        exact ((z2'.same (Same.new hpt)).snoc (tri_mk (t := (r', c', k)) upd_same)).mono (Tk.wr z1'' nofun)
      · rcases List.mem_append.mp m with m | m
        · exact ⟨(z5 t m).1, (z5 t m).2.1, (z5 t m).2.2.1, hstep t (z5 t m).2.2.2⟩
        · rw [List.mem_singleton.mp m]; exact ⟨hr', hc', hk, hself k⟩
      · rw [List.pairwise_append]
        exact ⟨z6, List.pairwise_singleton _ _, fun t m u mu => by rw [List.mem_singleton.mp mu]; exact (z5 t m).2.2.2⟩
    walk_at "rd"
    refine k_low (by simp [Str.length]) ?_
    rw [low_one k (of_decide_eq_true hk)]
    walk_at "rd"
    intro pt hpt
    have z1'' := upd_old (u := .tup [.int (r' : Int), .int (c' : Int), .str (mk [k])]) z1' hpt
    walk_at "rd"
    refine k_app z1'' (by omega) ?_
    walk_at "rd"
    rw [ew1]
    walk_at "rd"
    rw [ew2]
    exact hdone _ pt hpt

theorem ok_law_joined {P : Program} {wd : World} {K : PySem.W.Frag} {mg : Str → Option Value} {bas : Heap} (T : Tx K mg) (c_law_is_near : DefOk P wd K mg bas CX0 "_law_is_near" 1 ["_law_rows_here", "_law_row", "_law_column"] spIsNear) :
    DefOk P wd K mg bas CX0 "_law_joined" 2 ["_law_rows_here", "_law_begin_here", "_law_cells"] spJoined := by
  refine def0 T.fn_law_joined sc_law_joined bp_law_joined (fun vs H Q E h => ?_) (fun f cdv A outer s H vs Q E hr h => ?_)
  · obtain ⟨v, u, p, g, h, w, c, cs, rfl, hv, hg, hu, hcs, hn, hQ⟩ := h
    rfl
  · obtain ⟨v, u, p, g, h, w, c, cs, rfl, hv, hg, hu, hcs, hn, hQ⟩ := h
    refine ⟨_, (pss_cons (ps_if (pt_cmpR (op_eqD hr.units) (pe_lc (own := [("_law_text", 3)]) (g := (gName 3)) rfl nd_law_joined (pi_tup (pv 0)) (blkOk_by (own := [("_law_text", 3)]) (N := N_law_joined) (sc := (defScope s_law_joined)) (by decide +kernel)) (fun _ _ _ _ _ => (pg_name (i := 3) nd_law_joined rfl (Or.inl rfl))) (fun _ _ _ _ _ => (pts_one (pt_cmpR op_ne (pv 3) (pe_op o_mulS (pe_lit [46] (by decide +kernel)) (pe_callB b_lenT rfl T.f_len (by decide +kernel) (pa_cons (pv 3) pa_nil))) (nomark _)))) (fun _ _ _ _ _ => (pv 3))) (pe_lst pa_nil) (nomark _)) (pss_one (ps_ret (pe_cmpR (op_inD (un65 hr)) (pv 1) (pv 2) (by rfl)))) pss_nil)
      (pss_one (ps_ret (pe_cmpR (op_neD hr.units) (pe_lc (own := [("_law_cell", 4)]) (g := (gName 4)) rfl nd_law_joined (pi_list (pv 2)) (blkOk_by (own := [("_law_cell", 4)]) (N := N_law_joined) (sc := (defScope s_law_joined)) (by decide +kernel)) (fun _ _ _ _ _ => (pg_name (i := 4) nd_law_joined rfl (Or.inl rfl))) (fun _ _ _ _ _ => (pts_one (pt_val (pe_fn c_law_is_near (hr.mono (by decide)) pass0 (pa_cons (pv 0) (pa_cons (pe_ix (ix_of (rIxT K) ix_tup rfl) (pv 4) pe_int (fun _ _ => rfl)) (pa_cons (pe_ix (ix_of (rIxT K) ix_tup rfl) (pv 4) pe_int (fun _ _ => rfl)) pa_nil))))))) (fun _ _ _ _ _ => (pv 4))) (pe_lst pa_nil) (nomark _))))), ?_⟩
    have hcB := T.cls_Board
    have hnr := T.na_Board_rows
    have hnm := T.na_Board_marks
    have hnb := T.na_Board_begin
    have hcK := T.cls_Book
    have hnh := T.na_Book_held
    obtain ⟨a, rfl, ha⟩ := rows_open hv
    have h9 := hg.h9
    have gl := hg.len
    have w9 := hg.w9
    have w1 := hg.w1
    obtain ⟨us, hp, hus⟩ := hcs
    have hul := map_len hus
    walk_at "rd"
    refine c_T (flt g (fun l => !decide (l = List.replicate l.length 46)) sD) ha (by rw [List.length_map]; omega) rfl (fun i x H1 hi hs => ?_) (fun D H1 ys h1 h2 h3 h4 => ?_)
    · rw [List.getElem?_map] at hi
      obtain ⟨l, el, rfl⟩ := Option.map_eq_some_iff.mp hi
      have nl : l.length = w := hg.row _ (List.mem_of_getElem? el)
      intro P R h1 h2
      walk_at "rd"
      refine ⟨rfl, ?_⟩
      walk_at "rd"
      refine k_lenT (by omega) ?_
      refine k_mulS (m := List.replicate l.length 46) (by decide) (by omega) (by omega) (mul_dots _ (by omega)) ?_
      walk_at "rd"
      refine k_ite (fun q => ?_) (fun q => ?_)
      · walk_at "rd"
        exact h1 _ _ (sD l) (.refl _) (flt_yes el q) at_str
      · exact h2 _ (.refl _) (flt_no el q)
    rw [flt_all _ _ _ (by rw [List.length_map]; omega)] at h4
    walk_at "rd"
    intro pe hpe
    refine k_eqNil (upd_old h3 hpe) (h4.same (Same.new hpe)) (shp_list fun d m => ?_) upd_same ?_
    · obtain ⟨l, ml, rfl⟩ := List.mem_map.mp m
      exact ⟨lay_str (grid_code hg (List.mem_filter.mp ml).1), by simp [PyData.depth]⟩
    have s2 := h2.trans (Same.new (o := .lst []) hpe)
    generalize upd H1 pe (.lst []) = H2 at s2
    walk_at "rd"
    refine k_ite (fun q => ?_) (fun q => ?_)
    · walk_at "rd"
      refine k_inCells (hu.same s2) ⟨us, s2 _ _ hp, hus.same s2⟩ ?_
      exact hQ _ _ s2
    have hp2 := s2 _ _ hp
    walk_at "rd"
    refine c_LN (fun d => ∃ c, d = cellD c) hp2 (by omega) (fun i x hi H3 P R s3 hP hR => ?_) (fun D2 H3 zs ds f1 f2 f3 f4 f5 f6 => ?_)
    · obtain ⟨ce, ec, hc⟩ := map_get hus hi
      obtain ⟨q, rfl, hq⟩ := cell_open (hc.same (s2.trans s3))
      walk_at "rd"
      refine ⟨rfl, ?_⟩
      walk_at "rd"
      refine ⟨_, _, _, g, h, w, rfl, hv.same (s2.trans s3), hg, fun b H4 s4 => ?_⟩
      walk_at "rd"
      refine k_ite (fun q => ?_) (fun q => ?_)
      · walk_at "rd"
        exact hP _ _ _ s4 ⟨ce, rfl⟩ (hc.same ((s2.trans s3).trans s4))
      · exact hR _ s4
    walk_at "rd"
    intro pe2 hpe2
    refine k_neNil (upd_old f3 hpe2) (f4.same (Same.new hpe2)) (shp_list fun d m => ?_) upd_same ?_
    · obtain ⟨c, rfl⟩ := f5 d m
      exact cell_lay c
    exact hQ _ _ ((s2.trans f2).trans (Same.new hpe2))

theorem ok_law_cells_due {P : Program} {wd : World} {K : PySem.W.Frag} {mg : Str → Option Value} {bas : Heap} (T : Tx K mg) (c_law_joined : DefOk P wd K mg bas CX0 "_law_joined" 2 ["_law_rows_here", "_law_begin_here", "_law_cells"] spJoined) :
    DefOk P wd K mg bas CX0 "_law_cells_due" 3 ["_law_rows_here", "_law_begin_here", "_law_laying"] spCellsDue := by
  refine def0 T.fn_law_cells_due sc_law_cells_due bp_law_cells_due (fun vs H Q E h => ?_) (fun f cdv A outer s H vs Q E hr h => ?_)
  · obtain ⟨v, u, z, g, h, w, c, L, rfl, hv, hg, hu, hL, ho, hQ⟩ := h
    rfl
  · obtain ⟨v, u, z, g, h, w, c, L, rfl, hv, hg, hu, hL, ho, hQ⟩ := h
    refine ⟨_, (pss_cons (ps_setLc (i := 3) (own := [("_law_row", 4), ("_law_column", 5), ("_law_sign_here", 6)]) (g := (gTup K 3 (gCons (gName 4) (gCons (gName 5) (gCons (gName 6) gNil))))) (tt := tYes) rfl nd_law_cells_due rfl rfl (sw_true rfl rfl rfl (by decide +kernel)) (pi_tup (pv 2)) (blkOk_by (own := [("_law_row", 4), ("_law_column", 5), ("_law_sign_here", 6)]) (N := N_law_cells_due) (sc := (defScope s_law_cells_due)) (by decide +kernel)) (fun _ _ _ _ _ => (pg_tup rfl (pgs_cons (pg_name (i := 4) nd_law_cells_due rfl (Or.inl rfl)) (pgs_cons (pg_name (i := 5) nd_law_cells_due rfl (Or.inl rfl)) (pgs_cons (pg_name (i := 6) nd_law_cells_due rfl (Or.inl rfl)) pgs_nil))))) (fun _ _ _ _ _ => pts_nil) (fun _ _ _ _ _ => (pe_tup (pa_cons (pv 4) (pa_cons (pv 5) pa_nil)))))
      (pss_cons (ps_for PassesOwn.never rfl (pi_list (pv 3)) (pg_tup rfl (pgs_cons (pg_name (i := 4) nd_law_cells_due rfl (Or.inl rfl)) (pgs_cons (pg_name (i := 5) nd_law_cells_due rfl (Or.inl rfl)) pgs_nil))) (pss_one (ps_if (pt_cmpR op_ne (pe_ix ix_str (pe_ix ix_tup (pv 0) (pv 4) (fun _ _ => rfl)) (pv 5) (fun _ _ => rfl)) (pe_lit [46] (by decide +kernel)) (nomark _)) (pss_one (ps_ret (pe_tup (pa_cons pe_int (pa_cons (pv 4) (pa_cons (pv 5) pa_nil)))))) pss_nil)))
      (pss_cons (ps_if (pt_cmpR op_ne (pe_callB (cr_min rfl) rfl T.f_min (by decide +kernel) (pa_cons (pe_lc (own := [("_law_row", 4), ("_law_column", 5)]) (g := (gTup K 2 (gCons (gName 4) (gCons (gName 5) gNil)))) (tt := tYes) rfl nd_law_cells_due (pi_list (pv 3)) (blkOk_by (own := [("_law_row", 4), ("_law_column", 5)]) (N := N_law_cells_due) (sc := (defScope s_law_cells_due)) (by decide +kernel)) (fun _ _ _ _ _ => (pg_tup rfl (pgs_cons (pg_name (i := 4) nd_law_cells_due rfl (Or.inl rfl)) (pgs_cons (pg_name (i := 5) nd_law_cells_due rfl (Or.inl rfl)) pgs_nil)))) (fun _ _ _ _ _ => pts_nil) (fun _ _ _ _ _ => (pv 4))) pa_nil)) (pe_callB (cr_max rfl) rfl T.f_max (by decide +kernel) (pa_cons (pe_lc (own := [("_law_row", 4), ("_law_column", 5)]) (g := (gTup K 2 (gCons (gName 4) (gCons (gName 5) gNil)))) (tt := tYes) rfl nd_law_cells_due (pi_list (pv 3)) (blkOk_by (own := [("_law_row", 4), ("_law_column", 5)]) (N := N_law_cells_due) (sc := (defScope s_law_cells_due)) (by decide +kernel)) (fun _ _ _ _ _ => (pg_tup rfl (pgs_cons (pg_name (i := 4) nd_law_cells_due rfl (Or.inl rfl)) (pgs_cons (pg_name (i := 5) nd_law_cells_due rfl (Or.inl rfl)) pgs_nil)))) (fun _ _ _ _ _ => pts_nil) (fun _ _ _ _ _ => (pv 4))) pa_nil)) (nomark _)) (pss_one (ps_if (pt_cmpR op_ne (pe_callB (cr_min rfl) rfl T.f_min (by decide +kernel) (pa_cons (pe_lc (own := [("_law_row", 4), ("_law_column", 5)]) (g := (gTup K 2 (gCons (gName 4) (gCons (gName 5) gNil)))) (tt := tYes) rfl nd_law_cells_due (pi_list (pv 3)) (blkOk_by (own := [("_law_row", 4), ("_law_column", 5)]) (N := N_law_cells_due) (sc := (defScope s_law_cells_due)) (by decide +kernel)) (fun _ _ _ _ _ => (pg_tup rfl (pgs_cons (pg_name (i := 4) nd_law_cells_due rfl (Or.inl rfl)) (pgs_cons (pg_name (i := 5) nd_law_cells_due rfl (Or.inl rfl)) pgs_nil)))) (fun _ _ _ _ _ => pts_nil) (fun _ _ _ _ _ => (pv 5))) pa_nil)) (pe_callB (cr_max rfl) rfl T.f_max (by decide +kernel) (pa_cons (pe_lc (own := [("_law_row", 4), ("_law_column", 5)]) (g := (gTup K 2 (gCons (gName 4) (gCons (gName 5) gNil)))) (tt := tYes) rfl nd_law_cells_due (pi_list (pv 3)) (blkOk_by (own := [("_law_row", 4), ("_law_column", 5)]) (N := N_law_cells_due) (sc := (defScope s_law_cells_due)) (by decide +kernel)) (fun _ _ _ _ _ => (pg_tup rfl (pgs_cons (pg_name (i := 4) nd_law_cells_due rfl (Or.inl rfl)) (pgs_cons (pg_name (i := 5) nd_law_cells_due rfl (Or.inl rfl)) pgs_nil)))) (fun _ _ _ _ _ => pts_nil) (fun _ _ _ _ _ => (pv 5))) pa_nil)) (nomark _)) (pss_one (ps_ret (pe_tup (pa_cons pe_int (pa_cons pe_int (pa_cons pe_int pa_nil)))))) pss_nil)) pss_nil)
      (pss_cons (ps_for PassesOwn.never rfl (pi_range2 rfl T.f_range (pa_cons (pe_ix ix_tup (pe_ix ix_list (pv 3) pe_int (fun _ _ => rfl)) pe_int (fun _ _ => rfl)) (pa_cons (pe_op op_add (pe_ix ix_tup (pe_ix ix_list (pv 3) (pe_un un_neg pe_int) (fun _ _ => rfl)) pe_int (fun _ _ => rfl)) pe_int) pa_nil))) (pg_name (i := 4) nd_law_cells_due rfl (Or.inl rfl)) (pss_one (ps_for PassesOwn.never rfl (pi_range2 rfl T.f_range (pa_cons (pe_ix ix_tup (pe_ix ix_list (pv 3) pe_int (fun _ _ => rfl)) pe_int (fun _ _ => rfl)) (pa_cons (pe_op op_add (pe_ix ix_tup (pe_ix ix_list (pv 3) (pe_un un_neg pe_int) (fun _ _ => rfl)) pe_int (fun _ _ => rfl)) pe_int) pa_nil))) (pg_name (i := 5) nd_law_cells_due rfl (Or.inl rfl)) (pss_one (ps_if (PW.pt (pw_and (pt_cmpR op_eq (pe_ix ix_str (pe_ix ix_tup (pv 0) (pv 4) (fun _ _ => rfl)) (pv 5) (fun _ _ => rfl)) (pe_lit [46] (by decide +kernel)) (nomark _)) (pw_and1 (pt_cmpR (op_notInD (un65 hr)) (pe_tup (pa_cons (pv 4) (pa_cons (pv 5) pa_nil))) (pv 3) (by rfl))))) (pss_one (ps_ret (pe_tup (pa_cons pe_int (pa_cons (pv 4) (pa_cons (pv 5) pa_nil)))))) pss_nil)))))
      (pss_cons (ps_if (pt_not (pt_val (pe_fn c_law_joined (hr.mono (by decide)) pass0 (pa_cons (pv 0) (pa_cons (pv 1) (pa_cons (pv 3) pa_nil)))))) (pss_one (ps_ret (pe_tup (pa_cons pe_int (pa_cons pe_int (pa_cons pe_int pa_nil)))))) pss_nil)
      (pss_one (ps_ret (pe_tup (pa_cons pe_int (pa_cons pe_int (pa_cons pe_int pa_nil))))))))))), ?_⟩
    have hcB := T.cls_Board
    have hnr := T.na_Board_rows
    have hnm := T.na_Board_marks
    have hnb := T.na_Board_begin
    have hcK := T.cls_Book
    have hnh := T.na_Book_held
    obtain ⟨a, rfl, ha⟩ := rows_open hv
    obtain ⟨p, vs, rfl, hp, hvs⟩ := lay_open hL
    have hvl := map_len hvs
    have l7 := ho.few
    have gl := hg.len
    have h9 := hg.h9
    have w9 := hg.w9
    have lpos : 0 < L.length := List.length_pos_iff.mpr ho.ne
    walk_at "rd"
    refine c_T (mp (L.map cel) cellD) hp (by omega) rfl (fun i x H1 hi hs => ?_) (fun D H1 cs h1 h2 h3 h4 => ?_)
    · obtain ⟨t, et, ht⟩ := map_get hvs hi
      obtain ⟨q, rfl, hq⟩ := tri_open (ht.mono (Tk.same hs))
      intro P R h1 h2
      walk_at "rd"
      refine ⟨rfl, ?_⟩
      walk_at "rd"
      intro p hp
      exact h1 _ _ (cellD (cel t)) (Same.new hp) (mp_succ (by rw [List.getElem?_map, et]; rfl)) (cell_mk upd_same)
    rw [mp_all _ _ (by rw [List.length_map]; omega)] at h4
    have hcl := map_len h4
    rw [List.length_map] at hcl
    have ha1 := h2 _ _ ha
    walk_at "rd"
    refine f_L (fun i σ H' => (∃ a4 a5 a6, σ = [some (.ref a), some u, some (.ref p), some (.ref D), a4, a5, a6]) ∧ H' = H1) ⟨⟨_, _, _, rfl⟩, rfl⟩ (fun i σ H' _ pv => by rw [pv.2]; exact SqL.of h3) (fun i x σ H2 hi pv => ?_) (fun σ H2 pv => ?_)
    · obtain ⟨⟨a4, a5, a6, rfl⟩, rfl⟩ := pv
      obtain ⟨ce, ec, hc⟩ := map_get h4 hi
      rw [List.getElem?_map] at ec
      obtain ⟨t, et, rfl⟩ := Option.map_eq_some_iff.mp ec
      obtain ⟨d, rfl, hd⟩ := cell_open hc
      obtain ⟨k1, k2, k3⟩ := ho.inn t (List.mem_of_getElem? et)
      obtain ⟨l, e1, e2, e3⟩ := atN_get (r := t.1) (c := t.2.1) hg.row (by omega) k2
      walk_at "rd"
      refine k_ixT (j := t.1) ha1 (gmap e1) ?_
      walk_at "rd"
      refine k_ixS (j := t.2.1) (by omega) e3 ?_
      walk_at "rd"
      refine k_itend (fun q => ?_) (fun q => ?_)
      · walk_at "rd"
        intro pt hpt
        exact hQ pt 1 _ _ _ (h2.trans (Same.new hpt)) upd_same (fun z => by omega)
      · walk_at "rd"
        exact ⟨⟨_, _, _, rfl⟩, rfl⟩
    obtain ⟨⟨a4, a5, a6, rfl⟩, rfl⟩ := pv
    with_reducible refine k_seqP (fun H' => OneLine L ∧ Same H2 H') (fun nx hnx => ?_) fun H3 hI => ?_
    · walk_at "rd"
      refine c_L (mp L fun t => .int (t.1 : Int)) h3 (by omega) rfl (fun i x H9 hi s9 => ?_) (fun D1 E1 ys k1 s1 k3 k4 => ?_)
      · obtain ⟨ce, ec, hc⟩ := map_get h4 hi
        rw [List.getElem?_map] at ec
        obtain ⟨t, et, rfl⟩ := Option.map_eq_some_iff.mp ec
        obtain ⟨d, rfl, hd⟩ := cell_open (hc.same s9)
        intro P R h1 h2
        walk_at "rd"
        refine ⟨rfl, ?_⟩
        walk_at "rd"
        exact h1 _ _ _ (.refl _) (mp_succ et) at_int
      rw [mp_all _ _ (by omega)] at k4
      have ey1 : ys = (L.map fun t => (t.1 : Int)).map V.int := AtAll.ints' (H := E1) (by rw [List.map_map]; exact k4)
      rw [ey1] at k3
      have h3_1 := s1 _ _ h3
      walk_at "rd"
      refine ⟨D1, L.map fun t => (t.1 : Int), rfl, SqL.of k3, by rw [List.length_map]; exact lpos, fun m1 mm1 mb1 => ?_⟩
      walk_at "rd"
      refine c_L (mp L fun t => .int (t.1 : Int)) h3_1 (by omega) rfl (fun i x H9 hi s9 => ?_) (fun D2 E2 ys k1 s2 k3 k4 => ?_)
      · obtain ⟨ce, ec, hc⟩ := map_get h4 hi
        rw [List.getElem?_map] at ec
        obtain ⟨t, et, rfl⟩ := Option.map_eq_some_iff.mp ec
        obtain ⟨d, rfl, hd⟩ := cell_open (hc.same (s1.trans s9))
        intro P R h1 h2
        walk_at "rd"
        refine ⟨rfl, ?_⟩
        walk_at "rd"
        exact h1 _ _ _ (.refl _) (mp_succ et) at_int
      rw [mp_all _ _ (by omega)] at k4
      have ey2 : ys = (L.map fun t => (t.1 : Int)).map V.int := AtAll.ints' (H := E2) (by rw [List.map_map]; exact k4)
      rw [ey2] at k3
      have h3_2 := s2 _ _ h3_1
      walk_at "rd"
      refine ⟨D2, L.map fun t => (t.1 : Int), rfl, SqL.of k3, by rw [List.length_map]; exact lpos, fun m2 mm2 mb2 => ?_⟩
      walk_at "rd"
      refine k_itend (fun q1 => ?_) (fun q1 => ?_)
      rotate_left
      · refine k_next ?_
        refine hnx _ ⟨.inl fun t mt => ?_, s1.trans s2⟩
        have a1 := mb1 _ (List.mem_map.mpr ⟨t, mt, rfl⟩)
        have a2 := mb2 _ (List.mem_map.mpr ⟨t, mt, rfl⟩)
        have b1 := mb1 _ (List.mem_map.mpr ⟨_, headD_mem (0, 0, 0) ho.ne, rfl⟩)
        have b2 := mb2 _ (List.mem_map.mpr ⟨_, headD_mem (0, 0, 0) ho.ne, rfl⟩)
        omega
      walk_at "rd"
      refine c_L (mp L fun t => .int (t.2.1 : Int)) h3_2 (by omega) rfl (fun i x H9 hi s9 => ?_) (fun D3 E3 ys k1 s3 k3 k4 => ?_)
      · obtain ⟨ce, ec, hc⟩ := map_get h4 hi
        rw [List.getElem?_map] at ec
        obtain ⟨t, et, rfl⟩ := Option.map_eq_some_iff.mp ec
        obtain ⟨d, rfl, hd⟩ := cell_open (hc.same ((s1.trans s2).trans s9))
        intro P R h1 h2
        walk_at "rd"
        refine ⟨rfl, ?_⟩
        walk_at "rd"
        exact h1 _ _ _ (.refl _) (mp_succ et) at_int
      rw [mp_all _ _ (by omega)] at k4
      have ey3 : ys = (L.map fun t => (t.2.1 : Int)).map V.int := AtAll.ints' (H := E3) (by rw [List.map_map]; exact k4)
      rw [ey3] at k3
      have h3_3 := s3 _ _ h3_2
      walk_at "rd"
      refine ⟨D3, L.map fun t => (t.2.1 : Int), rfl, SqL.of k3, by rw [List.length_map]; exact lpos, fun m3 mm3 mb3 => ?_⟩
      walk_at "rd"
      refine c_L (mp L fun t => .int (t.2.1 : Int)) h3_3 (by omega) rfl (fun i x H9 hi s9 => ?_) (fun D4 E4 ys k1 s4 k3 k4 => ?_)
      · obtain ⟨ce, ec, hc⟩ := map_get h4 hi
        rw [List.getElem?_map] at ec
        obtain ⟨t, et, rfl⟩ := Option.map_eq_some_iff.mp ec
        obtain ⟨d, rfl, hd⟩ := cell_open (hc.same (((s1.trans s2).trans s3).trans s9))
        intro P R h1 h2
        walk_at "rd"
        refine ⟨rfl, ?_⟩
        walk_at "rd"
        exact h1 _ _ _ (.refl _) (mp_succ et) at_int
      rw [mp_all _ _ (by omega)] at k4
      have ey4 : ys = (L.map fun t => (t.2.1 : Int)).map V.int := AtAll.ints' (H := E4) (by rw [List.map_map]; exact k4)
      rw [ey4] at k3
      have h3_4 := s4 _ _ h3_3
      walk_at "rd"
      refine ⟨D4, L.map fun t => (t.2.1 : Int), rfl, SqL.of k3, by rw [List.length_map]; exact lpos, fun m4 mm4 mb4 => ?_⟩
      walk_at "rd"
      refine k_itend (fun q2 => ?_) (fun q2 => ?_)
      · walk_at "rd"
        intro pt hpt
        exact hQ pt 2 0 0 _ (((((h2.trans s1).trans s2).trans s3).trans s4).trans (Same.new hpt)) upd_same (fun z => by omega)
      · refine k_next ?_
        refine hnx _ ⟨.inr fun t mt => ?_, ((s1.trans s2).trans s3).trans s4⟩
        have a1 := mb3 _ (List.mem_map.mpr ⟨t, mt, rfl⟩)
        have a2 := mb4 _ (List.mem_map.mpr ⟨t, mt, rfl⟩)
        have b1 := mb3 _ (List.mem_map.mpr ⟨_, headD_mem (0, 0, 0) ho.ne, rfl⟩)
        have b2 := mb4 _ (List.mem_map.mpr ⟨_, headD_mem (0, 0, 0) ho.ne, rfl⟩)
        omega
    obtain ⟨one, s3⟩ := hI
    have h43 := h4.same s3
    have h33 := s3 _ _ h3
    have s23 := h2.trans s3
    have ha3 := s23 _ _ ha
    have hz := fun (n : Int) (x y : Int) (pt : Addr) (H' : Hp) (s : Same H H') (e : H' pt = some (.tup [.int n, .int x, .int y])) => hQ pt n x y H' s e (fun _ => one)
    have eh : (L.map cel).headD (0, 0) = cel (L.headD (0, 0, 0)) := by cases L with | nil => exact (ho.ne rfl).elim | cons a b => rfl
    have el : (L.map cel).getLastD (0, 0) = cel (L.getLastD (0, 0, 0)) := by rw [List.getLastD_eq_getLast?, List.getLast?_map, last_get (d := (0, 0, 0)) ho.ne]; rfl
    obtain ⟨x0, ex0, hx0⟩ := map_head (d := (0, 0)) h43 (by simpa using ho.ne)
    obtain ⟨x1, ex1, hx1⟩ := map_last (d := (0, 0)) h43 (by simpa using ho.ne)
    rw [eh] at hx0
    rw [el] at hx1
    obtain ⟨p0, rfl, hp0⟩ := cell_open hx0
    obtain ⟨p1, rfl, hp1⟩ := cell_open hx1
    obtain ⟨b1, b2, _⟩ := ho.inn _ (headD_mem (0, 0, 0) ho.ne)
    obtain ⟨b3, b4, _⟩ := ho.inn _ (lastD_mem (0, 0, 0) ho.ne)
    have e1' : (cel (L.headD (0, 0, 0))).1 = (L.headD (0, 0, 0)).1 := rfl
    have e2' : (cel (L.headD (0, 0, 0))).2 = (L.headD (0, 0, 0)).2.1 := rfl
    have e3' : (cel (L.getLastD (0, 0, 0))).1 = (L.getLastD (0, 0, 0)).1 := rfl
    have e4' : (cel (L.getLastD (0, 0, 0))).2 = (L.getLastD (0, 0, 0)).2.1 := rfl
    walk_at "rd"
    refine k_ixL0 h33 ex0 ?_
    walk_at "rd"
    refine k_ixLn h33 ex1 ?_
    walk_at "rd"
    refine e_R2 (by omega) ?_
    refine f_R (fun i σ H' => (∃ a4 a5 a6, σ = [some (.ref a), some u, some (.ref p), some (.ref D), a4, a5, a6]) ∧ Same H3 H') ⟨⟨_, _, _, rfl⟩, .refl _⟩ (fun i σ H5 hi pv => ?_) (fun σ H5 pv => ?_)
    · obtain ⟨⟨a4, a5, a6, rfl⟩, s5⟩ := pv
      have h35 := s5 _ _ h33
      have hp05 := s5 _ _ hp0
      have hp15 := s5 _ _ hp1
      walk_at "rd"
      refine k_ixL0 h35 ex0 ?_
      walk_at "rd"
      refine k_ixLn h35 ex1 ?_
      walk_at "rd"
      refine e_R2 (by omega) ?_
      refine f_R (fun j σ H' => (∃ a5 a6, σ = [some (.ref a), some u, some (.ref p), some (.ref D), some (.int (((cel (L.headD (0, 0, 0))).1 : Int) + (i : Nat))), a5, a6]) ∧ Same H3 H') ⟨⟨_, _, rfl⟩, s5⟩ (fun j σ H6 hj pv => ?_) (fun σ H6 pv => ?_)
      · obtain ⟨⟨a5, a6, rfl⟩, s6⟩ := pv
        have ha6 := s6 _ _ ha3
        obtain ⟨l, f1, f2, f3⟩ := atN_get (r := (cel (L.headD (0, 0, 0))).1 + i) (c := (cel (L.headD (0, 0, 0))).2 + j) hg.row (by omega) (by omega)
        have g1 : ((cel (L.headD (0, 0, 0))).1 : Int) + (i : Nat) = (((cel (L.headD (0, 0, 0))).1 + i : Nat) : Int) := (Int.natCast_add _ _).symm
        have g2 : ((cel (L.headD (0, 0, 0))).2 : Int) + (j : Nat) = (((cel (L.headD (0, 0, 0))).2 + j : Nat) : Int) := (Int.natCast_add _ _).symm
        rw [g1, g2]
        walk_at "rd"
        refine k_ixT ha6 (gmap f1) ?_
        walk_at "rd"
        refine k_ixS (by omega) f3 ?_
        walk_at "rd"
        refine k_ited (fun q => ?_) (fun q => ?_)
        rotate_left
        · walk_at "rd"
          exact ⟨⟨_, _, rfl⟩, s6⟩
        walk_at "rd"
        intro pt hpt
        walk_at "rd"
        refine k_ninCells (c := ((cel (L.headD (0, 0, 0))).1 + i, (cel (L.headD (0, 0, 0))).2 + j)) (cs := L.map cel) (cell_mk upd_same) ⟨cs, upd_old (s6 _ _ h33) hpt, (h43.same s6).same (Same.new hpt)⟩ ?_
        walk_at "rd"
        refine k_itn (fun q4 => ?_) (fun q4 => ?_)
        · walk_at "rd"
          intro pt2 hpt2
          exact hz 3 _ _ pt2 _ (((s23.trans s6).trans (Same.new hpt)).trans (Same.new hpt2)) upd_same
        · walk_at "rd"
          exact ⟨⟨_, _, rfl⟩, s6.trans (Same.new hpt)⟩
      · obtain ⟨⟨a5, a6, rfl⟩, s6⟩ := pv
        exact ⟨⟨_, _, _, rfl⟩, s6⟩
    obtain ⟨⟨a4, a5, a6, rfl⟩, s5⟩ := pv
    have s25 := s23.trans s5
    walk_at "rd"
    refine ⟨_, u, D, g, h, w, c, L.map cel, rfl, hv.same s25, hg, hu.same s25, ⟨cs, s5 _ _ h33, h43.same s5⟩, by rw [List.length_map]; omega, fun b H6 s6 => ?_⟩
    walk_at "rd"
    refine k_itn (fun q => ?_) (fun q => ?_)
    · walk_at "rd"
      intro pt hpt
      exact hz 4 0 0 pt _ ((s25.trans s6).trans (Same.new hpt)) upd_same
    · walk_at "rd"
      intro pt hpt
      exact hz 9 0 0 pt _ ((s25.trans s6).trans (Same.new hpt)) upd_same

theorem ok_law_class {P : Program} {wd : World} {K : PySem.W.Frag} {mg : Str → Option Value} {bas : Heap} (T : Tx K mg)  :
    DefOk P wd K mg bas CX0 "_law_class" 1 ["_law_error"] (spClass K) := by
  refine def0 T.fn_law_class sc_law_class bp_law_class (fun vs H Q E h => ?_) (fun f cdv A outer s H vs Q E hr h => ?_)
  · obtain ⟨e, d, k, rfl, he, hd, k1, k6, hQ⟩ := h
    rfl
  · obtain ⟨e, d, k, rfl, he, hd, k1, k6, hQ⟩ := h
    refine ⟨_, (pss_cons (ps_set (i := 1) nd_law_class rfl (Or.inl rfl) (pe_lst (pa_cons (pe_callB b_isX rfl T.f_isinstance (by decide +kernel) (pa_cons (pv 0) (pa_cons (pe_gc T.c_NoLaying) pa_nil))) (pa_cons (pe_callB b_isX rfl T.f_isinstance (by decide +kernel) (pa_cons (pv 0) (pa_cons (pe_gc T.c_Taken) pa_nil))) (pa_cons (pe_callB b_isX rfl T.f_isinstance (by decide +kernel) (pa_cons (pv 0) (pa_cons (pe_gc T.c_Crooked) pa_nil))) pa_nil)))))
      (pss_cons (ps_set (i := 1) nd_law_class rfl (Or.inl rfl) (pe_op op_cat (pv 1) (pe_lst (pa_cons (pe_callB b_isX rfl T.f_isinstance (by decide +kernel) (pa_cons (pv 0) (pa_cons (pe_gc T.c_Gap) pa_nil))) (pa_cons (pe_callB b_isX rfl T.f_isinstance (by decide +kernel) (pa_cons (pv 0) (pa_cons (pe_gc T.c_Apart) pa_nil))) (pa_cons (pe_callB b_isX rfl T.f_isinstance (by decide +kernel) (pa_cons (pv 0) (pa_cons (pe_gc T.c_Lacking) pa_nil))) pa_nil))))))
      (pss_cons (ps_set (i := 1) nd_law_class rfl (Or.inl rfl) (pe_op op_cat (pv 1) (pe_lst (pa_cons (pe_callB b_isX rfl T.f_isinstance (by decide +kernel) (pa_cons (pv 0) (pa_cons (pe_gc T.c_NoWord) pa_nil))) pa_nil))))
      (pss_cons (ps_if (pt_val (pe_callB b_isXT rfl T.f_isinstance (by decide +kernel) (pa_cons (pv 0) (pa_cons (pe_tup (pa_cons (pe_gc T.c_NoBack) (pa_cons (pe_gc T.c_NoBoard) (pa_cons (pe_gc T.c_NoDeed) (pa_cons (pe_gc T.c_NoRow) (pa_cons (pe_gc T.c_NoText) (pa_cons (pe_gc T.c_Over) (pa_cons (pe_gc T.c_TooFew) (pa_cons (pe_gc T.c_Twice) pa_nil))))))))) pa_nil)))) (pss_one (ps_ret (pe_un un_neg pe_int))) pss_nil)
      (pss_cons (ps_if (PW.pt (pw_or (pt_not (pt_val (pe_callB b_isX rfl T.f_isinstance (by decide +kernel) (pa_cons (pv 0) (pa_cons (pe_bltn (v := .ty "ValueError") rfl T.f_ValueError (by decide +kernel) rfl) pa_nil))))) (pw_or1 (pt_cmpR op_ne (pe_callB b_lenQ rfl T.f_len (by decide +kernel) (pa_cons (pe_lc (own := [("_law_one", 2)]) (g := (gName 2)) rfl nd_law_class (pi_list (pv 1)) (blkOk_by (own := [("_law_one", 2)]) (N := N_law_class) (sc := (defScope s_law_class)) (by decide +kernel)) (fun _ _ _ _ _ => (pg_name (i := 2) nd_law_class rfl (Or.inl rfl))) (fun _ _ _ _ _ => (pts_one (pt_val (pv 2)))) (fun _ _ _ _ _ => (pv 2))) pa_nil)) pe_int (nomark _))))) (pss_one (ps_ret (pe_un un_neg pe_int))) pss_nil)
      (pss_one (ps_ret (pe_bm PySem.F.plainAttrs_list PySem.F.slot_list_index PySem.F.type_list_index mt_index (pv 1) (pa_cons pe_bl pa_nil))))))))), ?_⟩
    have hcB := T.cls_Board
    have hnr := T.na_Board_rows
    have hnm := T.na_Board_marks
    have hnb := T.na_Board_begin
    have hcK := T.cls_Book
    have hnh := T.na_Book_held
    have F := T.kit k k1 k6
    walk_at "rd"
    refine k_isX F.a0 he hd F.ec ?_
    walk_at "rd"
    refine k_isX F.a1 he hd F.ec ?_
    walk_at "rd"
    refine k_isX F.a2 he hd F.ec ?_
    walk_at "rd"
    intro p1 n1
    have g1 : upd H p1 (.lst [.bl (decide (k = 0)), .bl (decide (k = 1)), .bl (decide (k = 2))]) p1 = some _ := upd_same
    have s1 : Same H (upd H p1 (.lst [.bl (decide (k = 0)), .bl (decide (k = 1)), .bl (decide (k = 2))])) := Same.new n1
    generalize upd H p1 (.lst [.bl (decide (k = 0)), .bl (decide (k = 1)), .bl (decide (k = 2))]) = H1 at g1 s1
    walk_at "rd"
    refine k_isX F.a3 (s1 _ _ he) (hd.same s1) F.ec ?_
    walk_at "rd"
    refine k_isX F.a4 (s1 _ _ he) (hd.same s1) F.ec ?_
    walk_at "rd"
    refine k_isX F.a5 (s1 _ _ he) (hd.same s1) F.ec ?_
    walk_at "rd"
    intro p2 n2
    refine k_cat (upd_old g1 n2) upd_same (Nat.le_of_ble_eq_true (by rfl)) fun p3 n3 => ?_
    have s3 := (s1.trans (Same.new (o := .lst [.bl (decide (k = 3)), .bl (decide (k = 4)), .bl (decide (k = 5))]) n2)).trans (Same.new (o := .lst ([.bl (decide (k = 0)), .bl (decide (k = 1)), .bl (decide (k = 2))] ++ [.bl (decide (k = 3)), .bl (decide (k = 4)), .bl (decide (k = 5))])) n3)
    have g3 : (upd (upd H1 p2 (.lst [.bl (decide (k = 3)), .bl (decide (k = 4)), .bl (decide (k = 5))])) p3 (.lst ([.bl (decide (k = 0)), .bl (decide (k = 1)), .bl (decide (k = 2))] ++ [.bl (decide (k = 3)), .bl (decide (k = 4)), .bl (decide (k = 5))]))) p3 = some _ := upd_same
    generalize upd (upd H1 p2 (.lst [.bl (decide (k = 3)), .bl (decide (k = 4)), .bl (decide (k = 5))])) p3 (.lst ([.bl (decide (k = 0)), .bl (decide (k = 1)), .bl (decide (k = 2))] ++ [.bl (decide (k = 3)), .bl (decide (k = 4)), .bl (decide (k = 5))])) = H3 at s3 g3
    walk_at "rd"
    refine k_isX F.a6 (s3 _ _ he) (hd.same s3) F.ec ?_
    walk_at "rd"
    intro p4 n4
    refine k_cat (upd_old g3 n4) upd_same (Nat.le_of_ble_eq_true (by rfl)) fun p5 n5 => ?_
    have s5 := (s3.trans (Same.new (o := .lst [.bl (decide (k = 6))]) n4)).trans (Same.new (o := .lst ((someL k).map V.bl)) n5)
    have g5 : (upd (upd H3 p4 (.lst [.bl (decide (k = 6))])) p5 (.lst ((someL k).map V.bl))) p5 = some _ := upd_same
    show gName 1 _ _ (upd (upd H3 p4 (.lst [.bl (decide (k = 6))])) p5 (.lst ((someL k).map V.bl))) _
    generalize upd (upd H3 p4 (.lst [.bl (decide (k = 6))])) p5 (.lst ((someL k).map V.bl)) = H5 at s5 g5
    walk_at "rd"
    intro p6 n6
    refine ⟨e, _, p6, d, _, [.ref (He.ga K "NoBack"), .ref (He.ga K "NoBoard"), .ref (He.ga K "NoDeed"), .ref (He.ga K "NoRow"), .ref (He.ga K "NoText"), .ref (He.ga K "Over"), .ref (He.ga K "TooFew"), .ref (He.ga K "Twice")], false, rfl, upd_old (s5 _ _ he) n6, (hd.same s5).same (Same.new n6), F.ec, upd_same,
      .cons (.own _) (.cons (.own _) (.cons (.own _) (.cons (.own _) (.cons (.own _) (.cons (.own _) (.cons (.own _) (.cons (.own _) .nil))))))), F.an, ?_⟩
    have s6 := s5.trans (Same.new (o := .tup [.ref (He.ga K "NoBack"), .ref (He.ga K "NoBoard"), .ref (He.ga K "NoDeed"), .ref (He.ga K "NoRow"), .ref (He.ga K "NoText"), .ref (He.ga K "Over"), .ref (He.ga K "TooFew"), .ref (He.ga K "Twice")]) n6)
    have g6 := upd_old (u := .tup [.ref (He.ga K "NoBack"), .ref (He.ga K "NoBoard"), .ref (He.ga K "NoDeed"), .ref (He.ga K "NoRow"), .ref (He.ga K "NoText"), .ref (He.ga K "Over"), .ref (He.ga K "TooFew"), .ref (He.ga K "Twice")]) g5 n6
    generalize upd H5 p6 (.tup [.ref (He.ga K "NoBack"), .ref (He.ga K "NoBoard"), .ref (He.ga K "NoDeed"), .ref (He.ga K "NoRow"), .ref (He.ga K "NoText"), .ref (He.ga K "Over"), .ref (He.ga K "TooFew"), .ref (He.ga K "Twice")]) = H6 at s6 g6
    walk_at "rd"
    refine k_isXv F.av (s6 _ _ he) (hd.same s6) F.ec ?_
    walk_at "rd"
    obtain ⟨o1, o2, o3⟩ := some_one k k1 k6
    refine c_L (flt (someL k) (fun b => b) PyData.bool) g6 (Nat.le_of_ble_eq_true (by rfl)) rfl (fun i x H7 hi s7 => ?_) (fun D H7 ys f1 f2 f3 f4 => ?_)
    · rw [List.getElem?_map] at hi
      obtain ⟨b, eb, rfl⟩ := Option.map_eq_some_iff.mp hi
      intro P R h1 h2
      walk_at "rd"
      refine ⟨rfl, ?_⟩
      walk_at "rd"
      refine k_ite (fun q => ?_) (fun q => ?_)
      · walk_at "rd"
        exact h1 _ _ (.bool b) (.refl _) (flt_yes eb q) at_bl
      · exact h2 _ (.refl _) (flt_no eb q)
    rw [flt_all _ _ _ (by rw [List.length_map]; exact Nat.le_refl _)] at f4
    have yl := map_len f4
    rw [o1] at yl
    have g7 := f2 _ _ g6
    walk_at "rd"
    rw [yl]
    refine k_itnTr rfl ?_
    walk_at "rd"
    refine ⟨p5, (someL k).map V.bl, .bl true, k, .bl true, rfl, rfl, SqL.of g7, rfl, ?_, by rw [List.getElem?_map, o2]; rfl, rfl, fun m z' hm hz => ?_, ?_⟩
    · rw [List.all_map, List.all_eq_true]; exact fun _ _ => rfl
    · rw [List.getElem?_map, o3 m hm] at hz
      cases hz; rfl
    · exact hQ _ (s6.trans f2)

theorem ok_law_caught {P : Program} {wd : World} {K : PySem.W.Frag} {mg : Str → Option Value} {bas : Heap} (T : Tx K mg) (c_check_laying : DefOk P wd K mg bas (L2.CX P wd) "check_laying" 7 ["board", "book", "rack", "laying"] (spCheckLaying K)) :
    DefOk P wd K mg bas CX0 "_law_caught" 8 ["_law_board", "_law_book", "_law_rack_here", "_law_laying"] (spCaught K) := by
  refine def0 T.fn_law_caught sc_law_caught bp_law_caught (fun vs H Q E h => ?_) (fun f cdv A outer s H vs Q E hr h => ?_)
  · obtain ⟨b, k, rack, v, g, m, beg, h, w, ws, L, rfl, hB, hg, hm, b1, b2, hK, hrk, hL, ho, hok, hbad⟩ := h
    rfl
  · obtain ⟨b, k, rack, v, g, m, beg, h, w, ws, L, rfl, hB, hg, hm, b1, b2, hK, hrk, hL, ho, hok, hbad⟩ := h
    refine ⟨_, (pss_cons (ps_set (i := 4) nd_law_caught rfl (Or.inl rfl) pe_non)
      (pss_cons (ps_try_keep (i := 5) (j := 4) (c := .ref (He.ga K "RackError")) rfl rfl rfl nd_law_caught rfl rfl rfl rfl rfl rfl ⟨rfl, rfl, .inl T.c_RackError⟩ rfl (fun W pn xe tkk po => pss_one (ps_set (i := 4) nd_law_caught rfl (Or.inl rfl) (pe_fn (E := fun cls d H' => ∀ σ, σ.length = 6 → W cls d σ H') c_check_laying (hr.mono (by decide)) (passes_len tkk fun _ _ σ _ l q => q σ l) (pa_cons (pv 0) (pa_cons (pv 1) (pa_cons (pv 2) (pa_cons (pv 3) pa_nil))))))))
      (pss_one (ps_ret (pv 4))))), ?_⟩
    have hcB := T.cls_Board
    have hnr := T.na_Board_rows
    have hnm := T.na_Board_marks
    have hnb := T.na_Board_begin
    have hcK := T.cls_Book
    have hnh := T.na_Book_held
    walk_at "rd"
    refine ⟨b, k, rack, v, g, m, beg, h, w, ws, L, rfl, hB, hg, hm, b1, b2, hK, hrk, hL, ho, fun q H1 s1 => ?_, fun q d H1 s1 x1 σ l6 => ?_⟩
    · walk_at "rd"
      exact hok q H1 s1
    have hlt := check_lt g beg ws rack L
    refine ⟨T.caught _ (by omega) hlt, fun a ha => ?_⟩
    show tRet (tVar 4) _ _ _
    refine k_ret ?_
    refine k_var (v := .ref a) ?_ ?_
    · rw [List.getElem?_set_ne (by decide), List.getElem?_set_self (by rw [List.length_set]; omega)]
    exact hbad q a d _ (s1.trans (Same.new ha)) upd_same (x1.same (Same.new ha))

/-! ### lists of three -/
def triV (t : Tri) : List V := [.int (t.1 : Int), .int (t.2.1 : Int), .str (mk [t.2.2])]
def LL (H0 H : Hp) (p : Addr) (G : List Tri) : Prop := H0 p = none ∧ ∃ qs : List Addr, H p = some (.lst (qs.map V.ref)) ∧ qs.Nodup ∧ qs.length = G.length ∧ (∀ (i : Nat) (q : Addr) (t : Tri), qs[i]? = some q → G[i]? = some t → H q = some (.lst (triV t))) ∧ ∀ q ∈ qs, H0 q = none ∧ q ≠ p
theorem LL.row {H0 H : Hp} {p : Addr} {G : List Tri} {i : Nat} {t : Tri} (h : LL H0 H p G) (e : G[i]? = some t) : ∃ (vs : List V) (q : Addr), H p = some (.lst vs) ∧ vs.length = G.length ∧ vs[i]? = some (.ref q) ∧ H q = some (.lst (triV t)) ∧ H0 q = none ∧ q ≠ p ∧ ∀ t', LL H0 (upd H q (.lst (triV t'))) p (G.set i t') := by
  obtain ⟨h0, qs, h1, h2, h3, h4, h5⟩ := h
  have hi : i < qs.length := by rw [h3]; exact (List.getElem?_eq_some_iff.mp e).1
  have eq := List.getElem?_eq_getElem hi
  obtain ⟨q0, qp⟩ := h5 _ (List.getElem_mem hi)
  refine ⟨_, qs[i], h1, by rw [List.length_map, h3], by rw [List.getElem?_map, eq]; rfl, h4 i _ t eq e, q0, qp, fun t' => ⟨h0, qs, by rw [upd_ne (Ne.symm qp)]; exact h1, h2, by rw [List.length_set]; exact h3, fun j q u e1 e2 => ?_, h5⟩⟩
  by_cases ij : i = j
  · subst ij
    rw [eq] at e1
    cases e1
    rw [List.getElem?_set_self (by rw [← h3]; exact hi)] at e2
    cases e2
    exact upd_same
  · rw [List.getElem?_set_ne ij] at e2
    have nq : q ≠ qs[i] := fun z => by
      obtain ⟨l2, a2⟩ := List.getElem?_eq_some_iff.mp e1
      exact ij ((List.getElem_inj h2).mp (a2.trans z).symm)
    rw [upd_ne nq]
    exact h4 j q u e1 e2
theorem LL.sb {H0 H H' : Hp} {p r : Addr} {G : List Tri} {o : HO} (h : LL H0 H p G) (hr : H0 r = some o) (s : Sb r H H') : LL H0 H' p G := by
  obtain ⟨h0, qs, h1, h2, h3, h4, h5⟩ := h
  refine ⟨h0, qs, s _ _ (fun z => by rw [z, hr] at h0; cases h0) h1, h2, h3, fun i q t e1 e2 => s _ _ (fun z => ?_) (h4 i q t e1 e2), h5⟩
  have := (h5 q (List.mem_of_getElem? e1)).1
  rw [z, hr] at this
  cases this
theorem LL.same {H0 H H' : Hp} {p : Addr} {G : List Tri} (h : LL H0 H p G) (s : Same H H') : LL H0 H' p G := by
  obtain ⟨h0, qs, h1, h2, h3, h4, h5⟩ := h
  exact ⟨h0, qs, s _ _ h1, h2, h3, fun i q t e1 e2 => s _ _ (h4 i q t e1 e2), h5⟩
theorem LL.cut {H0 H H3 : Hp} {p p3 : Addr} {G : List Tri} {vs : List V} {a b : Nat} (h : LL H0 H p G) (hv : H p = some (.lst vs)) (s : Same H H3) (h3 : H3 p3 = some (.lst (vs.take a ++ vs.drop b))) (ab : a ≤ b) (hn : H p3 = none) (h0 : H0 p3 = none) : LL H0 H3 p3 (G.take a ++ G.drop b) := by
  obtain ⟨_, qs, h1, h2, h4, h5, h6⟩ := h
  rw [h1] at hv
  cases hv
  have sub : (qs.take a ++ qs.drop b).Sublist qs := by
    have e : qs = qs.take a ++ qs.drop a := (List.take_append_drop a qs).symm
    conv => rhs; rw [e]
    refine List.Sublist.append (List.Sublist.refl _) ?_
    have e2 : qs.drop b = (qs.drop a).drop (b - a) := by rw [List.drop_drop]; congr 1; omega
    rw [e2]; exact List.drop_sublist _ _
  refine ⟨h0, qs.take a ++ qs.drop b, by rw [h3, List.map_append, List.map_take, List.map_drop], sub.nodup h2, by simp [h4], fun i q t e1 e2 => ?_, fun q m => ⟨(h6 q (sub.subset m)).1, fun z => ?_⟩⟩
  · by_cases hi : i < (qs.take a).length
    · rw [List.getElem?_append_left hi] at e1
      have hi2 : i < (G.take a).length := by rw [List.length_take] at hi ⊢; omega
      rw [List.getElem?_append_left hi2] at e2
      rw [List.length_take] at hi
      rw [List.getElem?_take_of_lt (by omega)] at e1 e2
      exact s _ _ (h5 i q t e1 e2)
    · have hlen : (qs.take a).length = (G.take a).length := by rw [List.length_take, List.length_take, h4]
      rw [List.getElem?_append_right (by omega)] at e1
      rw [List.getElem?_append_right (by omega), ← hlen] at e2
      rw [List.getElem?_drop] at e1 e2
      exact s _ _ (h5 _ q t e1 e2)
  · have m2 := sub.subset m
    obtain ⟨j, hj, ej⟩ := List.mem_iff_getElem.mp m2
    have q1 := h5 j q (G[j]'(by omega)) (by rw [List.getElem?_eq_getElem hj, ej]) (List.getElem?_eq_getElem _)
    rw [z, hn] at q1
    cases q1
theorem c_ll {K : PySem.W.Frag} {H1 : Hp} {Q : VK} {gg : TG} {tt : TT} {te : TE} {vs : List Nat} {σ : L2.St} {a : Addr} {xs : List V} {G : List Tri} (hx : H1 a = some (.tup xs)) (hg : xs.length = G.length) (hl : xs.length ≤ 1000)
    (hs : ∀ (i : Nat) (x : V) (t : Tri), xs[i]? = some x → G[i]? = some t → ∀ (H : Hp) (P : VK) (R : Hp → Prop), Same H1 H → (∀ l, H l = none → P (.ref l) (upd H l (.lst (triV t)))) → gg x (wipe σ vs) H fun σ2 H2 => wipe σ2 vs = wipe σ vs ∧ tt σ2 H2 fun b H3 => if b = true then te σ2 H3 P else R H3)
    (hd : ∀ D H, LL H1 H D G → Same H1 H → Q (.ref D) H) : lcK gg tt te vs σ Q (Itt K a) H1 := fun D hD => by
  refine lc_tup (xs := xs) (fun i H => Same H1 H ∧ ∃ qs : List Addr, H D = some (.lst (qs.map V.ref)) ∧ qs.Nodup ∧ qs.length = i ∧ (∀ (j : Nat) (q : Addr) (t : Tri), qs[j]? = some q → G[j]? = some t → H q = some (.lst (triV t))) ∧ ∀ q ∈ qs, H1 q = none ∧ q ≠ D ∧ ∃ o, H q = some o)
    ⟨Same.new hD, [], upd_same, List.nodup_nil, rfl, fun j q r e => (by cases e), fun q m => (by cases m)⟩ (fun i H _ p => SqT.of (p.1 _ _ hx)) (fun i x H hi p => ?_) fun H p => ?_
  · obtain ⟨s1, qs, h1, h2, h3, h4, h5⟩ := p
    have hig := (List.getElem?_eq_some_iff.mp hi).1
    have er : G[i]? = some (G[i]'(by omega)) := List.getElem?_eq_getElem _
    refine hs i x _ hi er H _ _ s1 fun l hn => ?_
    have nlD : D ≠ l := fun z => by rw [← z, h1] at hn; cases hn
    have nlq : ∀ q ∈ qs, q ≠ l := fun q m z => by
      obtain ⟨_, _, o, ho⟩ := h5 q m
      rw [z, hn] at ho; cases ho
    refine ⟨qs.map V.ref, by rw [upd_ne nlD]; exact h1, by rw [List.length_map, sizeLine_eq]; omega, Same.wr (s1.trans (Same.new hn)) hD, qs ++ [l], ?_, ?_, ?_, fun j q r2 e1 e2 => ?_, fun q m => ?_⟩
    · rw [upd_same, List.map_append]; rfl
    · rw [List.nodup_append]
      exact ⟨h2, by simp, fun q m z k => by rw [List.mem_singleton] at k; subst k; exact nlq q m⟩
    · rw [List.length_append, h3]; rfl
    · rw [List.getElem?_append] at e1
      split at e1
      · have m := List.mem_of_getElem? e1
        rw [upd_ne (h5 q m).2.1, upd_ne (nlq q m)]
        exact h4 j q r2 e1 e2
      · have hj2 : j = qs.length := by
          cases q2 : j - qs.length with
          | zero => omega
          | succ n => rw [q2] at e1; cases e1
        subst hj2
        rw [Nat.sub_self] at e1
        cases e1
        rw [h3, er] at e2
        cases e2
        rw [upd_ne (Ne.symm nlD), upd_same]
    · rw [List.mem_append, List.mem_singleton] at m
      rcases m with m | rfl
      · obtain ⟨m1, m2, o, m3⟩ := h5 q m
        exact ⟨m1, m2, o, by rw [upd_ne m2, upd_ne (nlq q m)]; exact m3⟩
      · exact ⟨Same.fr s1 hn, Ne.symm nlD, _, by rw [upd_ne (Ne.symm nlD), upd_same]⟩
  · obtain ⟨s1, qs, h1, h2, h3, h4, h5⟩ := p
    exact hd D H ⟨hD, qs, h1, h2, by rw [h3, hg], h4, fun q m => ⟨(h5 q m).1, (h5 q m).2.1⟩⟩ s1
/-! ### signs by cells -/
def encK (c : Cel) : List Key := [Sum.inl (c.1 : Int), Sum.inl (c.2 : Int)]
def encE (e : Cel × Nat) : List Key × V := (encK e.1, .str (mk [e.2]))
theorem encK_inj {a b : Cel} : encK a = encK b ↔ a = b := by
  obtain ⟨a1, a2⟩ := a
  obtain ⟨b1, b2⟩ := b
  simp only [encK, List.cons.injEq, Sum.inl.injEq, Prod.mk.injEq, and_true]
  omega
def putC (as : List (Cel × Nat)) (c : Cel) (s : Nat) : List (Cel × Nat) := if (as.any fun e => decide (e.1 = c)) = true then as.map (fun e => if e.1 = c then (e.1, s) else e) else as ++ [(c, s)]
theorem put_enc (as : List (Cel × Nat)) (c : Cel) (s : Nat) : putK (as.map encE) (encK c) (.str (mk [s])) = (putC as c s).map encE := by
  unfold putK putC
  have e : ((as.map encE).any fun kv => decide (kv.1 = encK c)) = as.any fun e => decide (e.1 = c) := by
    rw [List.any_map]
    congr 1
    funext e
    show decide (encK e.1 = encK c) = _
    rw [Bool.eq_iff_iff, decide_eq_true_eq, decide_eq_true_eq, encK_inj]
  rw [e]
  by_cases q : (as.any fun e => decide (e.1 = c)) = true
  · rw [if_pos q, if_pos q, List.map_map, List.map_map]
    apply List.map_congr_left
    intro x _
    show (if encK x.1 = encK c then (encK x.1, _) else encE x) = encE (if x.1 = c then (x.1, s) else x)
    by_cases z : x.1 = c
    · rw [if_pos (encK_inj.mpr z), if_pos z]; rfl
    · rw [if_neg (fun y => z (encK_inj.mp y)), if_neg z]
  · rw [if_neg q, if_neg q, List.map_append]; rfl
theorem put_keys (as : List (Cel × Nat)) (c : Cel) (s : Nat) : (putC as c s).map (·.1) = if (as.any fun e => decide (e.1 = c)) = true then as.map (·.1) else as.map (·.1) ++ [c] := by
  unfold putC
  by_cases q : (as.any fun e => decide (e.1 = c)) = true
  · rw [if_pos q, if_pos q, List.map_map]
    apply List.map_congr_left
    intro x _
    show (if x.1 = c then (x.1, s) else x).1 = x.1
    split <;> rfl
  · rw [if_neg q, if_neg q, List.map_append]; rfl
theorem put_mem {as : List (Cel × Nat)} {c : Cel} {s : Nat} {e : Cel × Nat} (m : e ∈ putC as c s) : e ∈ as ∨ e = (c, s) := by
  unfold putC at m
  split at m
  · obtain ⟨x, mx, rfl⟩ := List.mem_map.mp m
    by_cases z : x.1 = c
    · rw [if_pos z, z]; exact .inr rfl
    · rw [if_neg z]; exact .inl mx
  · rcases List.mem_append.mp m with m | m
    · exact .inl m
    · exact .inr (List.mem_singleton.mp m)
theorem put_nodup {as : List (Cel × Nat)} {c : Cel} {s : Nat} (h : (as.map (·.1)).Nodup) : ((putC as c s).map (·.1)).Nodup := by
  rw [put_keys]
  split
  · exact h
  · rename_i q
    rw [List.nodup_append]
    refine ⟨h, by simp, fun x m y k z => q ?_⟩
    rw [List.mem_singleton] at k
    obtain ⟨e, me, rfl⟩ := List.mem_map.mp m
    exact List.any_eq_true.mpr ⟨e, me, decide_eq_true (z.trans k)⟩
theorem val_enc {as : List (Cel × Nat)} {c : Cel} (m : c ∈ as.map (·.1)) : ∃ s, (c, s) ∈ as ∧ valV (as.map encE) (encK c) = some (.str (mk [s])) := by
  induction as with
  | nil => cases m
  | cons a r ih =>
    by_cases e : a.1 = c
    · refine ⟨a.2, ?_, ?_⟩
      · rw [← e]; exact List.mem_cons_self ..
      · rw [List.map_cons, valV_pos (show (encE a).1 = encK c from encK_inj.mpr e)]; rfl
    · have m2 : c ∈ r.map (·.1) := by
        rw [List.map_cons] at m
        rcases List.mem_cons.mp m with z | z
        · exact (e z.symm).elim
        · exact z
      obtain ⟨s, h1, h2⟩ := ih m2
      exact ⟨s, List.mem_cons_of_mem _ h1, by rw [List.map_cons, valV_neg (show ¬ (encE a).1 = encK c from fun y => e (encK_inj.mp y))]; exact h2⟩
theorem keys_at {H : Hp} : ∀ {as : List (Cel × Nat)} {bs : List Addr}, IsKeys H (as.map encE) bs → AtAll H ((as.map (·.1)).map cellD) (bs.map V.ref)
  | [], _, .nil => aa_nil
  | a :: r, _, .cons h t => aa_cons (cell_mk (c := a.1) h) (keys_at t)
theorem dlt_cell {x y : Cel} (h : cLt x y) : PySem.W.dataLt (cellD x) (cellD y) = true := by
  unfold cellD
  rw [PySem.W.dataLt_ii]
  unfold cLt at h
  exact decide_eq_true (by omega)
theorem srt_cells (cs : List Cel) : srt (cs.map cellD) = (cs.mergeSort fun a b => PySem.W.dataLe false id (cellD a) (cellD b)).map cellD :=
  (PySem.W.sort_maps (r := fun a b => PySem.W.dataLe false id (cellD a) (cellD b)) (s := PySem.W.dataLe false id) cellD (l := cs) (fun _ _ _ _ => rfl)).symm
theorem cells_asc (cs : List Cel) (n : cs.Nodup) : (cs.mergeSort fun a b => PySem.W.dataLe false id (cellD a) (cellD b)).Pairwise cLt := by
  have hs : (cs.mergeSort fun a b => PySem.W.dataLe false id (cellD a) (cellD b)).Pairwise fun a b => PySem.W.dataLe false id (cellD a) (cellD b) = true := List.pairwise_mergeSort (le_trans' cellD) (le_total' cellD) _
  have hn := (List.mergeSort_perm cs (fun a b => PySem.W.dataLe false id (cellD a) (cellD b))).nodup_iff.mpr n
  rw [List.nodup_iff_pairwise_ne] at hn
  refine (hs.and hn).imp fun {a b} ⟨h1, h2⟩ => cLt_tri (fun z => ?_) h2
  rw [le_of, dlt_cell z] at h1
  cases h1
theorem ok_law_bent {P : Program} {wd : World} {K : PySem.W.Frag} {mg : Str → Option Value} {bas : Heap} (T : Tx K mg) (c_law_take : DefOk P wd K mg bas CX0 "_law_take" 1 ["_law_rest_here", "_law_base"] spTake) :
    DefOk P wd K mg bas CX0 "_law_bent" 2 ["_law_laying", "_law_rest_here", "_law_rows_here"] spBent := by
  refine def0 T.fn_law_bent sc_law_bent bp_law_bent (fun vs H Q E h => ?_) (fun f cdv A outer s H vs Q E hr h => ?_)
  · obtain ⟨z, r, v, g, h, w, L, rfl, hr0, hv, hg, hL, ho, hQ⟩ := h
    rfl
  · obtain ⟨z, r, v, g, h, w, L, rfl, hr0, hv, hg, hL, ho, hQ⟩ := h
    refine ⟨_, (pss_cons (ps_setLc (i := 3) (own := [("_law_one", 11)]) (g := (gName 11)) (tt := tYes) rfl nd_law_bent rfl rfl (sw_true rfl rfl rfl (by decide +kernel)) (pi_tup (pv 0)) (blkOk_by (own := [("_law_one", 11)]) (N := N_law_bent) (sc := (defScope s_law_bent)) (by decide +kernel)) (fun _ _ _ _ _ => (pg_name (i := 11) nd_law_bent rfl (Or.inl rfl))) (fun _ _ _ _ _ => pts_nil) (fun _ _ _ _ _ => (pe_callTy (call_of (rLstT K) b_lstT rfl) rfl T.f_list (by decide +kernel) (pa_cons (pv 11) pa_nil))))
      (pss_cons (ps_set (i := 4) nd_law_bent rfl (Or.inl rfl) (pe_fn c_law_take (hr.mono (by decide)) pass0 (pa_cons (pv 1) (pa_cons pe_int pa_nil))))
      (pss_cons (ps_set (i := 5) nd_law_bent rfl (Or.inl rfl) (pe_fn c_law_take (hr.mono (by decide)) pass0 (pa_cons (pv 1) (pa_cons (pe_callB b_lenQ rfl T.f_len (by decide +kernel) (pa_cons (pv 3) pa_nil)) pa_nil))))
      (pss_cons (ps_set (i := 6) nd_law_bent rfl (Or.inl rfl) (pe_fn c_law_take (hr.mono (by decide)) pass0 (pa_cons (pv 1) (pa_cons (pe_op op_mul (pe_callB b_lenQ rfl T.f_len (by decide +kernel) (pa_cons (pv 2) pa_nil)) (pe_callB b_lenT rfl T.f_len (by decide +kernel) (pa_cons (pe_ix ix_tup (pv 2) pe_int (fun _ _ => rfl)) pa_nil))) pa_nil))))
      (pss_cons (ps_if (PW.pt (pw_or (pt_cmpR op_eq (pv 4) pe_int (nomark _)) (pw_or1 (pt_cmpR op_eq (pv 4) pe_int (nomark _))))) (pss_one (ps_asg (pe_op op_fdiv (pv 6) (pe_callB b_lenT rfl T.f_len (by decide +kernel) (pa_cons (pe_ix ix_tup (pv 2) pe_int (fun _ _ => rfl)) pa_nil))) (pg_sub (pe_ix ix_list (pv 3) (pv 5) (fun _ _ => rfl)) pe_int set_list))) pss_nil)
      (pss_cons (ps_if (PW.pt (pw_or (pt_cmpR op_eq (pv 4) pe_int (nomark _)) (pw_or1 (pt_cmpR op_eq (pv 4) pe_int (nomark _))))) (pss_one (ps_asg (pe_op op_mod (pv 6) (pe_callB b_lenT rfl T.f_len (by decide +kernel) (pa_cons (pe_ix ix_tup (pv 2) pe_int (fun _ _ => rfl)) pa_nil))) (pg_sub (pe_ix ix_list (pv 3) (pv 5) (fun _ _ => rfl)) pe_int set_list))) pss_nil)
      (pss_cons (ps_if (PW.pt (pw_and (pt_cmpR op_eq (pv 4) pe_int (nomark _)) (pw_and1 (pt_cmpR op_gt (pe_callB b_lenQ rfl T.f_len (by decide +kernel) (pa_cons (pv 3) pa_nil)) pe_int (nomark _))))) (pss_one (ps_set (i := 3) nd_law_bent rfl (Or.inl rfl) (pe_op op_cat (pe_slice sl_list (pv 3) po_none (po_some (pe_op op_add pe_int (pe_op op_mod (pv 5) (pe_op op_sub (pe_callB b_lenQ rfl T.f_len (by decide +kernel) (pa_cons (pv 3) pa_nil)) pe_int))))) (pe_slice sl_list (pv 3) (po_some (pe_op op_add pe_int (pe_op op_mod (pv 5) (pe_op op_sub (pe_callB b_lenQ rfl T.f_len (by decide +kernel) (pa_cons (pv 3) pa_nil)) pe_int)))) po_none)))) pss_nil)
      (pss_cons (ps_set (i := 7) nd_law_bent rfl (Or.inr rfl) pe_dnewT)
      (pss_cons (ps_for PassesOwn.never rfl (pi_list (pv 3)) (pg_lst rfl (pgs_cons (pg_name (i := 8) nd_law_bent rfl (Or.inl rfl)) (pgs_cons (pg_name (i := 9) nd_law_bent rfl (Or.inl rfl)) (pgs_cons (pg_name (i := 10) nd_law_bent rfl (Or.inl rfl)) pgs_nil)))) (pss_one (ps_dput (hu_of hr) (pv 7) (pe_tup (pa_cons (pv 8) (pa_cons (pv 9) pa_nil))) (pv 10) rfl)))
      (pss_one (ps_ret (pe_callTy b_tupL rfl T.f_tuple (by decide +kernel) (pa_cons (pe_lc (own := [("_law_row", 8), ("_law_column", 9)]) (g := (gTup K 2 (gCons (gName 8) (gCons (gName 9) gNil)))) (tt := tYes) rfl nd_law_bent (pi_list (pe_callB (b_srtD hr) rfl T.f_sorted (by decide +kernel) (pa_cons (pe_callTy (call_list_dT rfl) rfl T.f_list (by decide +kernel) (pa_cons (pv 7) pa_nil)) pa_nil))) (blkOk_by (own := [("_law_row", 8), ("_law_column", 9)]) (N := N_law_bent) (sc := (defScope s_law_bent)) (by decide +kernel)) (fun _ _ _ _ _ => (pg_tup rfl (pgs_cons (pg_name (i := 8) nd_law_bent rfl (Or.inl rfl)) (pgs_cons (pg_name (i := 9) nd_law_bent rfl (Or.inl rfl)) pgs_nil)))) (fun _ _ _ _ _ => pts_nil) (fun _ _ _ _ _ => (pe_tup (pa_cons (pv 8) (pa_cons (pv 9) (pa_cons (pe_dget (hu_of hr) (pv 7) (pe_tup (pa_cons (pv 8) (pa_cons (pv 9) pa_nil))) (fun _ _ => rfl)) pa_nil)))))) pa_nil))))))))))))), ?_⟩
    have hcB := T.cls_Board
    have hnr := T.na_Board_rows
    have hnm := T.na_Board_marks
    have hnb := T.na_Board_begin
    have hcK := T.cls_Book
    have hnh := T.na_Book_held
    obtain ⟨a, rfl, ha⟩ := rows_open hv
    obtain ⟨p, vs, rfl, hp, hvs⟩ := lay_open hL
    have hvl := map_len hvs
    have l7 := ho.few
    have lpos : 0 < L.length := List.length_pos_iff.mpr ho.ne
    have h1 := hg.h1
    have h9 := hg.h9
    have w1 := hg.w1
    have w9 := hg.w9
    obtain ⟨l0, e0, n0⟩ := hg.top
    have e0' := gmap e0
    have hl : (g.map fun l => V.str (mk l)).length = h := by rw [List.length_map, hg.len]
    obtain ⟨rn, hrn⟩ := id hr0
    walk_at "rd"
    refine c_ll (G := L) hp hvl (by omega) (fun i x t hi et H1 P R s1 hP => ?_) (fun D H1 hLL s1 => ?_)
    · obtain ⟨t2, et2, ht⟩ := map_get hvs hi
      rw [et] at et2
      cases et2
      obtain ⟨q, rfl, hq⟩ := tri_open (ht.same s1)
      walk_at "rd"
      refine ⟨rfl, ?_⟩
      walk_at "rd"
      exact k_lstT hq fun l hl => hP l hl
    obtain ⟨ys, hD, yl⟩ : ∃ ys, H1 D = some (.lst ys) ∧ ys.length = L.length := by
      obtain ⟨vs', q, z1, z2, _⟩ := hLL.row (head_get (d := (0, 0, 0)) ho.ne)
      exact ⟨vs', z1, z2⟩
    have r1 := hr0.same s1
    have nDr : D ≠ r := fun z => by have := hLL.1; rw [z, hrn] at this; cases this
    walk_at "rd"
    refine k_dig (Sb.same s1) r1 (by decide) (by decide) fun d1 H2 d1b s2 s2' r2 => ?_
    have hD2 := s2' _ _ nDr hD
    have hLL2 := hLL.sb hrn s2'
    walk_at "rd"
    rw [yl]
    refine k_dig s2 r2 (by omega) (by omega) fun d2 H3 d2b s3 s3' r3 => ?_
    have hLL3 := hLL2.sb hrn s3'
    have ha3 := s3.tup hr0 ha
    walk_at "rd"
    refine k_lenT (by omega) ?_
    rw [hl, n0]
    refine k_I (Or.inl ⟨by omega, by omega⟩) ?_
    walk_at "rd"
    have ehw : (h : Int) * (w : Int) = ((h * w : Nat) : Int) := (Int.natCast_mul h w).symm
    have hpos : 0 < h * w := Nat.mul_pos (by omega) (by omega)
    have hle : h * w ≤ 9 * 9 := Nat.mul_le_mul h9 w9
    rw [ehw]
    refine k_dig s3 r3 (by omega) (by omega) fun d3 H4 d3b s4 s4' r4 => ?_
    have hLL4 := hLL3.sb hrn s4'
    have ha4 := s4.tup hr0 ha
    have hd3 : d3 < h * w := by omega
    have hd2 : d2 < L.length := by omega
    have q1 : d3 / w < h := Nat.div_lt_of_lt_mul (by rw [Nat.mul_comm]; exact hd3)
    have q2 : d3 % w < w := Nat.mod_lt _ (by omega)
    have e3 : (d3 : Int) / (w : Int) = ((d3 / w : Nat) : Int) := (Int.natCast_ediv d3 w).symm
    have e4 : (d3 : Int) % (w : Int) = ((d3 % w : Nat) : Int) := (Int.natCast_emod d3 w).symm
    with_reducible refine k_gn ?_
    clear hD hD2 s1 s2 s3 s2' s3' s4' r1 r2 r3 hLL hLL2 hLL3
    with_reducible refine k_seqS (fun σ H' => (∃ a7 a8 a9 a10 a11, σ = [some (.ref p), some (.ref r), some (.ref a), some (.ref D), some (.int (d1 : Int)), some (.int (d2 : Int)), some (.int (d3 : Int)), a7, a8, a9, a10, a11]) ∧ Sb r H H' ∧ RestAt H' r ∧ ∃ G : List Tri, LL H H' D G ∧ G.length = L.length ∧ ∀ t ∈ G, t.1 < h ∧ t.2.1 < w ∧ isSg t.2.2 = true) (fun nx hnx => ?_) fun σ H5 hI => ?_
    · have hyes : tAsg (tOp (rI CDiv fun i j => V.int (i / j)) (tVar 6) (tCB rLenT (tCons (tOp (rIxT K) (tVar 2) (tC (V.int 0))) tNil))) (gSub (tOp (rIxL K) (tVar 3) (tVar 5)) (tC (V.int 0)) rSetL) ⟨nx, Q, fun _ _ => False, fun _ _ => False⟩ [some (.ref p), some (.ref r), some (.ref a), some (.ref D), some (.int (d1 : Int)), some (.int (d2 : Int)), some (.int (d3 : Int)), none, none, none, none, none] H4 := by
        have eL := List.getElem?_eq_getElem hd2
        obtain ⟨us, q, z1, z2, z3, z4, z5, z6, z7⟩ := hLL4.row eL
        walk_at "rd"
        refine k_lenT (by omega) ?_
        rw [n0]
        refine k_I ⟨by omega, by omega⟩ ?_
        walk_at "rd"
        refine k_ixL z1 z3 ?_
        walk_at "rd"
        refine k_set0 z4 (show 0 < 3 by decide) ?_
        rw [e3]
        refine hnx _ _ ⟨⟨_, _, _, _, _, rfl⟩, s4.wrn z5, ?_, _, z7 (d3 / w, L[d2].2), by rw [List.length_set], fun t m => ?_⟩
        · obtain ⟨n, hn⟩ := r4
          exact ⟨n, by rw [upd_ne (fun y => by rw [← y, hrn] at z5; cases z5)]; exact hn⟩
        · rcases List.mem_or_eq_of_mem_set m with m | m
          · exact ho.inn t m
          · obtain ⟨o1, o2, o3⟩ := ho.inn _ (List.getElem_mem hd2)
            rw [m]; exact ⟨q1, o2, o3⟩
      have hno : nx [some (.ref p), some (.ref r), some (.ref a), some (.ref D), some (.int (d1 : Int)), some (.int (d2 : Int)), some (.int (d3 : Int)), none, none, none, none, none] H4 := hnx _ _ ⟨⟨_, _, _, _, _, rfl⟩, s4, r4, L, hLL4, rfl, ho.inn⟩
      walk_at "rd"
      refine k_ited (fun q => ?_) (fun q => ?_)
      · refine k_itT ?_
        exact hyes
      walk_at "rd"
      refine k_ited (fun q => ?_) (fun q => ?_)
      · exact hyes
      · exact hno
    clear hLL4 ha4 s4 r4 ha3
    obtain ⟨⟨a7, a8, a9, a10, a11, rfl⟩, s5, r5, G5, hLL5, gl5, ok5⟩ := hI
    have ha5 := s5.tup hr0 ha
    with_reducible refine k_seqS (fun σ H' => (∃ a7 a8 a9 a10 a11, σ = [some (.ref p), some (.ref r), some (.ref a), some (.ref D), some (.int (d1 : Int)), some (.int (d2 : Int)), some (.int (d3 : Int)), a7, a8, a9, a10, a11]) ∧ Sb r H H' ∧ RestAt H' r ∧ ∃ G : List Tri, LL H H' D G ∧ G.length = L.length ∧ ∀ t ∈ G, t.1 < h ∧ t.2.1 < w ∧ isSg t.2.2 = true) (fun nx hnx => ?_) fun σ H6 hI => ?_
    · have hyes : tAsg (tOp (rI (fun x j => 0 < j) fun i j => V.int (i % j)) (tVar 6) (tCB rLenT (tCons (tOp (rIxT K) (tVar 2) (tC (V.int 0))) tNil))) (gSub (tOp (rIxL K) (tVar 3) (tVar 5)) (tC (V.int 1)) rSetL) ⟨nx, Q, fun _ _ => False, fun _ _ => False⟩ [some (.ref p), some (.ref r), some (.ref a), some (.ref D), some (.int (d1 : Int)), some (.int (d2 : Int)), some (.int (d3 : Int)), a7, a8, a9, a10, a11] H5 := by
        have hd2' : d2 < G5.length := by omega
        have eL := List.getElem?_eq_getElem hd2'
        obtain ⟨us, q, z1, z2, z3, z4, z5, z6, z7⟩ := hLL5.row eL
        walk_at "rd"
        refine k_lenT (by omega) ?_
        rw [n0]
        refine k_I (show (0 : Int) < _ by omega) ?_
        walk_at "rd"
        refine k_ixL z1 z3 ?_
        walk_at "rd"
        refine k_set1 z4 (show 1 < 3 by decide) ?_
        rw [e4]
        refine hnx _ _ ⟨⟨_, _, _, _, _, rfl⟩, s5.wrn z5, ?_, _, z7 (G5[d2].1, d3 % w, G5[d2].2.2), by rw [List.length_set]; exact gl5, fun t m => ?_⟩
        · obtain ⟨n, hn⟩ := r5
          exact ⟨n, by rw [upd_ne (fun y => by rw [← y, hrn] at z5; cases z5)]; exact hn⟩
        · rcases List.mem_or_eq_of_mem_set m with m | m
          · exact ok5 t m
          · obtain ⟨o1, o2, o3⟩ := ok5 _ (List.getElem_mem hd2')
            rw [m]; exact ⟨o1, q2, o3⟩
      have hno : nx [some (.ref p), some (.ref r), some (.ref a), some (.ref D), some (.int (d1 : Int)), some (.int (d2 : Int)), some (.int (d3 : Int)), a7, a8, a9, a10, a11] H5 := hnx _ _ ⟨⟨_, _, _, _, _, rfl⟩, s5, r5, G5, hLL5, gl5, ok5⟩
      walk_at "rd"
      refine k_ited (fun q => ?_) (fun q => ?_)
      · refine k_itT ?_
        exact hyes
      walk_at "rd"
      refine k_ited (fun q => ?_) (fun q => ?_)
      · exact hyes
      · exact hno
    clear hLL5 s5 r5 ok5 gl5 ha5
    obtain ⟨⟨b7, b8, b9, b10, b11, rfl⟩, s6, r6, G6, hLL6, gl6, ok6⟩ := hI
    obtain ⟨us, hD6, ul6⟩ : ∃ us, H6 D = some (.lst us) ∧ us.length = G6.length := by
      obtain ⟨vs', q, z1, z2, _⟩ := hLL6.row (show G6[0]? = some (G6[0]'(by omega)) from List.getElem?_eq_getElem _)
      exact ⟨vs', z1, z2⟩
    with_reducible refine k_seqS (fun σ H' => ∃ D', (∃ a7 a8 a9 a10 a11, σ = [some (.ref p), some (.ref r), some (.ref a), some (.ref D'), some (.int (d1 : Int)), some (.int (d2 : Int)), some (.int (d3 : Int)), a7, a8, a9, a10, a11]) ∧ Sb r H H' ∧ RestAt H' r ∧ ∃ G : List Tri, LL H H' D' G ∧ 0 < G.length ∧ G.length ≤ 7 ∧ ∀ t ∈ G, t.1 < h ∧ t.2.1 < w ∧ isSg t.2.2 = true) (fun nx hnx => ?_) fun σ H7 hI => ?_
    · have hno : nx [some (.ref p), some (.ref r), some (.ref a), some (.ref D), some (.int (d1 : Int)), some (.int (d2 : Int)), some (.int (d3 : Int)), b7, b8, b9, b10, b11] H6 := hnx _ _ ⟨D, ⟨_, _, _, _, _, rfl⟩, s6, r6, G6, hLL6, by omega, by omega, ok6⟩
      walk_at "rd"
      refine k_ited (fun q => ?_) (fun q => ?_)
      rotate_left
      · exact hno
      walk_at "rd"
      refine k_ited (fun q3 => ?_) (fun q3 => ?_)
      rotate_left
      · exact hno
      obtain ⟨m, em⟩ : ∃ m, m = d2 % (us.length - 2) := ⟨_, rfl⟩
      have em1 : (d2 : Int) % ((us.length : Int) - 2) = (m : Int) := by
        have e : (us.length : Int) - 2 = ((us.length - 2 : Nat) : Int) := by omega
        rw [e, em]; exact (Int.natCast_emod _ _).symm
      have hm : m < us.length - 2 := by rw [em]; exact Nat.mod_lt _ (by omega)
      walk_at "rd"
      refine k_I (show (0 : Int) < _ by omega) ?_
      rw [em1]
      walk_at "rd"
      rw [show (1 : Int) + (m : Int) = ((1 + m : Nat) : Int) by omega]
      refine k_slLTo hD6 fun qa hqa => ?_
      have hD6a := upd_old (u := .lst (us.take (1 + m))) hD6 hqa
      walk_at "rd"
      refine k_I (show (0 : Int) < _ by omega) ?_
      rw [em1]
      walk_at "rd"
      rw [show (2 : Int) + (m : Int) = ((2 + m : Nat) : Int) by omega]
      refine k_slLFrom hD6a fun qb hqb => ?_
      refine k_cat (upd_old upd_same hqb) upd_same (by rw [List.length_take, List.length_drop]; omega) fun qc hqc => ?_
      have t8 := ((Same.new (o := .lst (us.take (1 + m))) hqa).trans (Same.new (o := .lst (us.drop (2 + m))) hqb)).trans (Same.new (o := .lst (us.take (1 + m) ++ us.drop (2 + m))) hqc)
      have hqc6 : H6 qc = none := free_upd (free_upd hqc)
      have hqc0 : H qc = none := s6.free r6.choose_spec hqc6
      have hcut := hLL6.cut hD6 t8 upd_same (show 1 + m ≤ 2 + m by omega) hqc6 hqc0
      refine hnx _ _ ⟨qc, ⟨_, _, _, _, _, rfl⟩, s6.trans (Sb.same t8), r6.same t8, _, hcut, ?_, ?_, fun t mt => ?_⟩
      · rw [List.length_append, List.length_take, List.length_drop]; omega
      · rw [List.length_append, List.length_take, List.length_drop]; omega
      · rcases List.mem_append.mp mt with mt | mt
        · exact ok6 t (List.mem_of_mem_take mt)
        · exact ok6 t (List.mem_of_mem_drop mt)
    clear hLL6 hD6 ul6 s6 r6 ok6 gl6
    obtain ⟨D7, ⟨c7, c8, c9, c10, c11, rfl⟩, s7, r7, G7, hLL7, gp7, gl7, ok7⟩ := hI
    obtain ⟨us7, hD7, ul7⟩ : ∃ us, H7 D7 = some (.lst us) ∧ us.length = G7.length := by
      obtain ⟨vs', q, z1, z2, _⟩ := hLL7.row (show G7[0]? = some (G7[0]'(by omega)) from List.getElem?_eq_getElem _)
      exact ⟨vs', z1, z2⟩
    walk_at "rd"
    intro pd hpd
    have hpd0 : H pd = none := s7.free r7.choose_spec hpd
    walk_at "rd"
    refine e_L (upd_old hD7 hpd) ?_
    refine f_L (fun i σ H' => (∃ a8 a9 a10 a11, σ = [some (.ref p), some (.ref r), some (.ref a), some (.ref D7), some (.int (d1 : Int)), some (.int (d2 : Int)), some (.int (d3 : Int)), some (.ref pd), a8, a9, a10, a11]) ∧ Same H7 H' ∧ ∃ as : List (Cel × Nat), H' pd = some (.dT (as.map encE)) ∧ (as.map (·.1)).Nodup ∧ (∀ e ∈ as, e.1.1 < h ∧ e.1.2 < w ∧ isSg e.2 = true) ∧ as.length ≤ i ∧ (0 < i → as ≠ []))
      ⟨⟨_, _, _, _, rfl⟩, Same.new hpd, [], upd_same, List.nodup_nil, fun e m => (by cases m), Nat.le_refl _, fun z => by omega⟩ (fun i σ H' _ pv => SqL.of (pv.2.1 _ _ hD7)) (fun i x σ H8 hi pv => ?_) (fun σ H8 pv => ?_)
    · obtain ⟨⟨a8, a9, a10, a11, rfl⟩, t8, as, hdt, hnd, hok, hlen, hne⟩ := pv
      have hi7 := (List.getElem?_eq_some_iff.mp hi).1
      obtain ⟨us', q, z1, z2, z3, z4, _⟩ := (hLL7.same t8).row (show G7[i]? = some (G7[i]'(by omega)) from List.getElem?_eq_getElem _)
      rw [t8 _ _ hD7] at z1
      cases z1
      rw [hi] at z3
      cases z3
      obtain ⟨o1, o2, o3⟩ := ok7 _ (List.getElem_mem (show i < G7.length by omega))
      generalize G7[i]'(by omega) = t at z4 o1 o2 o3
      refine ⟨q, [.int (t.1 : Int), .int (t.2.1 : Int), .str (mk [t.2.2])], rfl, SqL.of z4, rfl, ?_⟩
      walk_at "rd"
      intro pt hpt
      refine ⟨pd, _, rfl, .inr ⟨as.map encE, encK (t.1, t.2.1), pt, upd_old hdt hpt, rfl, upd_same, by rw [List.length_map, sizeLine_eq]; omega, rfl⟩, ?_⟩
      rw [put_enc]
      refine ⟨⟨_, _, _, _, rfl⟩, Same.wr (t8.trans (Same.new hpt)) hpd, _, upd_same, put_nodup hnd, fun e m => ?_, ?_, fun _ z => ?_⟩
      · rcases put_mem m with m | m
        · exact hok e m
        · rw [m]; exact ⟨o1, o2, o3⟩
      · have := congrArg List.length (put_keys as (t.1, t.2.1) t.2.2)
        rw [List.length_map] at this
        rw [this]
        split
        · rw [List.length_map]; omega
        · rw [List.length_append, List.length_map, List.length_singleton]; omega
      · have := congrArg List.length (put_keys as (t.1, t.2.1) t.2.2)
        rw [z] at this
        split at this
        · rename_i hany
          obtain ⟨e, me, _⟩ := List.any_eq_true.mp hany
          rw [List.length_map, List.length_map] at this
          have := List.length_pos_of_mem me
          simp at *
          omega
        · rw [List.length_append, List.length_singleton] at this
          simp at this
    obtain ⟨⟨a8, a9, a10, a11, rfl⟩, t8, as, hdt, hnd, hok, hlen, hne⟩ := pv
    have asne := hne (by omega)
    have aspos : 0 < as.length := List.length_pos_iff.mpr asne
    obtain ⟨F, hF⟩ : ∃ F : Cel → Nat, ∀ c ∈ as.map (·.1), (c, F c) ∈ as ∧ valV (as.map encE) (encK c) = some (.str (mk [F c])) := by
      classical
      refine ⟨fun c => if z : c ∈ as.map (·.1) then Classical.choose (val_enc z) else 0, fun c z => ?_⟩
      simp only [dif_pos z]
      exact Classical.choose_spec (val_enc z)
    walk_at "rd"
    refine ⟨pd, as.map encE, rfl, .inl hdt, fun pl bs hpl hk => ?_⟩
    walk_at "rd"
    have u1 := Same.new (o := .lst (bs.map V.ref)) hpl
    refine ⟨pl, bs.map V.ref, (as.map (·.1)).map cellD, rfl, SqL.of upd_same, (keys_at hk).same u1, cells_alike _, cells_sortable _, by rw [List.length_map, List.length_map]; omega, fun d m => ?_, fun l ws hl hw => ?_⟩
    · obtain ⟨c, _, rfl⟩ := List.mem_map.mp m
      simp [cellD, PyData.depth, PyData.depthAll]
    rw [srt_cells] at hw
    have hperm := List.mergeSort_perm (as.map (·.1)) (fun a b => PySem.W.dataLe false id (cellD a) (cellD b))
    have hasc := cells_asc _ hnd
    generalize (as.map (·.1)).mergeSort (fun a b => PySem.W.dataLe false id (cellD a) (cellD b)) = cs at hw hperm hasc
    have cl : cs.length = as.length := by rw [hperm.length_eq, List.length_map]
    have u2 := Same.new (o := .lst ws) hl
    have wl := map_len hw
    have hw2 := hw.same u2
    have hl2 : (upd (upd H8 pl (.lst (bs.map V.ref))) l (.lst ws)) l = some (.lst ws) := upd_same
    have hdt2 := u2 _ _ (u1 _ _ hdt)
    have t9 := (t8.trans u1).trans u2
    generalize upd (upd H8 pl (.lst (bs.map V.ref))) l (.lst ws) = H9 at hw2 hl2 hdt2 t9
    walk_at "rd"
    refine c_L (mp (cs.map fun c => ((c.1, c.2, F c) : Tri)) triD) hl2 (by omega) rfl (fun i x H10 hi t10 => ?_) (fun D2 H10 zs f1 f2 f3 f4 => ?_)
    · obtain ⟨c, ec, hc⟩ := map_get hw2 hi
      obtain ⟨q, rfl, hq⟩ := cell_open (hc.same t10)
      have hdt3 := t10 _ _ hdt2
      obtain ⟨_, hval⟩ := hF c (hperm.mem_iff.mp (List.mem_of_getElem? ec))
      intro P R h1 h2
      walk_at "rd"
      refine ⟨rfl, ?_⟩
      walk_at "rd"
      intro pt hpt
      refine ⟨pd, .str (mk [F c]), rfl, ?_, ?_⟩
      · rw [← hval]
        exact DGet.t (k := encK c) (upd_old hdt3 hpt) upd_same
      walk_at "rd"
      intro p2 hp2
      exact h1 _ _ (triD (c.1, c.2, F c)) ((Same.new hpt).trans (Same.new hp2)) (mp_succ (by rw [List.getElem?_map, ec]; rfl)) (tri_mk (t := (c.1, c.2, F c)) upd_same)
    rw [mp_all _ _ (by rw [List.length_map]; omega)] at f4
    walk_at "rd"
    refine k_tupL f3 fun pt hpt => ?_
    have t11 := (t9.trans f2).trans (Same.new (o := .tup zs) hpt)
    refine hQ (.ref pt) _ _ (s7.trans (Sb.same t11)) (r7.same t11) (at_tup upd_same (f4.same (Same.new hpt))) ⟨fun z => ?_, by rw [List.length_map]; omega, fun t m => ?_, ?_⟩
    · have := congrArg List.length z
      rw [List.length_map, List.length_nil] at this
      omega
    · obtain ⟨c, mc, rfl⟩ := List.mem_map.mp m
      exact hok _ (hF c (hperm.mem_iff.mp mc)).1
    · rw [List.pairwise_map]
      exact hasc

theorem ok_law_rack {P : Program} {wd : World} {K : PySem.W.Frag} {mg : Str → Option Value} {bas : Heap} (T : Tx K mg) (c_law_take : DefOk P wd K mg bas CX0 "_law_take" 1 ["_law_rest_here", "_law_base"] spTake) :
    DefOk P wd K mg bas CX0 "_law_rack" 2 ["_law_laying", "_law_rest_here", "_law_letters_here"] spRack := by
  refine def0 T.fn_law_rack sc_law_rack bp_law_rack (fun vs H Q E h => ?_) (fun f cdv A outer s H vs Q E hr h => ?_)
  · obtain ⟨z, r, ls, h, w, L, rfl, hr0, hls, hL, ho, hQ⟩ := h
    rfl
  · obtain ⟨z, r, ls, h, w, L, rfl, hr0, hls, hL, ho, hQ⟩ := h
    refine ⟨_, (pss_cons (ps_set (i := 3) nd_law_rack rfl (Or.inl rfl) (pe_lst pa_nil))
      (pss_cons (ps_for PassesOwn.never rfl (pi_tup (pv 0)) (pg_tup rfl (pgs_cons (pg_name (i := 4) nd_law_rack rfl (Or.inl rfl)) (pgs_cons (pg_name (i := 5) nd_law_rack rfl (Or.inl rfl)) (pgs_cons (pg_name (i := 6) nd_law_rack rfl (Or.inl rfl)) pgs_nil)))) (pss_one (ps_expr (pe_bm PySem.F.plainAttrs_list PySem.F.slot_list_append PySem.F.type_list_append mt_append (pv 3) (pa_cons (pe_ix ix_list (pe_lst (pa_cons (pv 6) (pa_cons (pe_lit [63] (by decide +kernel)) pa_nil))) (pe_callTy b_intB rfl T.f_int (by decide +kernel) (pa_cons (pe_cmpR op_ne (pv 6) (pe_bm0 PySem.F.plainAttrs_str PySem.F.slot_str_lower PySem.F.type_str_lower m_low (pv 6)) (nomark _)) pa_nil)) (fun _ _ => rfl)) pa_nil)))))
      (pss_cons (ps_set (i := 7) nd_law_rack rfl (Or.inl rfl) (pe_fn c_law_take (hr.mono (by decide)) pass0 (pa_cons (pv 1) (pa_cons pe_int pa_nil))))
      (pss_cons (ps_if (pt_cmpR op_eq (pv 7) pe_int (nomark _)) (pss_one (ps_set (i := 3) nd_law_rack rfl (Or.inl rfl) (pe_slice sl_list (pv 3) po_none (po_some (pe_fn c_law_take (hr.mono (by decide)) pass0 (pa_cons (pv 1) (pa_cons (pe_op op_add (pe_callB b_lenQ rfl T.f_len (by decide +kernel) (pa_cons (pv 3) pa_nil)) pe_int) pa_nil))))))) pss_nil)
      (pss_cons (ps_if (pt_cmpR op_eq (pv 7) pe_int (nomark _)) (pss_cons (ps_set (i := 8) nd_law_rack rfl (Or.inl rfl) (pe_op o_addS (pv 2) (pe_lit [63] (by decide +kernel))))
      (pss_one (ps_asg (pe_ix ix_str (pv 8) (pe_fn c_law_take (hr.mono (by decide)) pass0 (pa_cons (pv 1) (pa_cons (pe_callB b_lenT rfl T.f_len (by decide +kernel) (pa_cons (pv 8) pa_nil)) pa_nil))) (fun _ _ => rfl)) (pg_sub (pv 3) (pe_fn c_law_take (hr.mono (by decide)) pass0 (pa_cons (pv 1) (pa_cons (pe_callB b_lenQ rfl T.f_len (by decide +kernel) (pa_cons (pv 3) pa_nil)) pa_nil))) set_list)))) pss_nil)
      (pss_cons (ps_if (pt_cmpR op_eq (pv 7) pe_int (nomark _)) (pss_one (ps_expr (pe_bm0 PySem.F.plainAttrs_list PySem.F.slot_list_reverse PySem.F.type_list_reverse mt_reverse (pv 3)))) pss_nil)
      (pss_cons (ps_set (i := 9) nd_law_rack rfl (Or.inl rfl) (pe_lit [] (by decide +kernel)))
      (pss_cons (ps_for PassesOwn.never rfl (pi_list (pv 3)) (pg_name (i := 10) nd_law_rack rfl (Or.inl rfl)) (pss_one (ps_if (PW.pt (pw_or (pt_cmpR op_ne (pv 10) (pe_lit [63] (by decide +kernel)) (nomark _)) (pw_or1 (pt_cmpR op_lt (pe_bm PySem.F.plainAttrs_str PySem.F.slot_str_count PySem.F.type_str_count m_cnt (pv 9) (pa_cons (pe_lit [63] (by decide +kernel)) pa_nil)) pe_int (nomark _))))) (pss_one (ps_set (i := 9) nd_law_rack rfl (Or.inl rfl) (pe_op o_addS (pv 9) (pv 10)))) pss_nil)))
      (pss_cons (ps_set (i := 11) nd_law_rack rfl (Or.inl rfl) (pe_fn c_law_take (hr.mono (by decide)) pass0 (pa_cons (pv 1) (pa_cons pe_int pa_nil))))
      (pss_cons (ps_while PassesOwn.never (PW.pt (pw_and (pt_cmpR op_lt (pe_callB b_lenT rfl T.f_len (by decide +kernel) (pa_cons (pv 9) pa_nil)) pe_int (nomark _)) (pw_and1 (pt_cmpR op_gt (pv 11) pe_int (nomark _))))) (pss_cons (ps_set (i := 9) nd_law_rack rfl (Or.inl rfl) (pe_op o_addS (pv 9) (pe_ix ix_str (pv 2) (pe_fn c_law_take (hr.mono (by decide)) pass0 (pa_cons (pv 1) (pa_cons (pe_callB b_lenT rfl T.f_len (by decide +kernel) (pa_cons (pv 2) pa_nil)) pa_nil))) (fun _ _ => rfl))))
      (pss_one (ps_set (i := 11) nd_law_rack rfl (Or.inl rfl) (pe_op op_fdiv (pv 11) pe_int)))))
      (pss_one (ps_ret (pv 9))))))))))))), ?_⟩
    have hcB := T.cls_Board
    have hnr := T.na_Board_rows
    have hnm := T.na_Board_marks
    have hnb := T.na_Board_begin
    have hcK := T.cls_Book
    have hnh := T.na_Book_held
    obtain ⟨p, vs, rfl, hp, hvs⟩ := lay_open hL
    have hvl := map_len hvs
    have l7 := ho.few
    have lpos : 0 < L.length := List.length_pos_iff.mpr ho.ne
    obtain ⟨l2, l26, lc⟩ := id hls
    obtain ⟨rn, hrn⟩ := id hr0
    walk_at "rd"
    intro fd hfd
    have nfr : fd ≠ r := fun z => by rw [z, hrn] at hfd; cases hfd
    have hp1 := upd_old (u := .lst []) hp hfd
    walk_at "rd"
    refine f_T (fun i σ H' => (∃ a4 a5 a6 a7 a8 a9 a10 a11, σ = [some (.ref p), some (.ref r), some (.str (mk ls)), some (.ref fd), a4, a5, a6, a7, a8, a9, a10, a11]) ∧ Same H H' ∧ ∃ ts : List Nat, H' fd = some (.lst (ts.map chV)) ∧ ts.length = i)
      ⟨⟨_, _, _, _, _, _, _, _, rfl⟩, Same.new hfd, [], upd_same, rfl⟩ (fun i σ H' _ pv => SqT.of (pv.2.1 _ _ hp)) (fun i x σ H1 hi pv => ?_) (fun σ H1 pv => ?_)
    · obtain ⟨⟨a4, a5, a6, a7, a8, a9, a10, a11, rfl⟩, s1, ts, f1, f2⟩ := pv
      obtain ⟨t, et, ht⟩ := map_get hvs hi
      obtain ⟨q, rfl, hq⟩ := tri_open (ht.same s1)
      have hsg := (ho.inn t (List.mem_of_getElem? et)).2.2
      walk_at "rd"
      intro pc hpc
      have g1 : upd H1 pc (.lst [.str (mk [t.2.2]), .str (mk [63])]) pc = some (.lst [.str (mk [t.2.2]), .str (mk [63])]) := upd_same
      have f1' := upd_old (u := .lst [.str (mk [t.2.2]), .str (mk [63])]) f1 hpc
      walk_at "rd"
      refine k_low (by simp [Str.length]) ?_
      rw [low_one _ (of_decide_eq_true hsg)]
      walk_at "rd"
      obtain ⟨j, ej, hj⟩ : ∃ j : Nat, (if (!decide ([t.2.2] = [lowC t.2.2])) = true then (1 : Int) else 0) = (j : Int) ∧ j < 2 := by
        by_cases q : [t.2.2] = [lowC t.2.2]
        · exact ⟨0, by rw [decide_eq_true q]; rfl, by decide⟩
        · exact ⟨1, by rw [decide_eq_false q]; rfl, by decide⟩
      rw [ej]
      obtain ⟨k, ek⟩ : ∃ k : Nat, [V.str (mk [t.2.2]), V.str (mk [63])][j]? = some (chV k) := by
        match j, hj with
        | 0, _ => exact ⟨_, rfl⟩
        | 1, _ => exact ⟨_, rfl⟩
      refine k_ixL g1 ek ?_
      walk_at "rd"
      have hi7 := (List.getElem?_eq_some_iff.mp et).1
      refine k_app f1' (by rw [List.length_map]; omega) ?_
      exact ⟨⟨_, _, _, _, _, _, _, _, rfl⟩, Same.wr (s1.trans (Same.new hpc)) hfd, ts ++ [k], by rw [upd_same, List.map_append]; rfl, by rw [List.length_append, f2]; rfl⟩
    obtain ⟨⟨a4, a5, a6, a7, a8, a9, a10, a11, rfl⟩, s1, ts, f1, f2⟩ := pv
    have f2 : ts.length = L.length := by omega
    have r1 := hr0.same s1
    walk_at "rd"
    refine k_dig (Sb.same s1) r1 (by decide) (by decide) fun d1 H2 d1b s2 s2' r2 => ?_
    have f3 := s2' _ _ nfr f1
    with_reducible refine k_gn ?_
    with_reducible refine k_seqS (fun σ H' => ∃ fd' ts a4 a5 a6 a8 a9 a10 a11, σ = [some (.ref p), some (.ref r), some (.str (mk ls)), some (.ref fd'), a4, a5, a6, some (.int (d1 : Int)), a8, a9, a10, a11] ∧ Sb r H H' ∧ RestAt H' r ∧ H' fd' = some (.lst ((ts : List Nat).map chV)) ∧ ts.length ≤ 7 ∧ H fd' = none ∧ ((d1 : Int) ≠ 1 → 0 < ts.length)) (fun nx hnx => ?_) fun σ H3 hI => ?_
    · walk_at "rd"
      refine k_ited (fun q => ?_) (fun q => ?_)
      rotate_left
      · refine k_next ?_
        exact hnx _ _ ⟨fd, ts, _, _, _, _, _, _, _, rfl, s2, r2, f3, by omega, hfd, fun _ => by omega⟩
      walk_at "rd"
      rw [List.length_map]
      refine k_dig s2 r2 (by omega) (by omega) fun d2 H3 d2b s3 s3' r3 => ?_
      walk_at "rd"
      refine k_slLTo (s3' _ _ nfr f3) fun q2 hq2 => ?_
      walk_at "rd"
      refine hnx _ _ ⟨q2, ts.take d2, _, _, _, _, _, _, _, rfl, s3.trans (Sb.same (Same.new hq2)), r3.new hq2, by rw [upd_same, List.map_take], by rw [List.length_take]; omega, ?_, fun z => (z q).elim⟩
      exact s3.free r3.choose_spec hq2
    clear f3 f1 s1 r1
    obtain ⟨fd', ts', a4, a5, a6, a8, a9, a10, a11, rfl, s3, r3, f3, t7, nfd, tpos⟩ := hI
    have nfr' : fd' ≠ r := fun z => by rw [z, hrn] at nfd; cases nfd
    with_reducible refine k_seqS (fun σ H' => ∃ ts a4 a5 a6 a8 a9 a10 a11, σ = [some (.ref p), some (.ref r), some (.str (mk ls)), some (.ref fd'), a4, a5, a6, some (.int (d1 : Int)), a8, a9, a10, a11] ∧ Sb r H H' ∧ RestAt H' r ∧ H' fd' = some (.lst ((ts : List Nat).map chV)) ∧ ts.length ≤ 7) (fun nx hnx => ?_) fun σ H4 hI => ?_
    · walk_at "rd"
      refine k_ited (fun q => ?_) (fun q => ?_)
      rotate_left
      · refine k_next ?_
        exact hnx _ _ ⟨ts', a4, a5, a6, a8, a9, a10, a11, rfl, s3, r3, f3, t7⟩
      have tp := tpos (by omega)
      walk_at "rd"
      refine k_addS (by rw [List.length_singleton]; omega) ?_
      walk_at "rd"
      refine k_lenT (by rw [List.length_append, List.length_singleton]; omega) ?_
      walk_at "rd"
      rw [List.length_append, List.length_singleton]
      refine k_dig s3 r3 (by omega) (by omega) fun d2 H4 d2b s4 s4' r4 => ?_
      have f4 := s4' _ _ nfr' f3
      have hd2 : d2 < (ls ++ [63]).length := by rw [List.length_append, List.length_singleton]; omega
      refine k_ixS (c := (ls ++ [63])[d2]) (by rw [List.length_append, List.length_singleton]; omega) (List.getElem?_eq_getElem hd2) ?_
      walk_at "rd"
      rw [List.length_map]
      refine k_dig s4 r4 (by omega) (by omega) fun d3 H5 d3b s5 s5' r5 => ?_
      have f5 := s5' _ _ nfr' f4
      refine k_set f5 (by rw [List.length_map]; omega) ?_
      refine hnx _ _ ⟨ts'.set d3 (ls ++ [63])[d2], _, _, _, _, _, _, _, rfl, s5.wrn nfd, ?_, by rw [upd_same, List.map_set]; rfl, by rw [List.length_set]; exact t7⟩
      obtain ⟨n, hn⟩ := r5
      exact ⟨n, by rw [upd_ne (Ne.symm nfr')]; exact hn⟩
    clear f3 tpos
    obtain ⟨ts3, a4, a5, a6, a8, a9, a10, a11, rfl, s4, r4, f4, t7⟩ := hI
    with_reducible refine k_seqS (fun σ H' => ∃ ts a4 a5 a6 a8 a9 a10 a11, σ = [some (.ref p), some (.ref r), some (.str (mk ls)), some (.ref fd'), a4, a5, a6, some (.int (d1 : Int)), a8, a9, a10, a11] ∧ Sb r H H' ∧ RestAt H' r ∧ H' fd' = some (.lst ((ts : List Nat).map chV)) ∧ ts.length ≤ 7) (fun nx hnx => ?_) fun σ H5 hI => ?_
    · walk_at "rd"
      refine k_ited (fun q => ?_) (fun q => ?_)
      rotate_left
      · refine k_next ?_
        exact hnx _ _ ⟨ts3, a4, a5, a6, a8, a9, a10, a11, rfl, s4, r4, f4, t7⟩
      walk_at "rd"
      refine k_rev f4 ?_
      refine hnx _ _ ⟨ts3.reverse, _, _, _, _, _, _, _, rfl, s4.wrn nfd, ?_, by rw [upd_same, List.map_reverse], by rw [List.length_reverse]; exact t7⟩
      obtain ⟨n, hn⟩ := r4
      exact ⟨n, by rw [upd_ne (Ne.symm nfr')]; exact hn⟩
    clear f4
    obtain ⟨ts4, a4, a5, a6, a8, a9, a10, a11, rfl, s5, r5, f5, t7⟩ := hI
    walk_at "rd"
    refine f_L (fun i σ H' => (∃ (t : List Nat) (a4 a5 a6 a8 a10 a11 : Option V), σ = [some (.ref p), some (.ref r), some (.str (mk ls)), some (.ref fd'), a4, a5, a6, some (.int (d1 : Int)), a8, some (.str (mk t)), a10, a11] ∧ t.length ≤ i) ∧ H' = H5)
      ⟨⟨[], _, _, _, _, _, _, rfl, Nat.le_refl _⟩, rfl⟩ (fun i σ H' _ pv => by rw [pv.2]; exact SqL.of f5) (fun i x σ H6 hi pv => ?_) (fun σ H6 pv => ?_)
    · obtain ⟨⟨t, a4, a5, a6, a8, a10, a11, rfl, ht⟩, rfl⟩ := pv
      rw [List.getElem?_map] at hi
      obtain ⟨k, ek, rfl⟩ := Option.map_eq_some_iff.mp hi
      have hi7 := (List.getElem?_eq_some_iff.mp ek).1
      have hyes : ∀ (nx : L2.St → Hp → Prop), (∀ σ H', (∃ (t : List Nat) (a4 a5 a6 a8 a10 a11 : Option V), σ = [some (.ref p), some (.ref r), some (.str (mk ls)), some (.ref fd'), a4, a5, a6, some (.int (d1 : Int)), a8, some (.str (mk t)), a10, a11] ∧ t.length ≤ i + 1) ∧ H' = H6 → nx σ H') → ∀ rt bk ct, tAsg (tOp rAddS (tVar 9) (tVar 10)) (gName 9) ⟨nx, rt, bk, ct⟩ [some (.ref p), some (.ref r), some (.str (mk ls)), some (.ref fd'), a4, a5, a6, some (.int (d1 : Int)), a8, some (.str (mk t)), some (.str (mk [k])), a11] H6 := by
        intro nx hnx rt bk ct
        walk_at "rd"
        refine k_addS (by rw [List.length_singleton]; omega) ?_
        walk_at "rd"
        exact hnx _ _ ⟨⟨t ++ [k], _, _, _, _, _, _, rfl, by rw [List.length_append, List.length_singleton]; omega⟩, rfl⟩
      show gName 10 (V.str (mk [k])) _ _ _
      walk_at "rd"
      refine k_itend (fun q => ?_) (fun q => ?_)
      · refine k_itT ?_
        exact hyes _ (fun _ _ z => z) _ _ _
      walk_at "rd"
      refine k_cnt fun ii => ?_
      walk_at "rd"
      refine k_ited (fun q2 => ?_) (fun q2 => ?_)
      · exact hyes _ (fun _ _ z => z) _ _ _
      · walk_at "rd"
        exact ⟨⟨t, _, _, _, _, _, _, rfl, by omega⟩, rfl⟩
    obtain ⟨⟨t, a4, a5, a6, a8, a10, a11, rfl, ht⟩, rfl⟩ := pv
    rw [List.length_map] at ht
    walk_at "rd"
    refine k_dig s5 r5 (by decide) (by decide) fun d8 H7 d8b s7 s7' r7 => ?_
    walk_at "rd"
    refine k_while (fun m σ H' => ∃ (t : List Nat) (a4 a5 a6 a8 a10 : Option V), σ = [some (.ref p), some (.ref r), some (.str (mk ls)), some (.ref fd'), a4, a5, a6, some (.int (d1 : Int)), a8, some (.str (mk t)), a10, some (.int ((m : Nat) : Int))] ∧ t.length ≤ 7 ∧ Sb r H H' ∧ RestAt H' r) d8
      ⟨t, _, _, _, _, _, rfl, by omega, s7, r7⟩ (fun n σ H8 TT FF kT kF pv => ?_)
    obtain ⟨t2, b4, b5, b6, b8, b10, rfl, ht2, s8, r8⟩ := pv
    have hF : FF H8 := by
      refine kF _ ?_
      walk_at "rd"
      exact hQ t2 H8 s8 r8 (by omega)
    walk_at "rd"
    refine k_lenT (by omega) ?_
    walk_at "rd"
    refine k_ited (fun q1 => ?_) (fun q1 => ?_)
    rotate_left
    · exact hF
    walk_at "rd"
    refine k_ited (fun q2 => ?_) (fun q2 => ?_)
    rotate_left
    · exact hF
    refine kT _ ?_
    walk_at "rd"
    refine k_lenT (by omega) ?_
    walk_at "rd"
    refine k_dig s8 r8 (by omega) (by omega) fun d9 H9 d9b s9 s9' r9 => ?_
    have hd9 : d9 < ls.length := by omega
    refine k_ixS (c := ls[d9]) (by omega) (List.getElem?_eq_getElem hd9) ?_
    refine k_addS (by rw [List.length_singleton]; omega) ?_
    walk_at "rd"
    have e2 : (n : Int) / 2 = ((n / 2 : Nat) : Int) := (Int.natCast_ediv n 2).symm
    rw [e2]
    exact ⟨n / 2, by omega, t2 ++ [ls[d9]], _, _, _, _, _, rfl, by rw [List.length_append, List.length_singleton]; omega, s9, r9⟩

theorem ok_law_known {P : Program} {wd : World} {K : PySem.W.Frag} {mg : Str → Option Value} {bas : Heap} (T : Tx K mg) (c_law_take : DefOk P wd K mg bas CX0 "_law_take" 1 ["_law_rest_here", "_law_base"] spTake) (c_law_words : DefOk P wd K mg bas CX0 "_law_words" 2 ["_law_rows_here", "_law_laying"] spWords) :
    DefOk P wd K mg bas CX0 "_law_known" 3 ["_law_rows_here", "_law_laying", "_law_rest_here", "_law_letters_here"] spKnown := by
  refine def0 T.fn_law_known sc_law_known bp_law_known (fun vs H Q E h => ?_) (fun f cdv A outer s H vs Q E hr h => ?_)
  · obtain ⟨v, z, r, ls, g, h, w, L, rfl, hr0, hls, hv, hg, hL, ho, hQ⟩ := h
    rfl
  · obtain ⟨v, z, r, ls, g, h, w, L, rfl, hr0, hls, hv, hg, hL, ho, hQ⟩ := h
    refine ⟨_, (pss_cons (ps_set (i := 4) nd_law_known rfl (Or.inl rfl) (pe_lst pa_nil))
      (pss_cons (ps_for PassesOwn.never rfl (pi_tup (pe_fn c_law_words (hr.mono (by decide)) pass0 (pa_cons (pv 0) (pa_cons (pv 1) pa_nil)))) (pg_tup rfl (pgs_cons (pg_name (i := 5) nd_law_known rfl (Or.inl rfl)) (pgs_cons (pg_name (i := 6) nd_law_known rfl (Or.inl rfl)) (pgs_cons (pg_name (i := 7) nd_law_known rfl (Or.inl rfl)) (pgs_cons (pg_name (i := 8) nd_law_known rfl (Or.inl rfl)) pgs_nil))))) (pss_one (ps_if (pt_cmpR op_notIn_seq (pe_bm0 PySem.F.plainAttrs_str PySem.F.slot_str_lower PySem.F.type_str_lower m_low (pv 8)) (pv 4) (by rfl)) (pss_one (ps_expr (pe_bm PySem.F.plainAttrs_list PySem.F.slot_list_append PySem.F.type_list_append mt_append (pv 4) (pa_cons (pe_bm0 PySem.F.plainAttrs_str PySem.F.slot_str_lower PySem.F.type_str_lower m_low (pv 8)) pa_nil)))) pss_nil)))
      (pss_cons (ps_for PassesOwn.never rfl (pi_range1 rfl T.f_range (pa_cons (pe_fn c_law_take (hr.mono (by decide)) pass0 (pa_cons (pv 2) (pa_cons pe_int pa_nil))) pa_nil)) (pg_name (i := 9) nd_law_known rfl (Or.inl rfl)) (pss_one (ps_if (pt_cmpR (op_neD hr.units) (pv 4) (pe_lst pa_nil) (nomark _)) (pss_one (ps_expr (pe_bm PySem.F.plainAttrs_list PySem.F.slot_list_pop PySem.F.type_list_pop mt_popAt (pv 4) (pa_cons (pe_fn c_law_take (hr.mono (by decide)) pass0 (pa_cons (pv 2) (pa_cons (pe_callB b_lenQ rfl T.f_len (by decide +kernel) (pa_cons (pv 4) pa_nil)) pa_nil))) pa_nil)))) pss_nil)))
      (pss_one (ps_ret (pe_op op_cat (pv 4) (pe_lst (pa_cons (pe_op o_addS (pe_ix ix_str (pv 3) pe_int (fun _ _ => rfl)) (pe_ix ix_str (pv 3) pe_int (fun _ _ => rfl))) (pa_cons (pe_op o_mulS (pe_ix ix_str (pv 3) pe_int (fun _ _ => rfl)) pe_int) pa_nil))))))))), ?_⟩
    have hcB := T.cls_Board
    have hnr := T.na_Board_rows
    have hnm := T.na_Board_marks
    have hnb := T.na_Board_begin
    have hcK := T.cls_Book
    have hnh := T.na_Book_held
    obtain ⟨l2, l26, lc⟩ := id hls
    obtain ⟨rn, hrn⟩ := id hr0
    walk_at "rd"
    intro fd hfd
    have nfr : fd ≠ r := fun z => by rw [z, hrn] at hfd; cases hfd
    have s0 : Same H (upd H fd (.lst [])) := Same.new hfd
    have f0 : (upd H fd (.lst [])) fd = some (.lst []) := upd_same
    generalize upd H fd (.lst []) = H0 at s0 f0
    walk_at "rd"
    refine ⟨v, z, g, h, w, L, rfl, hv.same s0, hg, hL.same s0, ho, fun u ws H1 s1 hu hl8 hws => ?_⟩
    obtain ⟨pu, us, rfl, hpu, hus⟩ := at_tup' hu
    have ul := map_len hus
    have f1 := s1 _ _ f0
    have s01 := s0.trans s1
    walk_at "rd"
    refine f_T (fun i σ H' => (∃ a5 a6 a7 a8 a9, σ = [some v, some z, some (.ref r), some (.str (mk ls)), some (.ref fd), a5, a6, a7, a8, a9]) ∧ Same H H' ∧ H' pu = some (.tup us) ∧ AtAll H' (ws.map wrdD) us ∧ ∃ ts : List (List Nat), H' fd = some (.lst (ts.map fun t => V.str (mk t))) ∧ ts.length ≤ i ∧ ∀ t ∈ ts, WordOk t)
      ⟨⟨_, _, _, _, _, rfl⟩, s01, hpu, hus, [], f1, Nat.le_refl _, fun t m => (by cases m)⟩ (fun i σ H' _ pv => SqT.of pv.2.2.1) (fun i x σ H2 hi pv => ?_) (fun σ H2 pv => ?_)
    · obtain ⟨⟨a5, a6, a7, a8, a9, rfl⟩, s2, k1, k2, ts, f2, f3, f4⟩ := pv
      obtain ⟨x, ex, hx⟩ := map_get k2 hi
      obtain ⟨q, rfl, hq⟩ := wrd_open hx
      obtain ⟨w2, w9, wsg⟩ := hws x (List.mem_of_getElem? ex)
      have hi8 := (List.getElem?_eq_some_iff.mp ex).1
      walk_at "rd"
      refine k_low (by rw [mk_len]; omega) ?_
      rw [low_word wsg]
      walk_at "rd"
      refine ⟨fd, _, rfl, .inl (SqL.of f2), rfl, by rw [List.all_map, List.all_eq_true]; exact fun _ _ => rfl, ?_⟩
      walk_at "rd"
      refine k_ite (fun q5 => ?_) (fun q5 => ?_)
      rotate_left
      · walk_at "rd"
        exact ⟨⟨_, _, _, _, _, rfl⟩, s2, k1, k2, ts, f2, by omega, f4⟩
      walk_at "rd"
      refine k_low (by rw [mk_len]; omega) ?_
      rw [low_word wsg]
      walk_at "rd"
      refine k_app f2 (by rw [List.length_map]; omega) ?_
      have tk := Tk.wr (u := .lst ((ts.map fun t => V.str (mk t)) ++ [V.str (mk (x.2.2.2.map lowC))])) f2 nofun
      refine ⟨⟨_, _, _, _, _, rfl⟩, Same.wr s2 hfd, tk _ _ k1, k2.mono tk, ts ++ [x.2.2.2.map lowC], by rw [upd_same, List.map_append]; rfl, by rw [List.length_append, List.length_singleton]; omega, fun t m => ?_⟩
      rcases List.mem_append.mp m with m | m
      · exact f4 t m
      · rw [List.mem_singleton.mp m]
        refine ⟨by rw [List.length_map]; exact w2, by rw [List.length_map]; exact w9, fun c mc => ?_⟩
        obtain ⟨y, my, rfl⟩ := List.mem_map.mp mc
        have hlow : ∀ c ∈ lowL ++ greL, lowC c ∈ lowL := by decide +kernel
        exact hlow y (of_decide_eq_true (wsg y my))
    obtain ⟨⟨a5, a6, a7, a8, a9, rfl⟩, s2, k1, k2, ts, f2, f3, f4⟩ := pv
    have r2 := hr0.same s2
    walk_at "rd"
    refine k_dig (Sb.same s2) r2 (by decide) (by decide) fun d1 H3 d1b s3 s3' r3 => ?_
    walk_at "rd"
    refine e_R1 (by omega) ?_
    refine f_R (fun i σ H' => (∃ a5 a6 a7 a8 a9, σ = [some v, some z, some (.ref r), some (.str (mk ls)), some (.ref fd), a5, a6, a7, a8, a9]) ∧ Sb r H H' ∧ RestAt H' r ∧ ∃ ts : List (List Nat), H' fd = some (.lst (ts.map fun t => V.str (mk t))) ∧ ts.length ≤ 8 ∧ ∀ t ∈ ts, WordOk t)
      ⟨⟨_, _, _, _, _, rfl⟩, s3, r3, ts, s3' _ _ nfr f2, by omega, f4⟩ (fun i σ H4 hi pv => ?_) (fun σ H4 pv => ?_)
    · obtain ⟨⟨a5, a6, a7, a8, a9, rfl⟩, s4, r4, ts, f5, f6, f7⟩ := pv
      walk_at "rd"
      intro pe hpe
      have hat : AtAll (upd H4 pe (.lst [])) (ts.map sD) (ts.map fun t => V.str (mk t)) := by
        have q := AtAll.strs (H := upd H4 pe (.lst [])) (ts.map mk)
        rw [List.map_map, List.map_map] at q
        exact q
      refine k_neNil (upd_old f5 hpe) hat (shp_list fun d m => ?_) upd_same ?_
      · obtain ⟨t, mt, rfl⟩ := List.mem_map.mp m
        refine ⟨lay_str fun c mc => ?_, by simp [PyData.depth]⟩
        exact sg_code (decide_eq_true (List.mem_append.mpr (.inl ((f7 t mt).2.2 c mc))))
      have s5 := s4.trans (Sb.same (Same.new (o := .lst []) hpe))
      have f8 := upd_old (u := .lst []) f5 hpe
      have r5 := r4.new (o := .lst []) hpe
      generalize upd H4 pe (.lst []) = H5 at s5 f8 r5
      walk_at "rd"
      refine k_ite (fun q => ?_) (fun q => ?_)
      rotate_left
      · walk_at "rd"
        exact ⟨⟨_, _, _, _, _, rfl⟩, s5, r5, ts, f8, f6, f7⟩
      have tp : 0 < ts.length := by
        cases ts with
        | nil => simp at q
        | cons a b => simp
      walk_at "rd"
      rw [List.length_map]
      refine k_dig s5 r5 (by omega) (by omega) fun d2 H6 d2b s6 s6' r6 => ?_
      have f9 := s6' _ _ nfr f8
      walk_at "rd"
      refine k_popAt f9 (j := d2) (by rw [List.length_map]; omega) ?_ (by rw [List.length_map]; omega)
      refine ⟨⟨_, _, _, _, _, rfl⟩, s6.wrn hfd, ?_, ts.eraseIdx d2, by rw [upd_same, eraseIdx_map], Nat.le_trans (List.length_eraseIdx_le _ _) f6, fun t m => f7 t (List.mem_of_mem_eraseIdx m)⟩
      obtain ⟨n, hn⟩ := r6
      exact ⟨n, by rw [upd_ne (Ne.symm nfr)]; exact hn⟩
    obtain ⟨⟨a5, a6, a7, a8, a9, rfl⟩, s4, r4, ts, f5, f6, f7⟩ := pv
    have q0 : ls[0]? = some (ls[0]'(by omega)) := List.getElem?_eq_getElem _
    have q1 : ls[1]? = some (ls[1]'(by omega)) := List.getElem?_eq_getElem _
    have m0 := lc _ (List.getElem_mem (show 0 < ls.length by omega))
    have m1 := lc _ (List.getElem_mem (show 1 < ls.length by omega))
    generalize ls[0]'(by omega) = c0 at q0 m0
    generalize ls[1]'(by omega) = c1 at q1 m1
    walk_at "rd"
    refine k_ixS (j := 0) (by omega) q0 ?_
    walk_at "rd"
    refine k_ixS (j := 1) (by omega) q1 ?_
    refine k_addS (by simp) ?_
    walk_at "rd"
    refine k_ixS (j := 1) (by omega) q1 ?_
    walk_at "rd"
    refine k_mulS (m := [c1, c1, c1]) (by simp) (by decide) (by decide) (mul3 m1) ?_
    walk_at "rd"
    intro pl hpl
    refine k_cat (upd_old f5 hpl) upd_same (by rw [List.length_map]; show ts.length + 2 ≤ _; omega) fun pr hpr => ?_
    refine hQ pr (ts ++ [[c0, c1], [c1, c1, c1]]) _ ((s4.trans (Sb.same (Same.new hpl))).trans (Sb.same (Same.new hpr))) ((r4.new hpl).new hpr) (by rw [upd_same, List.map_append]; rfl) (by rw [List.length_append]; show ts.length + 2 ≤ _; omega) fun t m => ?_
    rcases List.mem_append.mp m with m | m
    · exact f7 t m
    · have hc0 : ∀ c ∈ [c0, c1], c ∈ lowL := fun c m => by
        rcases List.mem_cons.mp m with e | m
        · rw [e]; exact m0
        · rw [List.mem_singleton.mp m]; exact m1
      rcases List.mem_cons.mp m with e | m
      · rw [e]; exact ⟨by simp, by simp, hc0⟩
      · rw [List.mem_singleton.mp m]
        refine ⟨by simp, by simp, fun c m => ?_⟩
        have : c = c1 := by simpa using m
        rw [this]; exact m1

theorem ok_law_turned {P : Program} {wd : World} {K : PySem.W.Frag} {mg : Str → Option Value} {bas : Heap} (T : Tx K mg)  :
    DefOk P wd K mg bas CX0 "_law_turned" 1 ["_law_laying"] spTurned := by
  refine def0 T.fn_law_turned sc_law_turned bp_law_turned (fun vs H Q E h => ?_) (fun f cdv A outer s H vs Q E hr h => ?_)
  · obtain ⟨v, L, rfl, hL, hn, hQ⟩ := h
    rfl
  · obtain ⟨v, L, rfl, hL, hn, hQ⟩ := h
    refine ⟨_, (pss_one (ps_ret (pe_callTy b_tupL rfl T.f_tuple (by decide +kernel) (pa_cons (pe_callB (b_srtD hr) rfl T.f_sorted (by decide +kernel) (pa_cons (pe_lc (own := [("_law_row", 1), ("_law_column", 2), ("_law_sign_here", 3)]) (g := (gTup K 3 (gCons (gName 1) (gCons (gName 2) (gCons (gName 3) gNil))))) (tt := tYes) rfl nd_law_turned (pi_tup (pv 0)) (blkOk_by (own := [("_law_row", 1), ("_law_column", 2), ("_law_sign_here", 3)]) (N := N_law_turned) (sc := (defScope s_law_turned)) (by decide +kernel)) (fun _ _ _ _ _ => (pg_tup rfl (pgs_cons (pg_name (i := 1) nd_law_turned rfl (Or.inl rfl)) (pgs_cons (pg_name (i := 2) nd_law_turned rfl (Or.inl rfl)) (pgs_cons (pg_name (i := 3) nd_law_turned rfl (Or.inl rfl)) pgs_nil))))) (fun _ _ _ _ _ => pts_nil) (fun _ _ _ _ _ => (pe_tup (pa_cons (pv 2) (pa_cons (pv 1) (pa_cons (pv 3) pa_nil)))))) pa_nil)) pa_nil)))), ?_⟩
    have hcB := T.cls_Board
    have hnr := T.na_Board_rows
    have hnm := T.na_Board_marks
    have hnb := T.na_Board_begin
    have hcK := T.cls_Book
    have hnh := T.na_Book_held
    obtain ⟨a, vs, rfl, ha, hv⟩ := lay_open hL
    have hvl := map_len hv
    walk_at "rd"
    refine c_T (mp (L.map swT) triD) ha (by omega) rfl (fun i x H1 hi hs => ?_) (fun D H1 ys h1 h2 h3 h4 => ?_)
    · obtain ⟨t, et, ht⟩ := map_get hv hi
      obtain ⟨q, rfl, hq⟩ := tri_open (ht.mono (Tk.same hs))
      intro P R h1 h2
      walk_at "rd"
      refine ⟨rfl, ?_⟩
      walk_at "rd"
      intro p hp
      exact h1 _ _ (triD (swT t)) (Same.new hp) (mp_succ (by rw [List.getElem?_map, et]; rfl)) (tri_mk upd_same)
    rw [mp_all _ _ (by rw [List.length_map]; omega)] at h4
    walk_at "rd"
    refine ⟨D, ys, (L.map swT).map triD, rfl, SqL.of h3, h4, tris_alike _, tris_sortable _, by rw [List.length_map, List.length_map]; omega, fun d m => ?_, fun l ws hl hw => ?_⟩
    · obtain ⟨t, _, rfl⟩ := List.mem_map.mp m
      simp [triD, PyData.depth, PyData.depthAll]
    walk_at "rd"
    have hsame := h2.trans (Same.new (o := .lst ws) hl)
    refine k_tupL upd_same fun p hp => ?_
    refine hQ _ _ (hsame.trans (Same.new hp)) (at_tup upd_same ?_)
    rw [srt_tris] at hw
    exact (hw.same (Same.new hl)).same (Same.new hp)

theorem ok_law_same_words {P : Program} {wd : World} {K : PySem.W.Frag} {mg : Str → Option Value} {bas : Heap} (T : Tx K mg) (c_Board_turned : MethOk P wd K mg bas CX0 (He.ga K "Board") "turned" 5 ["self"] (spBoardTurned K)) (c_law_turned : DefOk P wd K mg bas CX0 "_law_turned" 1 ["_law_laying"] spTurned) (c_formed : DefOk P wd K mg bas CX0 "formed" 6 ["board", "laying"] (spFormed K)) :
    DefOk P wd K mg bas CX0 "_law_same_words" 7 ["_law_board", "_law_laying"] (spSame K) := by
  refine def0 T.fn_law_same_words sc_law_same_words bp_law_same_words (fun vs H Q E h => ?_) (fun f cdv A outer s H vs Q E hr h => ?_)
  · obtain ⟨b, v, g, m, beg, h, w, L, rfl, hB, hg, hm, b1, b2, hL, ho, one, hQ⟩ := h
    rfl
  · obtain ⟨b, v, g, m, beg, h, w, L, rfl, hB, hg, hm, b1, b2, hL, ho, one, hQ⟩ := h
    refine ⟨_, (pss_cons (ps_setLc (i := 2) (own := [("_law_row", 4), ("_law_column", 5), ("_law_way", 6), ("_law_signs", 7)]) (g := (gTup K 4 (gCons (gName 4) (gCons (gName 5) (gCons (gName 6) (gCons (gName 7) gNil)))))) (tt := tYes) rfl nd_law_same_words rfl rfl (sw_true rfl rfl rfl (by decide +kernel)) (pi_tup (pe_fn c_formed (hr.mono (by decide)) pass0 (pa_cons (pv 0) (pa_cons (pv 1) pa_nil)))) (blkOk_by (own := [("_law_row", 4), ("_law_column", 5), ("_law_way", 6), ("_law_signs", 7)]) (N := N_law_same_words) (sc := (defScope s_law_same_words)) (by decide +kernel)) (fun _ _ _ _ _ => (pg_tup rfl (pgs_cons (pg_name (i := 4) nd_law_same_words rfl (Or.inl rfl)) (pgs_cons (pg_name (i := 5) nd_law_same_words rfl (Or.inl rfl)) (pgs_cons (pg_name (i := 6) nd_law_same_words rfl (Or.inl rfl)) (pgs_cons (pg_name (i := 7) nd_law_same_words rfl (Or.inl rfl)) pgs_nil)))))) (fun _ _ _ _ _ => pts_nil) (fun _ _ _ _ _ => (pe_tup (pa_cons (pv 5) (pa_cons (pv 4) (pa_cons (pe_op op_sub pe_int (pv 6)) (pa_cons (pv 7) pa_nil)))))))
      (pss_cons (ps_set (i := 3) nd_law_same_words rfl (Or.inl rfl) (pe_callTy b_lstT rfl T.f_list (by decide +kernel) (pa_cons (pe_fn c_formed (hr.mono (by decide)) pass0 (pa_cons (pe_mt0 c_Board_turned T.cls_Board (hr.mono (by decide)) pass0 (pv 0)) (pa_cons (pe_fn c_law_turned (hr.mono (by decide)) pass0 (pa_cons (pv 1) pa_nil)) pa_nil))) pa_nil)))
      (pss_one (ps_ret (pe_cmpR (op_eqD hr.units) (pe_callB (b_srtD hr) rfl T.f_sorted (by decide +kernel) (pa_cons (pv 2) pa_nil)) (pe_callB (b_srtD hr) rfl T.f_sorted (by decide +kernel) (pa_cons (pv 3) pa_nil)) (nomark _)))))), ?_⟩
    have hcB := T.cls_Board
    have hnr := T.na_Board_rows
    have hnm := T.na_Board_marks
    have hnb := T.na_Board_begin
    have hcK := T.cls_Book
    have hnh := T.na_Book_held
    obtain ⟨dx, v1, v2, v3, hb, h1, h2, h3⟩ := id hB
    have l7 := ho.few
    walk_at "rd"
    refine ⟨b, v, g, m, beg, h, w, L, rfl, hB, hg, hm, b1, b2, hL, ho, fun u H1 s1 hu => ?_⟩
    obtain ⟨pu, us, rfl, hpu, hus⟩ := at_tup' hu
    have ul := map_len hus
    have fl : (formedM g L).length ≤ 8 := by
      rw [formed_eq]
      refine Nat.le_trans (List.length_filter_le _ _) ?_
      rw [List.length_map]; unfold asksL; rw [List.length_cons, List.length_map]; omega
    walk_at "rd"
    refine c_T (mp ((formedM g L).map swW) wrdD) hpu (by omega) rfl (fun i x H2 hi s2 => ?_) (fun D H2 ys k1 k2 k3 k4 => ?_)
    · obtain ⟨t, et, ht⟩ := map_get hus hi
      obtain ⟨q, rfl, hq⟩ := wrd_open (ht.same s2)
      have hway : t.2.2.1 ≤ 1 := by
        have mt := List.mem_of_getElem? et
        rw [formed_eq] at mt
        obtain ⟨ak, mak, rfl⟩ := List.mem_map.mp (List.mem_filter.mp mt).1
        show ak.2 ≤ 1
        have hwl := wayL_le L
        unfold asksL at mak
        rcases List.mem_cons.mp mak with e | e
        · rw [e]; exact hwl
        · obtain ⟨t, _, rfl⟩ := List.mem_map.mp e
          show 1 - wayL L ≤ 1; omega
      have ew : (1 : Int) - (t.2.2.1 : Int) = ((1 - t.2.2.1 : Nat) : Int) := by omega
      intro P R h1 h2
      walk_at "rd"
      refine ⟨rfl, ?_⟩
      walk_at "rd"
      rw [ew]
      intro p hp
      exact h1 _ _ (wrdD (swW t)) (Same.new hp) (mp_succ (by rw [List.getElem?_map, et]; rfl)) (wrd_mk (t := swW t) upd_same)
    rw [mp_all _ _ (by rw [List.length_map]; omega)] at k4
    have s12 := s1.trans k2
    have hb2 := s12 _ _ hb
    walk_at "rd"
    refine ⟨b, dx, _, rfl, hb2, rfl, ?_⟩
    walk_at "rd"
    refine ⟨b, g, m, beg, h, w, rfl, hB.same s12, hg, hm, b1, b2, fun bt H3 s3 hbt => ?_⟩
    have s13 := s12.trans s3
    walk_at "rd"
    refine ⟨v, L, rfl, hL.same s13, by omega, fun vt H4 s4 hvt => ?_⟩
    have s14 := s13.trans s4
    walk_at "rd"
    refine ⟨bt, vt, trG w g, trG w m, swp beg, w, h, turnL L, rfl, hbt.same s4, hg.tr, hm.tr hg, b2, b1, hvt, turn_ok ho, fun u2 H5 s5 hu2 => ?_⟩
    obtain ⟨pu2, us2, rfl, hpu2, hus2⟩ := at_tup' hu2
    have s25 := (s3.trans s4).trans s5
    have fl2 : (formedM (trG w g) (turnL L)).length ≤ 8 := by
      have l7' := (turn_ok ho).few
      rw [formed_eq]
      refine Nat.le_trans (List.length_filter_le _ _) ?_
      rw [List.length_map]; unfold asksL; rw [List.length_cons, List.length_map]; omega
    walk_at "rd"
    refine k_lstT hpu2 fun pl hpl => ?_
    have k3' := upd_old (u := .lst us2) (s25 _ _ k3) hpl
    have k4' := (k4.same s25).same (Same.new (o := .lst us2) hpl)
    have q3 : (upd H5 pl (.lst us2)) pl = some (.lst us2) := upd_same
    have q4 := hus2.same (Same.new (o := .lst us2) hpl)
    have s6 := (s12.trans s25).trans (Same.new (o := .lst us2) hpl)
    generalize upd H5 pl (.lst us2) = H6 at k3' k4' q3 q4 s6
    have dep : ∀ (ws : List Wrd), ∀ d ∈ ws.map wrdD, d.depth ≤ 8 := fun ws d m => by
      obtain ⟨t, _, rfl⟩ := List.mem_map.mp m
      simp [wrdD, PyData.depth, PyData.depthAll]
    walk_at "rd"
    refine ⟨D, ys, ((formedM g L).map swW).map wrdD, rfl, SqL.of k3', k4', wrds_alike _, wrds_sortable _, by rw [List.length_map, List.length_map]; omega, dep _, fun l1 ws1 hl1 hw1 => ?_⟩
    walk_at "rd"
    have t1 := Same.new (o := .lst ws1) hl1
    refine ⟨pl, us2, (formedM (trG w g) (turnL L)).map wrdD, rfl, SqL.of (t1 _ _ q3), q4.same t1, wrds_alike _, wrds_sortable _, by rw [List.length_map]; omega, dep _, fun l2 ws2 hl2 hw2 => ?_⟩
    have t2 := Same.new (o := .lst ws2) hl2
    rw [← turn_words hg ho one] at hw2
    have hsh : SeqAt.shaped (.list (srt (((formedM g L).map swW).map wrdD))) = true := shp_list fun d m => by
      have m := (List.mergeSort_perm _ _).mem_iff.mp m
      obtain ⟨x, mx, rfl⟩ := List.mem_map.mp m
      obtain ⟨y, my, rfl⟩ := List.mem_map.mp mx
      exact wrd_lay (formed_ok hg ho my).2
    refine ⟨_, _, .lst (SqL.of (t2 _ _ upd_same)) ((hw1.same (t1.trans t2)).dp _ _), .lst (SqL.of upd_same) ((hw2.same t2).dp _ _), hsh, hsh, ?_⟩
    rw [PySem.SeqAt.eqv_refl _ (SeqAt.canLay_of_shaped hsh)]
    exact hQ _ ((s6.trans t1).trans t2)

theorem ok_law {P : Program} {wd : World} {K : PySem.W.Frag} {mg : Str → Option Value} {bas : Heap} (T : Tx K mg) (c_Board : MakeOk P wd K mg bas CX0 (He.ga K "Board") "Board" 3 ["self", "rows", "marks", "begin"] (spBoardInit K)) (c_Board_turned : MethOk P wd K mg bas CX0 (He.ga K "Board") "turned" 5 ["self"] (spBoardTurned K)) (c_Book : MakeOk P wd K mg bas CX0 (He.ga K "Book") "Book" 2 ["self", "words"] (spBookInit K)) (c_law_begin : DefOk P wd K mg bas CX0 "_law_begin" 2 ["_law_rest_here", "_law_rows_here"] spBegin) (c_law_bent : DefOk P wd K mg bas CX0 "_law_bent" 2 ["_law_laying", "_law_rest_here", "_law_rows_here"] spBent) (c_law_caught : DefOk P wd K mg bas CX0 "_law_caught" 8 ["_law_board", "_law_book", "_law_rack_here", "_law_laying"] (spCaught K)) (c_law_cell_at : DefOk P wd K mg bas CX0 "_law_cell_at" 1 ["_law_script", "_law_k"] (spCellAt K)) (c_law_cells_due : DefOk P wd K mg bas CX0 "_law_cells_due" 3 ["_law_rows_here", "_law_begin_here", "_law_laying"] spCellsDue) (c_law_class : DefOk P wd K mg bas CX0 "_law_class" 1 ["_law_error"] (spClass K)) (c_law_known : DefOk P wd K mg bas CX0 "_law_known" 3 ["_law_rows_here", "_law_laying", "_law_rest_here", "_law_letters_here"] spKnown) (c_law_letters : DefOk P wd K mg bas CX0 "_law_letters" 2 ["_law_rest_here"] spLetters) (c_law_marks : DefOk P wd K mg bas CX0 "_law_marks" 2 ["_law_rest_here", "_law_rows_here"] spMarks) (c_law_rack : DefOk P wd K mg bas CX0 "_law_rack" 2 ["_law_laying", "_law_rest_here", "_law_letters_here"] spRack) (c_law_rest : DefOk P wd K mg bas CX0 "_law_rest" 1 ["_law_cell"] spRest) (c_law_rows : DefOk P wd K mg bas CX0 "_law_rows" 3 ["_law_rest_here", "_law_letters_here", "_law_most"] spRows) (c_law_same_words : DefOk P wd K mg bas CX0 "_law_same_words" 7 ["_law_board", "_law_laying"] (spSame K)) (c_law_straight : DefOk P wd K mg bas CX0 "_law_straight" 3 ["_law_rows_here", "_law_rest_here", "_law_letters_here"] spStraight) (c_law_turned : DefOk P wd K mg bas CX0 "_law_turned" 1 ["_law_laying"] spTurned) {f0 : Addr} {fd0 : FuncData} (F0 : FunD K "law" "law" (defArgs s_law) (defBody s_law) (defScope s_law) [] [] f0 fd0) :
    FnOk P wd K mg bas CX0 9 f0 fd0 ["_law_script"] (spLaw K) := by
  refine fn0 F0 sc_law (fun vs H Q E h => ?_) (fun cdv A outer s H vs Q E hr h => ?_)
  · obtain ⟨a, ns, rfl, hs, n63, hQ⟩ := h
    rfl
  · obtain ⟨a, ns, rfl, hs, n63, hQ⟩ := h
    refine ⟨_, (pss_cons (ps_set (i := 1) nd_law rfl (Or.inl rfl) (pe_fn c_law_letters (hr.mono (by decide)) pass0 (pa_cons (pe_fn c_law_rest (hr.mono (by decide)) pass0 (pa_cons (pe_fn c_law_cell_at (hr.mono (by decide)) pass0 (pa_cons (pv 0) (pa_cons pe_int pa_nil))) pa_nil)) pa_nil)))
      (pss_cons (ps_set (i := 2) nd_law rfl (Or.inl rfl) (pe_fn c_law_rows (hr.mono (by decide)) pass0 (pa_cons (pe_fn c_law_rest (hr.mono (by decide)) pass0 (pa_cons (pe_fn c_law_cell_at (hr.mono (by decide)) pass0 (pa_cons (pv 0) (pa_cons pe_int pa_nil))) pa_nil)) (pa_cons (pv 1) (pa_cons pe_int pa_nil)))))
      (pss_cons (ps_set (i := 3) nd_law rfl (Or.inl rfl) (pe_fn c_law_rest (hr.mono (by decide)) pass0 (pa_cons (pe_fn c_law_cell_at (hr.mono (by decide)) pass0 (pa_cons (pv 0) (pa_cons pe_int pa_nil))) pa_nil)))
      (pss_cons (ps_set (i := 4) nd_law rfl (Or.inl rfl) (pe_fn c_law_begin (hr.mono (by decide)) pass0 (pa_cons (pv 3) (pa_cons (pv 2) pa_nil))))
      (pss_cons (ps_set (i := 5) nd_law rfl (Or.inl rfl) (pe_new c_Board (hr.mono (by decide)) pass0 (pa_cons (pv 2) (pa_cons (pe_fn c_law_marks (hr.mono (by decide)) pass0 (pa_cons (pv 3) (pa_cons (pv 2) pa_nil))) (pa_cons (pv 4) pa_nil)))))
      (pss_cons (ps_set (i := 6) nd_law rfl (Or.inl rfl) (pe_mt0 c_Board_turned T.cls_Board (hr.mono (by decide)) pass0 (pv 5)))
      (pss_cons (ps_for PassesOwn.never rfl (pi_list (pe_slice sl_list (pv 0) (po_some pe_int) (po_some pe_int))) (pg_name (i := 7) nd_law rfl (Or.inl rfl)) (pss_cons (ps_set (i := 3) nd_law rfl (Or.inl rfl) (pe_fn c_law_rest (hr.mono (by decide)) pass0 (pa_cons (pv 7) pa_nil)))
      (pss_cons (ps_set (i := 8) nd_law rfl (Or.inl rfl) (pe_fn c_law_bent (hr.mono (by decide)) pass0 (pa_cons (pe_fn c_law_straight (hr.mono (by decide)) pass0 (pa_cons (pv 2) (pa_cons (pv 3) (pa_cons (pv 1) pa_nil)))) (pa_cons (pv 3) (pa_cons (pv 2) pa_nil)))))
      (pss_cons (ps_set (i := 9) nd_law rfl (Or.inl rfl) (pe_fn c_law_rack (hr.mono (by decide)) pass0 (pa_cons (pv 8) (pa_cons (pv 3) (pa_cons (pv 1) pa_nil)))))
      (pss_cons (ps_set (i := 10) nd_law rfl (Or.inl rfl) (pe_lst (pa_cons (pe_op o_addS (pe_ix ix_str (pv 1) pe_int (fun _ _ => rfl)) (pe_ix ix_str (pv 1) pe_int (fun _ _ => rfl))) pa_nil)))
      (pss_cons (ps_set (i := 11) nd_law rfl (Or.inl rfl) (pe_cmpR op_gt (pe_ix ix_tup (pe_fn c_law_cells_due (hr.mono (by decide)) pass0 (pa_cons (pv 2) (pa_cons (pv 4) (pa_cons (pv 8) pa_nil)))) pe_int (fun _ _ => rfl)) pe_int (nomark _)))
      (pss_cons (ps_if (pt_val (pv 11)) (pss_one (ps_set (i := 10) nd_law rfl (Or.inl rfl) (pe_fn c_law_known (hr.mono (by decide)) pass0 (pa_cons (pv 2) (pa_cons (pv 8) (pa_cons (pv 3) (pa_cons (pv 1) pa_nil))))))) pss_nil)
      (pss_cons (ps_set (i := 12) nd_law rfl (Or.inl rfl) (pe_new c_Book (hr.mono (by decide)) pass0 (pa_cons (pv 10) pa_nil)))
      (pss_cons (ps_set (i := 13) nd_law rfl (Or.inl rfl) (pe_fn c_law_caught (hr.mono (by decide)) pass0 (pa_cons (pv 5) (pa_cons (pv 12) (pa_cons (pv 9) (pa_cons (pv 8) pa_nil))))))
      (pss_cons (ps_set (i := 14) nd_law rfl (Or.inl rfl) (pe_fn c_law_caught (hr.mono (by decide)) pass0 (pa_cons (pv 6) (pa_cons (pv 12) (pa_cons (pv 9) (pa_cons (pe_fn c_law_turned (hr.mono (by decide)) pass0 (pa_cons (pv 8) pa_nil)) pa_nil))))))
      (pss_cons (ps_if (PW.pt (pw_or (pt_cmpR op_ne (pe_cmp (pc_isN (pv 13)) rfl) (pe_cmp (pc_isN (pv 14)) rfl) (nomark _)) (pw_or1 (PW.pt (pw_and (pt_cmp (pc_notN (pv 13)) rfl) (pw_and1 (pt_cmpR op_ne (pe_fn c_law_class (hr.mono (by decide)) pass0 (pa_cons (pv 13) pa_nil)) (pe_fn c_law_class (hr.mono (by decide)) pass0 (pa_cons (pv 14) pa_nil)) (nomark _)))))))) (pss_one (ps_ret pe_bl)) pss_nil)
      (pss_one (ps_if (PW.pt (pw_and (pt_val (pv 11)) (pw_and1 (pt_not (pt_val (pe_fn c_law_same_words (hr.mono (by decide)) pass0 (pa_cons (pv 5) (pa_cons (pv 8) pa_nil)))))))) (pss_one (ps_ret pe_bl)) pss_nil)))))))))))))
      (pss_one (ps_ret (pe_cmpR (op_eqD hr.units) (pe_fld (pv 5) rfl) (pv 2) (nomark _))))))))))), ?_⟩
    have hcB := T.cls_Board
    have hnr := T.na_Board_rows
    have hnm := T.na_Board_marks
    have hnb := T.na_Board_begin
    have hcK := T.cls_Book
    have hnh := T.na_Book_held
    walk_at "rd"
    refine ⟨a, ns, 0, rfl, hs, n63, by decide, fun i0 => ?_⟩
    walk_at "rd"
    refine ⟨i0, rfl, fun p1 m1 f1 => ?_⟩
    walk_at "rd"
    refine ⟨p1, rfl, ⟨m1, upd_same⟩, fun ls H1 s1 r1 hls => ?_⟩
    have S1 : Same H H1 := Same.sbn (Same.refl H) f1 s1
    walk_at "rd"
    refine ⟨a, ns, 1, rfl, SqL.same S1 hs, n63, by decide, fun i1 => ?_⟩
    walk_at "rd"
    refine ⟨i1, rfl, fun p2 m2 f2 => ?_⟩
    walk_at "rd"
    refine ⟨p2, ls, rfl, ⟨m2, upd_same⟩, hls, fun v g h w H2 s2 r2 hv hg hex => ?_⟩
    have S2 : Same H H2 := S1.trans (Same.sbn (Same.refl _) f2 s2)
    walk_at "rd"
    refine ⟨a, ns, 2, rfl, SqL.same S2 hs, n63, by decide, fun i2 => ?_⟩
    walk_at "rd"
    refine ⟨i2, rfl, fun p3 m3 f3 => ?_⟩
    have hv3 := hv.same (Same.new (o := .lst [.int m3]) f3)
    walk_at "rd"
    refine ⟨p3, v, g, h, w, rfl, ⟨m3, upd_same⟩, hv3, hg, fun ub beg H4 s4 r4 hub b1 b2 => ?_⟩
    have hv4 := hv3.sb ⟨m3, upd_same⟩ s4
    have T4 : Same H2 H4 := Same.sbn (Same.refl _) f3 s4
    walk_at "rd"
    refine ⟨p3, v, g, h, w, rfl, r4, hv4, hg, fun um m H5 s5 r5 hum hm => ?_⟩
    have hv5 := hv4.sb r4 s5
    have hub5 := hub.sb r4 s5
    have T5 : Same H2 H5 := Same.sb2 T4 f3 s5
    walk_at "rd"
    intro b dx nb nd ne
    have U : Same H5 (upd (upd H5 dx (.own b)) b (.ins (He.ga K "Board") dx [])) := (Same.new nd).trans (Same.new (by rw [upd_ne (fun e => ne e.symm)]; exact nb))
    refine ⟨b, dx, v, um, ub, g, m, beg, h, w, rfl, upd_same, hv5.same U, hum.same U, hub5.same U, hg, hm, b1, b2, fun H6 s6 hb6 => ⟨rfl, ?_⟩⟩
    have T6 : Same H5 H6 := fun x o e => s6 x o (fun q => by rw [q, nb] at e; cases e) (U _ _ e)
    have S6 : Same H H6 := (S2.trans T5).trans T6
    have hB : BoardAt K H6 b g m beg := ⟨dx, v, um, ub, hb6, hv5.same T6, hum.same T6, hub5.same T6⟩
    have hv6 := hv5.same T6
    have hub6 := hub5.same T6
    clear s1 s2 s4 s5 s6 hv hv3 hv4 hv5 hub hub5 hum U
    walk_at "rd"
    refine ⟨b, dx, _, rfl, hb6, rfl, ?_⟩
    walk_at "rd"
    refine ⟨b, g, m, beg, h, w, rfl, hB, hg, hm, b1, b2, fun c H7 s7 hC => ?_⟩
    have S7 := S6.trans s7
    have hB7 := hB.same s7
    have hv7 := hv6.same s7
    have hub7 := hub6.same s7
    walk_at "rd"
    refine ⟨a, _, rfl, SqL.same S7 hs, fun pc hpc => ?_⟩
    have hcut : ∀ x ∈ cutV (ns.map V.int) (some 3) (some 63), ∃ i : Int, x = .int i := fun x mx => by
      unfold cutV at mx
      obtain ⟨i, _, rfl⟩ := List.mem_map.mp (List.mem_of_mem_drop (List.mem_of_mem_take mx))
      exact ⟨i, rfl⟩
    generalize cutV (ns.map V.int) (some 3) (some 63) = cut at hcut
    have hpc8 : (upd H7 pc (.lst cut)) pc = some (.lst cut) := upd_same
    have s8 : Same H7 (upd H7 pc (.lst cut)) := Same.new hpc
    have hB8 := hB7.same s8
    have hC8 := hC.same s8
    have hv8 := hv7.same s8
    have hub8 := hub7.same s8
    generalize upd H7 pc (.lst cut) = H8 at hpc8 s8 hB8 hC8 hv8 hub8
    refine e_L hpc8 ?_
    refine f_L (fun i σ H' => (∃ a3 a7 a8 a9 a10 a11 a12 a13 a14, σ = [some (.ref a), some (.str (mk ls)), some v, a3, some ub, some (.ref b), some (.ref c), a7, a8, a9, a10, a11, a12, a13, a14]) ∧ Same H8 H') ⟨⟨_, _, _, _, _, _, _, _, _, rfl⟩, .refl _⟩ (fun i σ H' _ pv => SqL.of (pv.2 _ _ hpc8)) (fun i x σ H9 hi pv => ?_) (fun σ H9 pv => ?_)
    rotate_left
    · obtain ⟨⟨a3, a7, a8, a9, a10, a11, a12, a13, a14, rfl⟩, s9⟩ := pv
      have hb9 := s9 _ _ (s8 _ _ (s7 _ _ hb6))
      walk_at "rd"
      have hv9 := hv8.same s9
      refine ⟨_, _, hv9.dp _ _, hv9.dp _ _, rows_shp hg, rows_shp hg, ?_⟩
      rw [PySem.SeqAt.eqv_refl _ (SeqAt.canLay_of_shaped (rows_shp hg))]
      exact hQ _
    obtain ⟨⟨a3, a7, a8, a9, a10, a11, a12, a13, a14, rfl⟩, s9⟩ := pv
    obtain ⟨ii, rfl⟩ := hcut x (List.mem_of_getElem? hi)
    clear hpc8 hb6 hB hB7 hv6 hv7 hub6 hub7 hC r1 r2 r4 r5
    obtain ⟨l2, l26, lc⟩ := id hls
    walk_at "rd"
    refine ⟨ii, rfl, fun r mr fr => ?_⟩
    have fr8 : H8 r = none := Same.fr s9 fr
    have r10 : RestAt (upd H9 r (.lst [.int mr])) r := ⟨mr, upd_same⟩
    have s10 : Same H8 (upd H9 r (.lst [.int mr])) := s9.trans (Same.new fr)
    generalize upd H9 r (.lst [.int mr]) = H10 at r10 s10
    walk_at "rd"
    refine ⟨v, r, ls, g, h, w, rfl, r10, hls, hv8.same s10, hg, hex, fun zl L H11 t11 r11 hzl hol => ?_⟩
    have s11 := Same.sb2 s10 fr8 t11
    walk_at "rd"
    refine ⟨zl, r, v, g, h, w, L, rfl, r11, hv8.same s11, hg, hzl, hol, fun u8 M H12 t12 r12 hM ho => ?_⟩
    have s12 := Same.sb2 s11 fr8 t12
    walk_at "rd"
    refine ⟨u8, r, ls, h, w, M, rfl, r12, hls, hM, ho, fun rk H13 t13 r13 hrk => ?_⟩
    have s13 := Same.sb2 s12 fr8 t13
    have hM13 := hM.sb r12 t13
    have q0 : ls[0]? = some (ls[0]'(by omega)) := List.getElem?_eq_getElem _
    have q1 : ls[1]? = some (ls[1]'(by omega)) := List.getElem?_eq_getElem _
    have m0 := lc _ (List.getElem_mem (show 0 < ls.length by omega))
    have mm1 := lc _ (List.getElem_mem (show 1 < ls.length by omega))
    generalize ls[0]'(by omega) = c0 at q0 m0
    generalize ls[1]'(by omega) = c1 at q1 mm1
    have hw0 : WordOk ([c0] ++ [c1]) := ⟨by simp, by simp, fun c m => by
      rcases List.mem_cons.mp m with e | m
      · rw [e]; exact m0
      · rw [List.mem_singleton.mp m]; exact mm1⟩
    walk_at "rd"
    refine k_ixS (j := 0) (by omega) q0 ?_
    walk_at "rd"
    refine k_ixS (j := 1) (by omega) q1 ?_
    refine k_addS (by simp) ?_
    walk_at "rd"
    intro pw hpw
    have pw14 : (upd H13 pw (.lst [.str (mk ([c0] ++ [c1]))])) pw = some (.lst ([[c0] ++ [c1]].map fun t => V.str (mk t))) := upd_same
    have t14 : Same H13 (upd H13 pw (.lst [.str (mk ([c0] ++ [c1]))])) := Same.new hpw
    have hM14 := hM13.same t14
    have r14 := r13.same t14
    have s14 := s13.trans t14
    generalize upd H13 pw (.lst [.str (mk ([c0] ++ [c1]))]) = H14 at pw14 t14 hM14 r14 s14
    walk_at "rd"
    refine ⟨v, ub, u8, g, h, w, beg, M, rfl, hv8.same s14, hg, hub8.same s14, hM14, ho, fun pd n xa xb H15 t15 hpd hone => ?_⟩
    have pw15 := t15 _ _ pw14
    have hM15 := hM14.same t15
    have r15 := r14.same t15
    have s15 := s14.trans t15
    with_reducible refine k_c ?_
    refine k_ixT0 hpd rfl ?_
    with_reducible refine k_c ?_
    with_reducible refine k_I0 ?_
    with_reducible refine k_gn ?_
    clear hM hM13 hM14 pw14 r10 r11 r12 r13 r14 hzl hpd
    with_reducible refine k_seqS (fun σ H' => ∃ pw ws a3, σ = [some (.ref a), some (.str (mk ls)), some v, a3, some ub, some (.ref b), some (.ref c), some (.int ii), some u8, some (.str (mk rk)), some (.ref pw), some (.bl (decide (3 < n))), a12, a13, a14] ∧ Same H8 H' ∧ At H' (layD M) u8 ∧ H' pw = some (.lst ((ws : List (List Nat)).map fun t => V.str (mk t))) ∧ ws.length ≤ 1000 ∧ ∀ t ∈ ws, WordOk t) (fun nx hnx => ?_) fun σ H16 hI => ?_
    · walk_at "rd"
      refine k_ited (fun q => ?_) (fun q => ?_)
      rotate_left
      · refine k_next ?_
        exact hnx _ _ ⟨pw, _, _, rfl, s15, hM15, pw15, by simp, fun t m => by rw [List.mem_singleton.mp m]; exact hw0⟩
      walk_at "rd"
      refine ⟨v, u8, r, ls, g, h, w, M, rfl, r15, hls, hv8.same s15, hg, hM15, ho, fun p2 ws H16 t16 r16 hp2 hl2 hw2 => ?_⟩
      exact hnx _ _ ⟨p2, ws, _, rfl, Same.sb2 s15 fr8 t16, hM15.sb r15 t16, hp2, hl2, hw2⟩
    clear pw15 hM15 r15 s15 s14 s13 s12 s11 s10 t11 t12 t13 t14 t15
    obtain ⟨pw2, ws, b3, rfl, s16, hM16, hp16, hwl, hww⟩ := hI
    walk_at "rd"
    intro k dk nk ndk nek
    have U : Same H16 (upd (upd H16 dk (.own k)) k (.ins (He.ga K "Book") dk [])) := (Same.new ndk).trans (Same.new (by rw [upd_ne (fun e => nek e.symm)]; exact nk))
    refine ⟨k, dk, pw2, ws, rfl, upd_same, U _ _ hp16, hwl, hww, fun H17 t17 hK => ⟨rfl, ?_⟩⟩
    have T17 : Same H16 H17 := fun x o e => t17 x o (fun q => by rw [q, nk] at e; cases e) (U _ _ e)
    have s17 := s16.trans T17
    have hM17 := hM16.same T17
    clear U t17 hp16 hM16
    with_reducible refine k_gn ?_
    obtain ⟨cc, ecc⟩ : ∃ cc, cc = checkM g beg ws rk M := ⟨_, rfl⟩
    have hcc6 := check_lt g beg ws rk M
    rw [← ecc] at hcc6
    with_reducible refine k_seqS (fun σ H' => ∃ v1, σ = [some (.ref a), some (.str (mk ls)), some v, b3, some ub, some (.ref b), some (.ref c), some (.int ii), some u8, some (.str (mk rk)), some (.ref pw2), some (.bl (decide (3 < n))), some (.ref k), some v1, a14] ∧ Same H17 H' ∧ OutAt K H' cc v1) (fun nx hnx => ?_) fun σ H18 hI => ?_
    · walk_at "rd"
      refine ⟨b, k, rk, u8, g, m, beg, h, w, ws, M, rfl, hB8.same s17, hg, hm, b1, b2, hK, hrk, hM17, ho, fun q H' t => ?_, fun q e d H' t he hd => ?_⟩
      · exact hnx _ _ ⟨.non, rfl, t, .inl ⟨ecc.trans q, rfl⟩⟩
      · rw [← ecc] at q he
        exact hnx _ _ ⟨.ref e, rfl, t, .inr ⟨q, hcc6, e, d, rfl, he, hd⟩⟩
    obtain ⟨v1, rfl, t18, o1⟩ := hI
    with_reducible refine k_seqS (fun σ H' => ∃ v2, σ = [some (.ref a), some (.str (mk ls)), some v, b3, some ub, some (.ref b), some (.ref c), some (.int ii), some u8, some (.str (mk rk)), some (.ref pw2), some (.bl (decide (3 < n))), some (.ref k), some v1, some v2] ∧ Same H18 H' ∧ OutAt K H' cc v2) (fun nx hnx => ?_) fun σ H19 hI => ?_
    · have s18 := s17.trans t18
      have l7 := ho.few
      walk_at "rd"
      refine ⟨u8, M, rfl, hM17.same t18, by omega, fun u9 H' t hu9 => ?_⟩
      have et : checkM (trG w g) (swp beg) ws rk (turnL M) = cc := (turn_check hg ho beg ws rk).trans ecc.symm
      walk_at "rd"
      refine ⟨c, k, rk, u9, trG w g, trG w m, swp beg, w, h, ws, turnL M, rfl, hC8.same (s18.trans t), hg.tr, hm.tr hg, b2, b1, hK.same (t18.trans t), hrk, hu9, turn_ok ho, fun q H2 t2 => ?_, fun q e d H2 t2 he hd => ?_⟩
      · exact hnx _ _ ⟨.non, rfl, t.trans t2, .inl ⟨et.symm.trans q, rfl⟩⟩
      · rw [et] at q he
        exact hnx _ _ ⟨.ref e, rfl, t.trans t2, .inr ⟨q, hcc6, e, d, rfl, he, hd⟩⟩
    obtain ⟨v2, rfl, t19, o2⟩ := hI
    have o1 := o1.same t19
    have s19 := (s17.trans t18).trans t19
    have hM19 := (hM17.same t18).same t19
    with_reducible refine k_seqS (fun σ H' => σ = [some (.ref a), some (.str (mk ls)), some v, b3, some ub, some (.ref b), some (.ref c), some (.int ii), some u8, some (.str (mk rk)), some (.ref pw2), some (.bl (decide (3 < n))), some (.ref k), some v1, some v2] ∧ Same H19 H') (fun nx hnx => ?_) fun σ H20 hI => ?_
    · rcases o1 with ⟨z, rfl⟩ | ⟨z, z6, e1, d1, rfl, he1, hd1⟩
      · rcases o2 with ⟨z2, rfl⟩ | ⟨z2, _⟩
        rotate_left
        · exact (z2 z).elim
        walk_at "rd"
        refine k_neB ?_
        refine k_bl ?_
        refine k_bF (by simp) ?_
        walk_at "rd"
        refine k_bF (by simp) ?_
        walk_at "rd"
        exact hnx _ _ ⟨rfl, .refl _⟩
      · rcases o2 with ⟨z2, _⟩ | ⟨z2, _, e2, d2, rfl, he2, hd2⟩
        · exact (z z2).elim
        walk_at "rd"
        refine k_neB ?_
        refine k_bl ?_
        refine k_bF (by simp) ?_
        walk_at "rd"
        refine k_bT (by simp) ?_
        walk_at "rd"
        refine ⟨e1, d1, cc, rfl, he1, hd1, by omega, z6, fun H20 t20 => ?_⟩
        walk_at "rd"
        refine ⟨e2, d2, cc, rfl, t20 _ _ he2, hd2.same t20, by omega, z6, fun H21 t21 => ?_⟩
        walk_at "rd"
        refine k_itnTr rfl ?_
        walk_at "rd"
        exact hnx _ _ ⟨rfl, t20.trans t21⟩
    obtain ⟨rfl, t20⟩ := hI
    have s20 := s19.trans t20
    walk_at "rd"
    refine k_ited (fun q => ?_) (fun q => ?_)
    · walk_at "rd"
      refine ⟨b, u8, g, m, beg, h, w, M, rfl, hB8.same s20, hg, hm, b1, b2, hM19.same t20, ho, hone q, fun H21 t21 => ?_⟩
      walk_at "rd"
      exact ⟨⟨_, _, _, _, _, _, _, _, _, rfl⟩, s20.trans t21⟩
    · walk_at "rd"
      exact ⟨⟨_, _, _, _, _, _, _, _, _, rfl⟩, s20⟩
theorem all_ok {P : Program} {wd : World} {K : PySem.W.Frag} {mg : Str → Option Value} {bas : Heap} (T : Tx K mg) {f0 : Addr} {fd0 : FuncData} (F0 : FunD K "law" "law" (defArgs s_law) (defBody s_law) (defScope s_law) [] [] f0 fd0) :
    FnOk P wd K mg bas CX0 9 f0 fd0 ["_law_script"] (spLaw K) := by
  have c_is_sign : DefOk P wd K mg bas CX0 "is_sign" 1 ["thing"] spIsSign := ok_is_sign T 
  have c_letter_of : DefOk P wd K mg bas CX0 "letter_of" 1 ["sign"] spLetterOf := ok_letter_of T 
  have c_tile_of : DefOk P wd K mg bas CX0 "tile_of" 1 ["sign"] spTileOf := ok_tile_of T 
  have c_Lacking_init : ErrOk P wd K mg bas "Lacking" 1 ["self", "tile"] (spInit1 K "Lacking" "tile") := ok_Lacking_init T 
  have c_without : DefOk P wd K mg bas (L2.CX P wd) "without" 3 ["rack", "tiles"] (spWithout K) := ok_without T c_Lacking_init
  have c_left_of : DefOk P wd K mg bas (L2.CX P wd) "left_of" 4 ["rack", "signs"] (spLeftOf K) := ok_left_of T c_tile_of c_without
  have c_is_place : DefOk P wd K mg bas CX0 "is_place" 1 ["thing", "many"] spIsPlace := ok_is_place T 
  have c_is_triple : DefOk P wd K mg bas CX0 "is_triple" 2 ["board", "thing"] (spIsTriple K) := ok_is_triple T c_is_place c_is_sign
  have c_cells_of : DefOk P wd K mg bas CX0 "cells_of" 1 ["laying"] spCellsOf := ok_cells_of T 
  have c_is_laying : DefOk P wd K mg bas CX0 "is_laying" 3 ["board", "thing"] (spIsLaying K) := ok_is_laying T c_cells_of c_is_triple
  have c_way_of : DefOk P wd K mg bas CX0 "way_of" 1 ["laying"] spWayOf := ok_way_of T 
  have c_are_rows : DefOk P wd K mg bas CX0 "are_rows" 1 ["thing"] spAreRows := ok_are_rows T 
  have c_is_whole : DefOk P wd K mg bas CX0 "is_whole" 1 ["thing"] spIsWhole := ok_is_whole T 
  have c_is_cell : DefOk P wd K mg bas CX0 "is_cell" 2 ["rows", "thing"] spIsCell := ok_is_cell T c_is_whole
  have c_Board : MakeOk P wd K mg bas CX0 (He.ga K "Board") "Board" 3 ["self", "rows", "marks", "begin"] (spBoardInit K) := ok_Board_init T c_are_rows c_is_cell c_is_sign
  have c_Board_laid : MethOk P wd K mg bas CX0 (He.ga K "Board") "laid" 5 ["self", "laying"] (spBoardLaid K) := ok_Board_laid T c_Board
  have c_Board_at : MethOk P wd K mg bas CX0 (He.ga K "Board") "at" 1 ["self", "row", "column"] (spBoardAt K) := ok_Board_at T 
  have c_Board_run : MethOk P wd K mg bas CX0 (He.ga K "Board") "run" 2 ["self", "row", "column", "way"] (spBoardRun K) := ok_Board_run T c_Board_at
  have c_formed : DefOk P wd K mg bas CX0 "formed" 6 ["board", "laying"] (spFormed K) := ok_formed T c_Board_laid c_Board_run c_way_of
  have c_between : DefOk P wd K mg bas CX0 "between" 2 ["laying"] spBetween := ok_between T c_way_of
  have c_Board_is_free : MethOk P wd K mg bas CX0 (He.ga K "Board") "is_free" 1 ["self"] (spBoardFree K) := ok_Board_is_free T 
  have c_is_joined : DefOk P wd K mg bas CX0 "is_joined" 2 ["board", "cells"] (spIsJoined K) := ok_is_joined T c_Board_at c_Board_is_free
  have c_Gap_init : ErrOk P wd K mg bas "Gap" 1 ["self", "row", "column"] (spInit2 K "Gap" "row" "column") := ok_Gap_init T 
  have c_Taken_init : ErrOk P wd K mg bas "Taken" 1 ["self", "row", "column"] (spInit2 K "Taken" "row" "column") := ok_Taken_init T 
  have c_check_cells : DefOk P wd K mg bas (L2.CX P wd) "check_cells" 3 ["board", "laying"] (spCheckCells K) := ok_check_cells T c_Board_at c_Gap_init c_Taken_init c_between c_cells_of c_is_joined
  have c_Book_has : MethOk P wd K mg bas CX0 (He.ga K "Book") "has" 1 ["self", "text"] (spBookHas K) := ok_Book_has T 
  have c_NoWord_init : ErrOk P wd K mg bas "NoWord" 1 ["self", "word"] (spInit1 K "NoWord" "word") := ok_NoWord_init T 
  have c_check_laying : DefOk P wd K mg bas (L2.CX P wd) "check_laying" 7 ["board", "book", "rack", "laying"] (spCheckLaying K) := ok_check_laying T c_Book_has c_NoWord_init c_check_cells c_formed c_is_laying c_left_of c_letter_of
  have c_turned_rows : DefOk P wd K mg bas CX0 "turned_rows" 1 ["rows"] spTurnedRows := ok_turned_rows T 
  have c_Board_turned : MethOk P wd K mg bas CX0 (He.ga K "Board") "turned" 5 ["self"] (spBoardTurned K) := ok_Board_turned T c_Board c_turned_rows
  have c_check_word : DefOk P wd K mg bas CX0 "check_word" 1 ["thing"] spCheckWord := ok_check_word T 
  have c_Book : MakeOk P wd K mg bas CX0 (He.ga K "Book") "Book" 2 ["self", "words"] (spBookInit K) := ok_Book_init T c_check_word
  have c_law_cell_at : DefOk P wd K mg bas CX0 "_law_cell_at" 1 ["_law_script", "_law_k"] (spCellAt K) := ok_law_cell_at T 
  have c_law_take : DefOk P wd K mg bas CX0 "_law_take" 1 ["_law_rest_here", "_law_base"] spTake := ok_law_take T 
  have c_law_rest : DefOk P wd K mg bas CX0 "_law_rest" 1 ["_law_cell"] spRest := ok_law_rest T 
  have c_law_letters : DefOk P wd K mg bas CX0 "_law_letters" 2 ["_law_rest_here"] spLetters := ok_law_letters T c_law_take
  have c_law_sign : DefOk P wd K mg bas CX0 "_law_sign" 2 ["_law_rest_here", "_law_letters_here", "_law_great"] spSign := ok_law_sign T c_law_take
  have c_law_rows : DefOk P wd K mg bas CX0 "_law_rows" 3 ["_law_rest_here", "_law_letters_here", "_law_most"] spRows := ok_law_rows T c_law_sign c_law_take
  have c_law_marks : DefOk P wd K mg bas CX0 "_law_marks" 2 ["_law_rest_here", "_law_rows_here"] spMarks := ok_law_marks T c_law_take
  have c_law_begin : DefOk P wd K mg bas CX0 "_law_begin" 2 ["_law_rest_here", "_law_rows_here"] spBegin := ok_law_begin T c_law_take
  have c_law_grid : DefOk P wd K mg bas CX0 "_law_grid" 1 ["_law_rows_here", "_law_laying"] spGrid := ok_law_grid T 
  have c_law_run : DefOk P wd K mg bas CX0 "_law_run" 1 ["_law_grid_here", "_law_row", "_law_column", "_law_way"] spRun := ok_law_run T 
  have c_law_words : DefOk P wd K mg bas CX0 "_law_words" 2 ["_law_rows_here", "_law_laying"] spWords := ok_law_words T c_law_grid c_law_run
  have c_law_is_near : DefOk P wd K mg bas CX0 "_law_is_near" 1 ["_law_rows_here", "_law_row", "_law_column"] spIsNear := ok_law_is_near T 
  have c_law_starts : DefOk P wd K mg bas CX0 "_law_starts" 2 ["_law_rows_here", "_law_rest_here"] spStarts := ok_law_starts T c_law_is_near c_law_take
  have c_law_straight : DefOk P wd K mg bas CX0 "_law_straight" 3 ["_law_rows_here", "_law_rest_here", "_law_letters_here"] spStraight := ok_law_straight T c_law_sign c_law_starts c_law_take
  have c_law_joined : DefOk P wd K mg bas CX0 "_law_joined" 2 ["_law_rows_here", "_law_begin_here", "_law_cells"] spJoined := ok_law_joined T c_law_is_near
  have c_law_cells_due : DefOk P wd K mg bas CX0 "_law_cells_due" 3 ["_law_rows_here", "_law_begin_here", "_law_laying"] spCellsDue := ok_law_cells_due T c_law_joined
  have c_law_class : DefOk P wd K mg bas CX0 "_law_class" 1 ["_law_error"] (spClass K) := ok_law_class T 
  have c_law_caught : DefOk P wd K mg bas CX0 "_law_caught" 8 ["_law_board", "_law_book", "_law_rack_here", "_law_laying"] (spCaught K) := ok_law_caught T c_check_laying
  have c_law_bent : DefOk P wd K mg bas CX0 "_law_bent" 2 ["_law_laying", "_law_rest_here", "_law_rows_here"] spBent := ok_law_bent T c_law_take
  have c_law_rack : DefOk P wd K mg bas CX0 "_law_rack" 2 ["_law_laying", "_law_rest_here", "_law_letters_here"] spRack := ok_law_rack T c_law_take
  have c_law_known : DefOk P wd K mg bas CX0 "_law_known" 3 ["_law_rows_here", "_law_laying", "_law_rest_here", "_law_letters_here"] spKnown := ok_law_known T c_law_take c_law_words
  have c_law_turned : DefOk P wd K mg bas CX0 "_law_turned" 1 ["_law_laying"] spTurned := ok_law_turned T 
  have c_law_same_words : DefOk P wd K mg bas CX0 "_law_same_words" 7 ["_law_board", "_law_laying"] (spSame K) := ok_law_same_words T c_Board_turned c_law_turned c_formed
  exact ok_law T c_Board c_Board_turned c_Book c_law_begin c_law_bent c_law_caught c_law_cell_at c_law_cells_due c_law_class c_law_known c_law_letters c_law_marks c_law_rack c_law_rest c_law_rows c_law_same_words c_law_straight c_law_turned F0
theorem facts {P : Program} {w : World} {K : PySem.W.Frag} {h : Heap} {mg : Str → Option Value} {f : Addr} (X : K.In h) (G : h.Ns mainGlobals mg) (hfa : mg ("law" : Str) = some (.ref f)) (c : He.SaysD faL fnL K) (e : exB K = true) :
    ∃ fd : FuncData, (∀ (s : Shared) (v : Value), BindsTo s fd ⟨[v], []⟩ [("_law_script", v)]) ∧ ∀ base : Heap, K.In base → base.Ns mainGlobals mg → FnOk P w K mg base CX0 9 f fd ["_law_script"] (spLaw K) := by
  have T : Tx K mg := ⟨⟨h, X, G⟩, c, e⟩
  obtain ⟨f2, fd, g, F⟩ := T.fn_law
  have q := hfa.symm.trans g
  cases q
  have b := FunD.bindsA (ps := ["_law_script"]) F fun _ _ _ _ _ _ us hl => match us, hl with | [_], _ => rfl
  exact ⟨fd, fun s v => b s [v] rfl, fun base _ _ => all_ok T F⟩
end LR
open PySem PySem.W PySem.Calls PyProof.Rows
theorem PySem.Challenge.cw_letterrack_k26_whole_the_board_turned_holds : PySem.Challenge.rw_letterrack_k26_whole_the_board_turned.Holds := by
  w_on; o_law
  refine HandSHeadRun.head_any (r := LR.R) (q := view LR.R.prog [76]) (H := LR.hk) (ob := LR.ob) (M := 8000) (loose := LR.namesL) (d := HandSHeadRun.topDef LR.R.prog 76) (kwd := []) LR.ob_eq
    (by kernel_rfl) (fun s => by kernel_rfl) LR.run (by kernel_rfl) (by kernel_rfl) (by kernel_rfl) (by rfl) (by first | assumption | decide +kernel) (by decide +kernel) ⟨rfl, rfl, rfl, rfl, rfl, by decide +kernel⟩ ?hw ?hc
  case hw => w_witness2
  case hc =>
    refine L2.walk_ofE (l := PySem.Challenge.rw_letterrack_k26_whole_the_board_turned) (n := 63) (k := 9) (x := "_law_script") (CX := L2.CX0) rfl (by decide) (by kernel_rfl) ⟨rfl, by decide, by decide⟩ ?F (fun _ _ _ _ z => z)
    intro w mg fa h Y G hmg0
    obtain ⟨K, KX, c, e⟩ := Y
    have hmg : mg ("law" : PySem.Str) = some (.ref fa) := by
      have e : (HandSHeadRun.topDef LR.R.prog 76).name = ("law" : PySem.Str) := by kernel_rfl
      rw [← e]
      exact hmg0
    obtain ⟨fd, hb, hF⟩ := LR.facts (P := (PySem.Challenge.rw_letterrack_k26_whole_the_board_turned).prog) (w := w) KX G hmg c e
    exact ⟨K, fd, LR.spLaw K, KX, hb, fun H a ns hl _ hS => ⟨a, ns, rfl, hS, hl, fun _ => rfl⟩, hF⟩
