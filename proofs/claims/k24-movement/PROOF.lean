import PyProof.Rows.All
import Wide.All
import OpenK.AllK
import Wide.FinOn
import KE.KStateDown
import HandS.ForMost
import HandS.Exc
import HandS.WordsExc
import HandS.Defaults
import HandS.Head0
import HandS.Head1
import HandS.Head2
import HandS.HeadEnd
import HandS.HeadHook1
import HandS.HeadHook2
import HandS.HeadHook3
import HandS.HeadHook4
import HandS.HeadWalk
import HandS.More
import HandS.Codes
import HandS.Style
import HandS.Flow
import HandS.StrMore
import HandS.StrSplit
import HandS.AnyAll
import PyProof.GenCompD
import HandS.IsInst
import PySem.Challenge.RW_keyfocus_k24_movement_within_composites
set_option Elab.async false
set_option linter.all false
set_option maxRecDepth 100000
set_option maxHeartbeats 0
namespace K24
open PySem PySem.Spec PyProof.Rows L2
abbrev pw : Program := PySem.Challenge.pw_keyfocus_k24_movement_within_composites
abbrev rw0 : PySem.W.OpenLaw := PySem.Challenge.rw_keyfocus_k24_movement_within_composites
def top (i : Nat) : Stmt := pw.main.body.getD i (.Pass ⟨0, 0, 0, 0⟩)
def fa0 : List He.Fa := [.glo "merged", .glo "is_name", .glo "is_label", .glo "unquoted", .glo "layer_of", .glo "between", .glo "is_usable", .glo "is_focusable", .glo "focusable_items", .glo "composite_of", .glo "is_outer", .glo "outer_composites", .glo "members", .glo "place_of", .glo "wrapped", .glo "moved", .glo "begins_with", .glo "found_by", .glo "first_of", .glo "new_tree", .glo "cut_off", .glo "info_of", .glo "parse_outline", .glo "done_as_move", .glo "done", .glo "_law_cell", .glo "_law_draws", .glo "_law_rows", .glo "_law_outline", .glo "_law_tree", .glo "_law_up", .glo "_law_layer", .glo "_law_inner", .glo "_law_items", .glo "_law_composite", .glo "_law_composites", .glo "_law_members", .glo "_law_begun", .glo "_law_focused", .glo "_law_path"]
def fa1 : List He.Fa := [.glo "_law_focus", .glo "_law_within", .glo "_law_typed", .glo "_law_why_not", .glo "_law_modelled", .glo "_law_did", .glo "_law_is_it", .glo "law", .glo "Turn", .cls "Turn", .mkr "Turn", .glo "Announcements", .cls "Announcements", .mkr "Announcements", .glo "Bindings", .cls "Bindings", .mkr "Bindings", .glo "Layers", .cls "Layers", .mkr "Layers", .glo "Node", .cls "Node", .mkr "Node", .glo "Tree", .cls "Tree", .mkr "Tree", .glo "Reader", .cls "Reader", .mkr "Reader", .glo "Manager", .cls "Manager", .mkr "Manager", .noat "Turn" "begin", .noat "Turn" "end", .noat "Turn" "steps", .noat "Announcements" "rows", .noat "Announcements" "last", .noat "Bindings" "rows", .noat "Layers" "tree", .noat "Layers" "stack"]
def fa2 : List He.Fa := [.noat "Layers" "openings", .noat "Layers" "opened", .noat "Layers" "current", .noat "Layers" "roving", .noat "Node" "kind", .noat "Node" "label", .noat "Node" "visible", .noat "Node" "enabled", .noat "Node" "parent", .noat "Node" "children", .noat "Tree" "nodes", .noat "Reader" "tree", .noat "Reader" "path", .noat "Manager" "tree", .noat "Manager" "layers", .noat "Manager" "keymap", .noat "Manager" "waiting", .noat "Manager" "announcements", .meth "Announcements" "tell", .meth "Layers" "top", .meth "Layers" "focused", .meth "Layers" "focus_path", .meth "Layers" "focus", .meth "Layers" "rove", .meth "Tree" "has", .meth "Tree" "kind", .meth "Tree" "label", .meth "Tree" "is_visible", .meth "Tree" "is_enabled", .meth "Tree" "children", .meth "Tree" "ancestors", .meth "Tree" "depth", .meth "Tree" "subtree", .meth "Tree" "names", .meth "Tree" "need", .meth "Tree" "need_inner", .meth "Tree" "need_place", .meth "Tree" "insert", .meth "Tree" "set_flag", .meth "Reader" "read_root"]
def fa3 : List He.Fa := [.meth "Reader" "can_be", .meth "Reader" "read", .meth "Manager" "told", .meth "Manager" "settled", .meth "Manager" "need", .meth "Manager" "need_kind", .meth "Manager" "current_item", .meth "Manager" "layer_item", .meth "Manager" "focused", .meth "Manager" "focus_path", .meth "Manager" "open_layers", .meth "Manager" "has_composite", .meth "Manager" "go", .meth "Manager" "within", .meth "Manager" "next_item", .meth "Manager" "previous_item", .meth "Manager" "first_item", .meth "Manager" "last_item", .meth "Manager" "typeahead", .meth "Manager" "need_target", .meth "Manager" "focus", .int "NODES_MOST" 60, .int "DEPTH_MOST" 8, .int "NAME_MOST" 8, .int "LABEL_MOST" 40, .str "NAME_SIGNS" "abcdefghijklmnopqrstuvwxyz0123456789._-", .str "ROOT_layers" "root", .str "ROOT_tree" "root", .str "HIDDEN" " hidden", .str "DISABLED" " disabled", .glo "COMPOSITES", .glo "KINDS", .glo "TREE_DEEDS", .glo "MOVES", .free "isinstance", .free "all", .free "len", .free "list", .free "tuple", .free "enumerate"]
def fa4 : List He.Fa := [.free "max", .free "min", .free "range", .free "str"]
def fa : List He.Fa := fa0 ++ fa1 ++ fa2 ++ fa3 ++ fa4
def fn0 : List He.DefD := [⟨("Turn", some "__init__"), "__init__", "Turn.__init__", defArgs (inClass (top 9) 0), defBody (inClass (top 9) 0), defScope (inClass (top 9) 0), [], []⟩,
  ⟨("merged", none), "merged", "merged", defArgs (top 10), defBody (top 10), defScope (top 10), [], []⟩,
  ⟨("Announcements", some "__init__"), "__init__", "Announcements.__init__", defArgs (inClass (top 11) 0), defBody (inClass (top 11) 0), defScope (inClass (top 11) 0), [], []⟩,
  ⟨("Announcements", some "tell"), "tell", "Announcements.tell", defArgs (inClass (top 11) 1), defBody (inClass (top 11) 1), defScope (inClass (top 11) 1), [], []⟩,
  ⟨("Bindings", some "__init__"), "__init__", "Bindings.__init__", defArgs (inClass (top 28) 0), defBody (inClass (top 28) 0), defScope (inClass (top 28) 0), [], []⟩,
  ⟨("is_name", none), "is_name", "is_name", defArgs (top 33), defBody (top 33), defScope (top 33), [], []⟩,
  ⟨("is_label", none), "is_label", "is_label", defArgs (top 34), defBody (top 34), defScope (top 34), [], []⟩,
  ⟨("unquoted", none), "unquoted", "unquoted", defArgs (top 36), defBody (top 36), defScope (top 36), [], []⟩,
  ⟨("layer_of", none), "layer_of", "layer_of", defArgs (top 43), defBody (top 43), defScope (top 43), [], []⟩,
  ⟨("between", none), "between", "between", defArgs (top 44), defBody (top 44), defScope (top 44), [], []⟩,
  ⟨("is_usable", none), "is_usable", "is_usable", defArgs (top 45), defBody (top 45), defScope (top 45), [], []⟩,
  ⟨("is_focusable", none), "is_focusable", "is_focusable", defArgs (top 46), defBody (top 46), defScope (top 46), [], []⟩,
  ⟨("focusable_items", none), "focusable_items", "focusable_items", defArgs (top 47), defBody (top 47), defScope (top 47), [], []⟩,
  ⟨("composite_of", none), "composite_of", "composite_of", defArgs (top 50), defBody (top 50), defScope (top 50), [], []⟩,
  ⟨("is_outer", none), "is_outer", "is_outer", defArgs (top 51), defBody (top 51), defScope (top 51), [], []⟩,
  ⟨("outer_composites", none), "outer_composites", "outer_composites", defArgs (top 52), defBody (top 52), defScope (top 52), [], []⟩,
  ⟨("members", none), "members", "members", defArgs (top 53), defBody (top 53), defScope (top 53), [], []⟩,
  ⟨("place_of", none), "place_of", "place_of", defArgs (top 56), defBody (top 56), defScope (top 56), [], []⟩,
  ⟨("wrapped", none), "wrapped", "wrapped", defArgs (top 58), defBody (top 58), defScope (top 58), [], []⟩,
  ⟨("moved", none), "moved", "moved", defArgs (top 59), defBody (top 59), defScope (top 59), [], []⟩]
def fn1 : List He.DefD := [⟨("begins_with", none), "begins_with", "begins_with", defArgs (top 60), defBody (top 60), defScope (top 60), [], []⟩,
  ⟨("found_by", none), "found_by", "found_by", defArgs (top 61), defBody (top 61), defScope (top 61), [], []⟩,
  ⟨("first_of", none), "first_of", "first_of", defArgs (top 69), defBody (top 69), defScope (top 69), [], []⟩,
  ⟨("Layers", some "__init__"), "__init__", "Layers.__init__", defArgs (inClass (top 70) 0), defBody (inClass (top 70) 0), defScope (inClass (top 70) 0), [], []⟩,
  ⟨("Layers", some "top"), "top", "Layers.top", defArgs (inClass (top 70) 1), defBody (inClass (top 70) 1), defScope (inClass (top 70) 1), [], []⟩,
  ⟨("Layers", some "focused"), "focused", "Layers.focused", defArgs (inClass (top 70) 2), defBody (inClass (top 70) 2), defScope (inClass (top 70) 2), [], []⟩,
  ⟨("Layers", some "focus_path"), "focus_path", "Layers.focus_path", defArgs (inClass (top 70) 3), defBody (inClass (top 70) 3), defScope (inClass (top 70) 3), [], []⟩,
  ⟨("Layers", some "focus"), "focus", "Layers.focus", defArgs (inClass (top 70) 5), defBody (inClass (top 70) 5), defScope (inClass (top 70) 5), [], []⟩,
  ⟨("Layers", some "rove"), "rove", "Layers.rove", defArgs (inClass (top 70) 6), defBody (inClass (top 70) 6), defScope (inClass (top 70) 6), [], []⟩,
  ⟨("Node", some "__init__"), "__init__", "Node.__init__", defArgs (inClass (top 79) 0), defBody (inClass (top 79) 0), defScope (inClass (top 79) 0), [], []⟩,
  ⟨("Tree", some "__init__"), "__init__", "Tree.__init__", defArgs (inClass (top 80) 0), defBody (inClass (top 80) 0), defScope (inClass (top 80) 0), [], []⟩,
  ⟨("Tree", some "has"), "has", "Tree.has", defArgs (inClass (top 80) 2), defBody (inClass (top 80) 2), defScope (inClass (top 80) 2), [], []⟩,
  ⟨("Tree", some "kind"), "kind", "Tree.kind", defArgs (inClass (top 80) 3), defBody (inClass (top 80) 3), defScope (inClass (top 80) 3), [], []⟩,
  ⟨("Tree", some "label"), "label", "Tree.label", defArgs (inClass (top 80) 4), defBody (inClass (top 80) 4), defScope (inClass (top 80) 4), [], []⟩,
  ⟨("Tree", some "is_visible"), "is_visible", "Tree.is_visible", defArgs (inClass (top 80) 5), defBody (inClass (top 80) 5), defScope (inClass (top 80) 5), [], []⟩,
  ⟨("Tree", some "is_enabled"), "is_enabled", "Tree.is_enabled", defArgs (inClass (top 80) 6), defBody (inClass (top 80) 6), defScope (inClass (top 80) 6), [], []⟩,
  ⟨("Tree", some "children"), "children", "Tree.children", defArgs (inClass (top 80) 8), defBody (inClass (top 80) 8), defScope (inClass (top 80) 8), [], []⟩,
  ⟨("Tree", some "ancestors"), "ancestors", "Tree.ancestors", defArgs (inClass (top 80) 9), defBody (inClass (top 80) 9), defScope (inClass (top 80) 9), [], []⟩,
  ⟨("Tree", some "depth"), "depth", "Tree.depth", defArgs (inClass (top 80) 10), defBody (inClass (top 80) 10), defScope (inClass (top 80) 10), [], []⟩,
  ⟨("Tree", some "subtree"), "subtree", "Tree.subtree", defArgs (inClass (top 80) 11), defBody (inClass (top 80) 11), defScope (inClass (top 80) 11), [], []⟩]
def fn2 : List He.DefD := [⟨("Tree", some "names"), "names", "Tree.names", defArgs (inClass (top 80) 12), defBody (inClass (top 80) 12), defScope (inClass (top 80) 12), [], []⟩,
  ⟨("Tree", some "need"), "need", "Tree.need", defArgs (inClass (top 80) 15), defBody (inClass (top 80) 15), defScope (inClass (top 80) 15), [], []⟩,
  ⟨("Tree", some "need_inner"), "need_inner", "Tree.need_inner", defArgs (inClass (top 80) 16), defBody (inClass (top 80) 16), defScope (inClass (top 80) 16), [], []⟩,
  ⟨("Tree", some "need_place"), "need_place", "Tree.need_place", defArgs (inClass (top 80) 17), defBody (inClass (top 80) 17), defScope (inClass (top 80) 17), [], []⟩,
  ⟨("Tree", some "insert"), "insert", "Tree.insert", defArgs (inClass (top 80) 18), defBody (inClass (top 80) 18), defScope (inClass (top 80) 18), [], []⟩,
  ⟨("Tree", some "set_flag"), "set_flag", "Tree.set_flag", defArgs (inClass (top 80) 23), defBody (inClass (top 80) 23), defScope (inClass (top 80) 23), [], []⟩,
  ⟨("new_tree", none), "new_tree", "new_tree", defArgs (top 81), defBody (top 81), defScope (top 81), [], []⟩,
  ⟨("cut_off", none), "cut_off", "cut_off", defArgs (top 87), defBody (top 87), defScope (top 87), [], []⟩,
  ⟨("info_of", none), "info_of", "info_of", defArgs (top 88), defBody (top 88), defScope (top 88), [], []⟩,
  ⟨("Reader", some "__init__"), "__init__", "Reader.__init__", defArgs (inClass (top 89) 0), defBody (inClass (top 89) 0), defScope (inClass (top 89) 0), [], []⟩,
  ⟨("Reader", some "read_root"), "read_root", "Reader.read_root", defArgs (inClass (top 89) 1), defBody (inClass (top 89) 1), defScope (inClass (top 89) 1), [], []⟩,
  ⟨("Reader", some "can_be"), "can_be", "Reader.can_be", defArgs (inClass (top 89) 2), defBody (inClass (top 89) 2), defScope (inClass (top 89) 2), [], []⟩,
  ⟨("Reader", some "read"), "read", "Reader.read", defArgs (inClass (top 89) 3), defBody (inClass (top 89) 3), defScope (inClass (top 89) 3), [], []⟩,
  ⟨("parse_outline", none), "parse_outline", "parse_outline", defArgs (top 90), defBody (top 90), defScope (top 90), [], []⟩,
  ⟨("Manager", some "__init__"), "__init__", "Manager.__init__", defArgs (inClass (top 92) 0), defBody (inClass (top 92) 0), defScope (inClass (top 92) 0), [], []⟩,
  ⟨("Manager", some "told"), "told", "Manager.told", defArgs (inClass (top 92) 1), defBody (inClass (top 92) 1), defScope (inClass (top 92) 1), [], []⟩,
  ⟨("Manager", some "settled"), "settled", "Manager.settled", defArgs (inClass (top 92) 2), defBody (inClass (top 92) 2), defScope (inClass (top 92) 2), [], []⟩,
  ⟨("Manager", some "need"), "need", "Manager.need", defArgs (inClass (top 92) 3), defBody (inClass (top 92) 3), defScope (inClass (top 92) 3), [], []⟩,
  ⟨("Manager", some "need_kind"), "need_kind", "Manager.need_kind", defArgs (inClass (top 92) 4), defBody (inClass (top 92) 4), defScope (inClass (top 92) 4), [], []⟩,
  ⟨("Manager", some "current_item"), "current_item", "Manager.current_item", defArgs (inClass (top 92) 22), defBody (inClass (top 92) 22), defScope (inClass (top 92) 22), [], []⟩]
def fn3 : List He.DefD := [⟨("Manager", some "layer_item"), "layer_item", "Manager.layer_item", defArgs (inClass (top 92) 23), defBody (inClass (top 92) 23), defScope (inClass (top 92) 23), [], []⟩,
  ⟨("Manager", some "focused"), "focused", "Manager.focused", defArgs (inClass (top 92) 24), defBody (inClass (top 92) 24), defScope (inClass (top 92) 24), [], []⟩,
  ⟨("Manager", some "focus_path"), "focus_path", "Manager.focus_path", defArgs (inClass (top 92) 25), defBody (inClass (top 92) 25), defScope (inClass (top 92) 25), [], []⟩,
  ⟨("Manager", some "open_layers"), "open_layers", "Manager.open_layers", defArgs (inClass (top 92) 26), defBody (inClass (top 92) 26), defScope (inClass (top 92) 26), [], []⟩,
  ⟨("Manager", some "has_composite"), "has_composite", "Manager.has_composite", defArgs (inClass (top 92) 30), defBody (inClass (top 92) 30), defScope (inClass (top 92) 30), [], []⟩,
  ⟨("Manager", some "go"), "go", "Manager.go", defArgs (inClass (top 92) 31), defBody (inClass (top 92) 31), defScope (inClass (top 92) 31), [], []⟩,
  ⟨("Manager", some "within"), "within", "Manager.within", defArgs (inClass (top 92) 32), defBody (inClass (top 92) 32), defScope (inClass (top 92) 32), [], []⟩,
  ⟨("Manager", some "next_item"), "next_item", "Manager.next_item", defArgs (inClass (top 92) 33), defBody (inClass (top 92) 33), defScope (inClass (top 92) 33), [], []⟩,
  ⟨("Manager", some "previous_item"), "previous_item", "Manager.previous_item", defArgs (inClass (top 92) 34), defBody (inClass (top 92) 34), defScope (inClass (top 92) 34), [], []⟩,
  ⟨("Manager", some "first_item"), "first_item", "Manager.first_item", defArgs (inClass (top 92) 35), defBody (inClass (top 92) 35), defScope (inClass (top 92) 35), [], []⟩,
  ⟨("Manager", some "last_item"), "last_item", "Manager.last_item", defArgs (inClass (top 92) 36), defBody (inClass (top 92) 36), defScope (inClass (top 92) 36), [], []⟩,
  ⟨("Manager", some "typeahead"), "typeahead", "Manager.typeahead", defArgs (inClass (top 92) 37), defBody (inClass (top 92) 37), defScope (inClass (top 92) 37), [], []⟩,
  ⟨("Manager", some "need_target"), "need_target", "Manager.need_target", defArgs (inClass (top 92) 42), defBody (inClass (top 92) 42), defScope (inClass (top 92) 42), [], []⟩,
  ⟨("Manager", some "focus"), "focus", "Manager.focus", defArgs (inClass (top 92) 43), defBody (inClass (top 92) 43), defScope (inClass (top 92) 43), [], []⟩,
  ⟨("done_as_move", none), "done_as_move", "done_as_move", defArgs (top 99), defBody (top 99), defScope (top 99), [], []⟩,
  ⟨("done", none), "done", "done", defArgs (top 102), defBody (top 102), defScope (top 102), [], []⟩,
  ⟨("_law_cell", none), "_law_cell", "_law_cell", defArgs (top 104), defBody (top 104), defScope (top 104), [], []⟩,
  ⟨("_law_draws", none), "_law_draws", "_law_draws", defArgs (top 105), defBody (top 105), defScope (top 105), [], []⟩,
  ⟨("_law_rows", none), "_law_rows", "_law_rows", defArgs (top 106), defBody (top 106), defScope (top 106), [], []⟩,
  ⟨("_law_outline", none), "_law_outline", "_law_outline", defArgs (top 107), defBody (top 107), defScope (top 107), [], []⟩]
def fn4 : List He.DefD := [⟨("_law_tree", none), "_law_tree", "_law_tree", defArgs (top 108), defBody (top 108), defScope (top 108), [], []⟩,
  ⟨("_law_up", none), "_law_up", "_law_up", defArgs (top 109), defBody (top 109), defScope (top 109), [], []⟩,
  ⟨("_law_layer", none), "_law_layer", "_law_layer", defArgs (top 110), defBody (top 110), defScope (top 110), [], []⟩,
  ⟨("_law_inner", none), "_law_inner", "_law_inner", defArgs (top 111), defBody (top 111), defScope (top 111), [], []⟩,
  ⟨("_law_items", none), "_law_items", "_law_items", defArgs (top 112), defBody (top 112), defScope (top 112), [], []⟩,
  ⟨("_law_composite", none), "_law_composite", "_law_composite", defArgs (top 113), defBody (top 113), defScope (top 113), [], []⟩,
  ⟨("_law_composites", none), "_law_composites", "_law_composites", defArgs (top 114), defBody (top 114), defScope (top 114), [], []⟩,
  ⟨("_law_members", none), "_law_members", "_law_members", defArgs (top 115), defBody (top 115), defScope (top 115), [], []⟩,
  ⟨("_law_begun", none), "_law_begun", "_law_begun", defArgs (top 118), defBody (top 118), defScope (top 118), [], []⟩,
  ⟨("_law_focused", none), "_law_focused", "_law_focused", defArgs (top 119), defBody (top 119), defScope (top 119), [], []⟩,
  ⟨("_law_path", none), "_law_path", "_law_path", defArgs (top 120), defBody (top 120), defScope (top 120), [], []⟩,
  ⟨("_law_focus", none), "_law_focus", "_law_focus", defArgs (top 121), defBody (top 121), defScope (top 121), [], []⟩,
  ⟨("_law_within", none), "_law_within", "_law_within", defArgs (top 125), defBody (top 125), defScope (top 125), [], []⟩,
  ⟨("_law_typed", none), "_law_typed", "_law_typed", defArgs (top 126), defBody (top 126), defScope (top 126), [], []⟩,
  ⟨("_law_why_not", none), "_law_why_not", "_law_why_not", defArgs (top 128), defBody (top 128), defScope (top 128), [], []⟩,
  ⟨("_law_modelled", none), "_law_modelled", "_law_modelled", defArgs (top 129), defBody (top 129), defScope (top 129), [], []⟩,
  ⟨("_law_did", none), "_law_did", "_law_did", defArgs (top 130), defBody (top 130), defScope (top 130), [], []⟩,
  ⟨("_law_is_it", none), "_law_is_it", "_law_is_it", defArgs (top 131), defBody (top 131), defScope (top 131), [], []⟩,
  ⟨("law", none), "law", "law", defArgs (top 132), defBody (top 132), defScope (top 132), [], []⟩]
def fn : List He.DefD := fn0 ++ fn1 ++ fn2 ++ fn3 ++ fn4
def nm0 : List PySem.Str := ["_wall", "FocusError", "Refused", "BadOutline", "BadKeys", "MESSAGES_MOST", "shared", "Turn", "merged", "Announcements", "MODIFIERS", "EDIT_KEYS", "MOVE_KEYS", "NUMBERED_KEYS", "KEY_NAMES", "STROKES_MOST", "among", "key_of", "canonical", "keystroke", "key_sequence", "is_prefix", "shown", "BINDINGS_MOST", "Bindings", "NAME_SIGNS", "NAME_MOST", "LABEL_MOST", "is_name", "is_label"]
def nm1 : List PySem.Str := ["quoted", "unquoted", "MOVEMENTS", "WORDS", "NAMED", "command_of", "layer_of", "between", "is_usable", "is_focusable", "focusable_items", "COMPOSITES", "composite_of", "is_outer", "outer_composites", "members", "stop_of", "tab_stops", "place_of", "wrapped", "moved", "begins_with", "found_by", "nearest", "replacement", "kept_or_replaced", "LAYERS_MOST", "ROOT_layers", "first_of", "Layers"]
def nm2 : List PySem.Str := ["DEFAULTS", "match_on", "ROOT_tree", "NODES_MOST", "DEPTH_MOST", "KINDS", "Node", "Tree", "new_tree", "HIDDEN", "DISABLED", "line_of", "write_outline", "cut_off", "info_of", "Reader", "parse_outline", "Manager", "TREE_DEEDS", "MOVES", "LAYER_DEEDS", "KEY_DEEDS", "done_to_tree", "done_as_move", "done_to_layers", "done_with_keys", "done", "_law_cell", "_law_draws", "_law_rows"]
def nm3 : List PySem.Str := ["_law_outline", "_law_tree", "_law_up", "_law_layer", "_law_inner", "_law_items", "_law_composite", "_law_composites", "_law_members", "_law_stop", "_law_stops", "_law_begun", "_law_focused", "_law_path", "_law_focus", "_law_entry", "_law_cut", "_law_step", "_law_within", "_law_typed", "_law_opened", "_law_why_not", "_law_modelled", "_law_did", "_law_is_it"]
def nms : List PySem.Str := nm0 ++ nm1 ++ nm2 ++ nm3
def tv_COMPOSITES : List He.Dv := [.str "linear", .str "circular"]
def tv_KINDS : List He.Dv := [.str "item", .str "container", .str "linear", .str "circular", .str "layer"]
def tv_TREE_DEEDS : List He.Dv := [.str "insert", .str "remove", .str "move", .str "set_label", .str "show", .str "hide", .str "enable", .str "disable"]
def tv_MOVES : List He.Dv := [.str "focus_next", .str "focus_previous", .str "next_item", .str "previous_item", .str "first_item", .str "last_item", .str "typeahead"]
/-- isinstance of the class x -/
def insB (K : PySem.W.Frag) (x : Str) : Bool := He.eqO (PySem.W.findIn K (.ref (He.ga K x)) "__class__") (some (some (.builtin "object.__class__"))) && (He.eqO (PySem.W.specialIn K (.builtin "object.__class__") "__get__") (some (some (.builtin "getset_descriptor.__get__"))) &&
  (decide (PySem.W.takesIn K (.builtin "object.__class__") = some true) && (decide (PySem.W.mroIn K (He.ga K x) (.type "object") = some true) && decide (PySem.W.kitOne K (.ref (He.ga K x)) (.ref (He.ga K x)) = some true))))
def exB (K : PySem.W.Frag) : Bool := insB K "Turn" && He.tupB K "COMPOSITES" tv_COMPOSITES && He.tupB K "KINDS" tv_KINDS && He.tupB K "TREE_DEEDS" tv_TREE_DEEDS && He.tupB K "MOVES" tv_MOVES
def tf : List He.Defn := [("is_name", none), ("is_label", none), ("is_focusable", none)]
abbrev R : PySem.W.OpenRow := PySem.W.OpenLaw.row rw0
/-! ### which objects are told: by their places among the module's names (from the end), the classes' own defs by their places in the class -/
def refsOf (o : Option Obj) : List Addr := match o with
  | some ob => (match ob.data with
    | .dict es _ => es.toList.flatMap fun e => He.refV e.val
    | _ => [])
  | none => []
def endOf (o : Option Obj) : List (List Addr) := match o with
  | some ob => (match ob.data with
    | .dict es _ => es.toList.reverse.map fun e => He.refV e.val
    | _ => [])
  | none => []
def nsOf (g : Addr → Option Obj) (a : Addr) : List Addr := match g a with
  | some ⟨_, _, .cls cd, _⟩ => [cd.ns]
  | _ => []
def fuV (g : Addr → Option Obj) (a : Addr) : List Addr := match g a with
  | some ⟨_, _, .func _, _⟩ => [a]
  | _ => []
def coV (g : Addr → Option Obj) (a : Addr) : List Addr := match g a with
  | some ⟨_, _, .func fd, _⟩ => a :: He.refV fd.code
  | _ => []
def atAll (is : List Nat) (l : List (List Addr)) : List Addr := is.flatMap fun i => l.getD i []
def atEach (is : List Nat) (l : List Addr) : List Addr := is.flatMap fun i => (l[i]?).toList
def iFun : List Nat := [107, 87, 86, 84, 79, 78, 77, 76, 75, 73, 72, 71, 70, 67, 66, 65, 64, 63, 57, 47, 42, 41, 39, 32, 29, 28, 27, 26, 25, 24, 23, 22, 21, 20, 19, 18, 17, 14, 13, 12, 11, 7, 6, 4, 3, 2, 1, 0]
def iCls : List Nat := [108, 106, 91, 56, 49, 48, 40, 38]
def iTup : List Nat := [50, 74, 37, 36]
def iMeth : List (List Nat) := [[0], [0, 1], [0], [0, 1, 2, 3, 5, 6], [0], [0, 2, 3, 4, 5, 6, 8, 9, 10, 11, 12, 15, 16, 17, 18, 23], [0, 1, 2, 3], [0, 1, 2, 3, 4, 22, 23, 24, 25, 26, 30, 31, 32, 33, 34, 35, 36, 37, 42, 43]]
def pick3 (g : Addr → Option Obj) (cs ns ts fs ms : List Addr) : List Addr := mainGlobals :: (cs ++ (ns ++ (ts ++ (fs.flatMap (coV g) ++ ms.flatMap (coV g)))))
def pick2 (g : Addr → Option Obj) (cs ns ts fs : List Addr) : List Addr :=
  pick3 g cs ns ts fs ((ns.zip iMeth).flatMap fun q => atEach q.2 ((refsOf (g q.1)).flatMap (fuV g)))
def pick1 (g : Addr → Option Obj) (cs ts fs : List Addr) : List Addr := pick2 g cs (cs.flatMap (nsOf g)) ts fs
def pick0 (g : Addr → Option Obj) (l : List (List Addr)) : List Addr := pick1 g (atAll iCls l) (atAll iTup l) (atAll iFun l)
def pickG (g : Addr → Option Obj) : List Addr := pick0 g (endOf (g mainGlobals))
/-! ### the Hook over them -/
def obK (g : Addr → Option Obj) (K : PySem.W.Frag) : He.AlX := (He.obsT fa fn [] K, exB K && He.tabsB g tf K)
def obN (g : Addr → Option Obj) : He.AlX := obK g (He.frT g (pickG g))
theorem saysN {w : World} {h : Heap} (e : obN h.get? = He.valX fn [] w) : He.SaysX fa fn [] tf exB w h (He.frT h.get? (pickG h.get?)) := by
  have eT := congrArg Prod.fst e
  have eB := congrArg Prod.snd e
  have bb := He.ba eB
  have look : ∀ p ∈ tf, PySem.W.codeHdIn (He.frT h.get? (pickG h.get?)) (He.cT (He.frT h.get? (pickG h.get?)) p).1 (He.cT (He.frT h.get? (pickG h.get?)) p).2 = true ∧
      ∃ o, h.get? (He.cT (He.frT h.get? (pickG h.get?)) p).2 = some o ∧ He.emptyTab o = true := by
    intro p hp
    have z := He.ba (List.all_eq_true.mp bb.2 p hp)
    refine ⟨z.1, ?_⟩
    have z2 := z.2
    cases q : h.get? (He.cT (He.frT h.get? (pickG h.get?)) p).2 with
    | some o =>
      rw [q] at z2
      exact ⟨o, rfl, z2⟩
    | none =>
      rw [q] at z2
      exact absurd z2 (by decide)
  refine ⟨eT, bb.1, fun p hp => (look p hp).1, ?_, ?_⟩
  · intro p hp
    obtain ⟨o, q, z⟩ := (look p hp).2
    exact He.frT_none q z
  · intro p hp
    obtain ⟨o, q, z⟩ := (look p hp).2
    rw [q]
    exact congrArg some (He.emptyTab_eq z)
def hkN : PySem.W.Hook where
  α := He.AlX
  obs s := obN s.heap.get?
  val w := He.valX fn [] w
  says w h := ∃ K : PySem.W.Frag, K.In h ∧ He.SaysX fa fn [] tf exB w h K
  of _ _ e := ⟨_, He.frT_in, saysN e⟩
  keeps _ _ _ x k := by
    obtain ⟨K, inK, c⟩ := x
    refine ⟨K, PySem.W.Frag.In.keeps inK k, ?_⟩
    exact { t := c.t, more := c.more, hd := c.hd, out := c.out, empty := fun p hp => k _ _ (c.empty p hp) }
def ob (s : PySem.W.SharedT) : He.AlX := obN (HandSHeadRun.getT s)
theorem ob_eq (s : PySem.W.SharedT) : ob s = hkN.obs s.abs := by
  have e : HandSHeadRun.getT s = s.abs.heap.get? := funext (HandSHeadRun.getT_eq s)
  show obN (HandSHeadRun.getT s) = obN s.abs.heap.get?
  rw [e]
open HandSHeadRun PySem.Calls PySem.W in
abbrev LookEq (w : World) : Prop := ∀ os : OsState, (endF (stepQ (denQ tabQ) R.prog w) 20000 R.prog w os).map (fun s => (looksF R.prog (boot_heap w.params) s.abs, seenQ (view R.prog [132]) nms (importedModules R.prog.main.body) (fun s => xlAt (view R.prog [132]) [] s && recOk R.toRowW.records s) s.abs)) = some (true, openGood (view R.prog [132]) nms)
def kOf (g : Addr → Option Obj) : PySem.W.Frag := He.frT g (pickG g)
/-- the facts of names, classes, methods, tuples, tables -/
def obA (g : Addr → Option Obj) : Bool := (fun K => (fa.all fun f => f.ok K) && (exB K && He.tabsB g tf K)) (kOf g)
/-- the facts of defs -/
def obD (g : Addr → Option Obj) : Bool × List He.FnW := (fun K => (fn.all fun d => d.ok K, fn.map fun d => He.fnW K d.at_)) (kOf g)
theorem ob_of {g : Addr → Option Obj} {w : World} (b1 : obA g = true) (b2 : obD g = (true, fn.map He.DefD.val)) : obN g = He.valX fn [] w := by
  have h1 := He.ba (show ((fa.all fun f => f.ok (kOf g)) && (exB (kOf g) && He.tabsB g tf (kOf g))) = true from b1)
  have e1 : (fn.all fun d => d.ok (kOf g)) = true := congrArg Prod.fst b2
  have e2 : (fn.map fun d => He.fnW (kOf g) d.at_) = fn.map He.DefD.val := congrArg Prod.snd b2
  have e3 : He.obsT fa fn [] (kOf g) = ((true, fn.map He.DefD.val), []) := by
    show ((((fa.all fun f => f.ok (kOf g)) && fn.all fun d => d.ok (kOf g)), fn.map fun d => He.fnW (kOf g) d.at_), []) = ((true, fn.map He.DefD.val), [])
    rw [h1.1, e1, e2]
    rfl
  show (He.obsT fa fn [] (kOf g), exB (kOf g) && He.tabsB g tf (kOf g)) = (((true, fn.map He.DefD.val), []), true)
  rw [e3, h1.2]
open HandSHeadRun PySem.Calls PySem.W in
abbrev FactA (w : World) : Prop := ∀ os : OsState, (endF (stepQ (denQ tabQ) R.prog w) 20000 R.prog w os).map (fun s => obA (getT s)) = some true
open HandSHeadRun PySem.Calls PySem.W in
abbrev FactD (w : World) : Prop := ∀ os : OsState, (endF (stepQ (denQ tabQ) R.prog w) 20000 R.prog w os).map (fun s => obD (getT s)) = some (true, fn.map He.DefD.val)
theorem look0 (w : World) : LookEq (w.withFollow "special-get-raises" false) := by
  intro os
  kernel_rfl
theorem look1 (w : World) : LookEq (w.withFollow "special-get-raises" true) := by
  intro os
  kernel_rfl
theorem fact0 (w : World) : FactA (w.withFollow "special-get-raises" false) := by
  intro os
  kernel_rfl
theorem fact1 (w : World) : FactA (w.withFollow "special-get-raises" true) := by
  intro os
  kernel_rfl
theorem defs0 (w : World) : FactD (w.withFollow "special-get-raises" false) := by
  intro os
  kernel_rfl
theorem defs1 (w : World) : FactD (w.withFollow "special-get-raises" true) := by
  intro os
  kernel_rfl
theorem looks (w : World) : LookEq w := PySem.W.byRow2 "special-get-raises" (P := LookEq) look0 look1 w
theorem factsAt (w : World) : FactA w := PySem.W.byRow2 "special-get-raises" (P := FactA) fact0 fact1 w
theorem defsAt (w : World) : FactD w := PySem.W.byRow2 "special-get-raises" (P := FactD) defs0 defs1 w
theorem run (w : World) : HandSHeadRun.RunEq R (PySem.W.view R.prog [132]) hkN ob 20000 nms w := by
  intro os
  have a := looks w os
  have b := factsAt w os
  have d := defsAt w os
  revert a b d
  cases HandSHeadRun.endF (HandSHeadRun.stepQ (HandSHeadRun.denQ HandSHeadRun.tabQ) R.prog w) 20000 R.prog w os with
  | none =>
    intro a b d
    cases a
  | some s =>
    intro a b d
    have a2 := Option.some.inj a
    have b2 : ob s = He.valX fn [] w := ob_of (Option.some.inj b) (Option.some.inj d)
    have a3 := congrArg Prod.fst a2
    have a4 := congrArg Prod.snd a2
    exact congrArg some (Prod.ext a3 (Prod.ext a4 b2))
end K24
set_option Elab.async false
set_option linter.all false
set_option maxRecDepth 100000
set_option maxHeartbeats 4000000
/-! What an expression evaluates to, told by a spec of its value, over a base heap that may have been extended since (tables of code objects may have grown). -/
namespace Z
open PySem PySem.Spec PyProof.Rows L2

def notT : HO → Bool
  | .tbl _ => false
  | _ => true
def Grown (o : HO) (r : Option HO) : Prop := ∃ ps qs : Array Value, o = .tbl ps ∧ TriplesOk ps.toList ∧ r = some (.tbl qs) ∧ TriplesOk qs.toList
/-- H' has all of H; a table may be longer -/
def Ex (H H' : Hp) : Prop := ∀ a o, H a = some o → H' a = some o ∨ Grown o (H' a)
theorem Ex.refl (H : Hp) : Ex H H := fun _ _ h => Or.inl h
theorem Ex.trans {H H1 H2 : Hp} (e : Ex H H1) (d : Ex H1 H2) : Ex H H2 := fun a o h => by
  rcases e a o h with h1 | ⟨ps, qs, eo, t1, h1, t2⟩
  · exact d a o h1
  · rcases d a _ h1 with h2 | ⟨ps', qs', eo', t1', h2, t2'⟩
    · exact Or.inr ⟨ps, qs, eo, t1, h2, t2⟩
    · exact Or.inr ⟨ps, qs', eo, t1, h2, t2'⟩
theorem Ex.get {H H' : Hp} {a : Addr} {o : HO} (e : Ex H H') (h : H a = some o) (n : notT o = true := by rfl) : H' a = some o := by
  rcases e a o h with h1 | ⟨ps, qs, eo, _⟩
  · exact h1
  · rw [eo] at n
    cases n
theorem Ex.free {H H' : Hp} {p : Addr} (e : Ex H H') (h : H' p = none) : H p = none := by
  cases q : H p with
  | none => rfl
  | some o =>
    rcases e p o q with h1 | ⟨_, _, _, _, h1, _⟩
    · rw [h] at h1
      cases h1
    · rw [h] at h1
      cases h1
theorem Ex.new {H : Hp} {p : Addr} {o : HO} (h : H p = none) : Ex H (upd H p o) := fun a u q => Or.inl (by rw [upd_ne (ne_of_none q h)]; exact q)
/-- a thing that H does not know may change -/
theorem Ex.mut {H H' : Hp} {p : Addr} {o : HO} (e : Ex H H') (h : H p = none) : Ex H (upd H' p o) := fun a u q => by
  rw [upd_ne (ne_of_none q h)]
  exact e a u q
/-- what the base is told of more -/
theorem Ex.put {B H : Hp} {p : Addr} {o : HO} (e : Ex B H) (h : H p = some o) : Ex (upd B p o) H := fun a u q => by
  by_cases z : a = p
  · rw [z, upd_same] at q
    rw [z, ← q]
    exact Or.inl h
  · rw [upd_ne z] at q
    exact e a u q
/-- the same thing changed on both -/
theorem Ex.both {B H : Hp} {p : Addr} {o : HO} (e : Ex B H) : Ex (upd B p o) (upd H p o) := fun a u q => by
  by_cases z : a = p
  · rw [z, upd_same] at q
    rw [z, upd_same]
    exact Or.inl q
  · rw [upd_ne z] at q
    rw [upd_ne z]
    exact e a u q
theorem Ex.seqL {K : PySem.W.Frag} {H H' : Hp} {a : Addr} {xs : List V} (e : Ex H H') (h : SqL K H a xs) : SqL K H' a xs := by
  rcases h with (h | ⟨o, h⟩) | h
  · exact Or.inl (Or.inl (e.get h))
  · exact Or.inl (Or.inr ⟨o, e.get h⟩)
  · exact Or.inr h
theorem Ex.seqT {K : PySem.W.Frag} {H H' : Hp} {a : Addr} {xs : List V} (e : Ex H H') (h : SqT K H a xs) : SqT K H' a xs := by
  rcases h with (h | ⟨o, h⟩) | h
  · exact Or.inl (Or.inl (e.get h))
  · exact Or.inl (Or.inr ⟨o, e.get h⟩)
  · exact Or.inr h

/-! ### specs of values -/
structure VS where
  P : Hp → V → Prop
  mono : ∀ {H H' : Hp} {v : V}, Ex H H' → P H v → P H' v
def isV (v : V) : VS := ⟨fun _ x => x = v, fun _ h => h⟩
/-- a reference to the object o -/
def atO (o : HO) (n : notT o = true := by rfl) : VS := ⟨fun H x => ∃ p, x = .ref p ∧ H p = some o, fun e ⟨p, a, b⟩ => ⟨p, a, e.get b n⟩⟩
/-- .. that is new since B -/
def newO (B : Hp) (o : HO) (n : notT o = true := by rfl) : VS := ⟨fun H x => ∃ p, x = .ref p ∧ B p = none ∧ H p = some o, fun e ⟨p, a, f, b⟩ => ⟨p, a, f, e.get b n⟩⟩
/-- a list, a tuple that can be read -/
def seqL (K : PySem.W.Frag) (xs : List V) : VS := ⟨fun H x => ∃ p, x = .ref p ∧ SqL K H p xs, fun e ⟨p, a, b⟩ => ⟨p, a, e.seqL b⟩⟩
def seqT (K : PySem.W.Frag) (xs : List V) : VS := ⟨fun H x => ∃ p, x = .ref p ∧ SqT K H p xs, fun e ⟨p, a, b⟩ => ⟨p, a, e.seqT b⟩⟩
def anyV : VS := ⟨fun _ _ => True, fun _ h => h⟩
def AllS : List VS → Hp → List V → Prop
  | [], _, vs => vs = []
  | S :: Ss, H, vs => ∃ v r, vs = v :: r ∧ S.P H v ∧ AllS Ss H r
theorem AllS.mono : ∀ {Ss : List VS} {H H' : Hp} {vs : List V}, Ex H H' → AllS Ss H vs → AllS Ss H' vs
  | [], _, _, _, _, h => h
  | S :: Ss, _, _, _, e, ⟨v, r, a, b, c⟩ => ⟨v, r, a, S.mono e b, AllS.mono e c⟩
theorem AllS.vals : ∀ {ws vs : List V} {H : Hp}, AllS (ws.map isV) H vs → vs = ws
  | [], _, _, h => h
  | w :: ws, _, _, ⟨v, r, a, b, c⟩ => by
    have b2 : v = w := b
    rw [a, b2, AllS.vals c]
/-- what is wanted of a value as S says -/
def Ret (S : VS) (H : Hp) (Q : VK) : Prop := ∀ v H2, Ex H H2 → S.P H2 v → Q v H2
theorem Ret.step {S : VS} {H H1 : Hp} {Q : VK} (r : Ret S H Q) (e : Ex H H1) : Ret S H1 Q := fun v H2 d p => r v H2 (e.trans d) p
theorem Ret.imp {S S' : VS} {H : Hp} {Q : VK} (r : Ret S H Q) (h : ∀ v H2, Ex H H2 → S'.P H2 v → S.P H2 v) : Ret S' H Q := fun v H2 d p => r v H2 d (h v H2 d p)

/-! ### the readings of the machine itself -/
def sE (X : Cx) (e : Expr) : TE := fun σ H Q => ∀ pins s, Inv X pins σ H s → wpAny (model X.prog X.w) X.A (eval e X.env) (EP X pins σ Q) X.xe s
def sT (X : Cx) (e : Expr) : TT := fun σ H Q => ∀ pins s, Inv X pins σ H s → wpAny (model X.prog X.w) X.A (isTrue e X.env (eval e X.env)) (TP X pins σ Q) X.xe s
def sW (X : Cx) (e : Expr) : TT := fun σ H Q => ∀ whole pins s, Inv X pins σ H s → wpAny (model X.prog X.w) X.A (isTrue e X.env whole) (TP X pins σ Q) X.xe s
def sA (X : Cx) (es : List Expr) : TA := fun σ H Q => ∀ pos pins s, Inv X pins σ H s → wpAny (model X.prog X.w) X.A (spliced (backTo pos (starEach es X.env))) (AP X pins σ Q) X.xe s
def sS (X : Cx) (sts : List Stmt) : TS := fun D σ H => ∀ pins s, Inv X pins σ H s → wpAny (model X.prog X.w) X.A (execs sts X.env) (SP X pins D) X.xe s
section
variable {X : Cx}
theorem pe_s (e : Expr) : PE X e (sE X e) := ⟨fun pins s _ _ _ I h => h pins s I⟩
theorem pt_s (e : Expr) : PT X e (sT X e) := ⟨fun pins s _ _ _ I h => h pins s I⟩
theorem pw_s (e : Expr) : PW X e (sW X e) := ⟨fun wh pins s _ _ _ I h => h wh pins s I⟩
theorem pa_s (es : List Expr) : PA X es (sA X es) := ⟨fun pos pins s _ _ _ I h => h pos pins s I⟩
theorem ps_s (sts : List Stmt) : PSs X sts (sS X sts) := ⟨fun pins s _ _ _ I h => h pins s I⟩
end

def Ev (X : Cx) (e : Expr) (σ : L2.St) (B : Hp) (S : VS) : Prop := ∀ H, Ex B H → ∀ Q : VK, Ret S H Q → sE X e σ H Q
def EvT (X : Cx) (e : Expr) (σ : L2.St) (B : Hp) (b : Bool) : Prop := ∀ H, Ex B H → ∀ Q : Bool → Hp → Prop, (∀ H2, Ex H H2 → Q b H2) → sT X e σ H Q
def EvW (X : Cx) (e : Expr) (σ : L2.St) (B : Hp) (b : Bool) : Prop := ∀ H, Ex B H → ∀ Q : Bool → Hp → Prop, (∀ H2, Ex H H2 → Q b H2) → sW X e σ H Q
def EvA (X : Cx) (es : List Expr) (σ : L2.St) (B : Hp) (Ss : List VS) : Prop := ∀ H, Ex B H → ∀ Q : List V → Hp → Prop, (∀ vs H2, Ex H H2 → AllS Ss H2 vs → Q vs H2) → sA X es σ H Q
/-- a block, from any heap that extends B -/
def SX (X : Cx) (sts : List Stmt) (D : Ends) (σ : L2.St) (B : Hp) : Prop := ∀ H, Ex B H → sS X sts D σ H

section
variable {X : Cx} {σ : L2.St} {B B' : Hp} {S S' Sa Sb Sc : VS} {a b c e : Expr} {es : List Expr} {Ss : List VS} {pos : Pos}
theorem ev_of {t : TE} (h : PE X e t) (k : ∀ H, Ex B H → ∀ Q : VK, Ret S H Q → t σ H Q) : Ev X e σ B S := fun H x Q q pins s I => h.run pins s σ H Q I (k H x Q q)
theorem et_of {t : TT} {v : Bool} (h : PT X e t) (k : ∀ H, Ex B H → ∀ Q : Bool → Hp → Prop, (∀ H2, Ex H H2 → Q v H2) → t σ H Q) : EvT X e σ B v := fun H x Q q pins s I => h.run pins s σ H Q I (k H x Q q)
theorem ew_of {t : TT} {v : Bool} (h : PW X e t) (k : ∀ H, Ex B H → ∀ Q : Bool → Hp → Prop, (∀ H2, Ex H H2 → Q v H2) → t σ H Q) : EvW X e σ B v := fun H x Q q wh pins s I => h.run wh pins s σ H Q I (k H x Q q)
theorem ea_of {t : TA} (h : PA X es t) (k : ∀ H, Ex B H → ∀ Q : List V → Hp → Prop, (∀ vs H2, Ex H H2 → AllS Ss H2 vs → Q vs H2) → t σ H Q) : EvA X es σ B Ss := fun H x Q q pos pins s I => h.run pos pins s σ H Q I (k H x Q q)
theorem Ev.up (h : Ev X e σ B S) (d : Ex B B') : Ev X e σ B' S := fun H x => h H (d.trans x)
theorem EvT.up {v : Bool} (h : EvT X e σ B v) (d : Ex B B') : EvT X e σ B' v := fun H x => h H (d.trans x)
theorem EvA.up (h : EvA X es σ B Ss) (d : Ex B B') : EvA X es σ B' Ss := fun H x => h H (d.trans x)
theorem SX.up {sts : List Stmt} {D : Ends} (h : SX X sts D σ B) (d : Ex B B') : SX X sts D σ B' := fun H x => h H (d.trans x)
theorem Ev.to (h : Ev X e σ B S) (k : ∀ v H, Ex B H → S.P H v → S'.P H v) : Ev X e σ B S' := fun H x Q q => h H x Q fun v H2 d p => q v H2 d (k v H2 (x.trans d) p)
theorem EvT.to {v w : Bool} (h : EvT X e σ B v) (k : v = w) : EvT X e σ B w := k ▸ h
/-- a reference that is known -/
theorem Ev.at {p : Addr} {o : HO} (h : Ev X e σ B (isV (.ref p))) (n : notT o = true) (q : B p = some o) : Ev X e σ B (atO o n) := h.to fun v H d z => ⟨p, z, d.get q n⟩
theorem Ev.qL {p : Addr} {xs : List V} (h : Ev X e σ B (isV (.ref p))) (q : SqL X.K B p xs) : Ev X e σ B (seqL X.K xs) := h.to fun v H d z => ⟨p, z, d.seqL q⟩
theorem Ev.qT {p : Addr} {xs : List V} (h : Ev X e σ B (isV (.ref p))) (q : SqT X.K B p xs) : Ev X e σ B (seqT X.K xs) := h.to fun v H d z => ⟨p, z, d.seqT q⟩
theorem Ev.nL {xs : List V} (h : Ev X e σ B (newO B (.lst xs))) : Ev X e σ B (seqL X.K xs) := h.to fun v H d ⟨p, z, _, y⟩ => ⟨p, z, SqL.of y⟩
theorem Ev.nA {o : HO} {n : notT o = true} (h : Ev X e σ B (newO B o n)) : Ev X e σ B (atO o n) := h.to fun v H d ⟨p, z, _, y⟩ => ⟨p, z, y⟩
theorem Ev.aL {xs : List V} (h : Ev X e σ B (atO (.lst xs))) : Ev X e σ B (seqL X.K xs) := h.to fun v H d ⟨p, z, y⟩ => ⟨p, z, SqL.of y⟩
theorem Ev.nT {xs : List V} (h : Ev X e σ B (newO B (.tup xs))) : Ev X e σ B (seqT X.K xs) := h.to fun v H d ⟨p, z, _, y⟩ => ⟨p, z, SqT.of y⟩

/-! ### names, constants -/
theorem ev_var (i : Nat) {x : Str} {v : V} (h : σ[i]? = some (some v)) (hN : X.N[i]? = some x := by rfl) (hv : Vis X.env.scope x := by first | exact Or.inl rfl | exact Or.inr (Or.inl rfl) | exact Or.inr (Or.inr rfl)) (hd : (x == ("__debug__" : Str)) = false := by decide)
    (hcd : (x == ("__classdict__" : Str)) = false := by decide) : Ev X (.Name x pos) σ B (isV v) :=
  ev_of (pe_var hN hv hd hcd) fun H _ Q q => ⟨v, h, q v H (Ex.refl H) rfl⟩
theorem ev_int {i : Int} {j : Nat} : Ev X (.Constant (.int i) j pos) σ B (isV (.int i)) := ev_of pe_int fun H _ Q q => q _ H (Ex.refl H) rfl
theorem ev_str {x : Str} {j : Nat} : Ev X (.Constant (.str x) j pos) σ B (isV (.str x)) := ev_of pe_str fun H _ Q q => q _ H (Ex.refl H) rfl
theorem ev_bool {k : Bool} {j : Nat} : Ev X (.Constant (.bool k) j pos) σ B (isV (.bl k)) := ev_of pe_bl fun H _ Q q => q _ H (Ex.refl H) rfl
theorem ev_none {j : Nat} : Ev X (.Constant .none j pos) σ B (isV .non) := ev_of pe_non fun H _ Q q => q _ H (Ex.refl H) rfl
theorem ev_glob {x : Str} {u : Value} {v : V} (hm : X.mg x = some u) (r : RelV v u) (hg : Gl X x := by rfl) (hd : (x == ("__debug__" : Str)) = false := by decide) : Ev X (.Name x pos) σ B (isV v) := ev_of (pe_glob hg hm r hd) fun H _ Q q => q _ H (Ex.refl H) rfl

theorem ev_gref {x : Str} {q : Addr} (hm : X.mg x = some (.ref q)) (hg : Gl X x := by rfl) (hd : (x == ("__debug__" : Str)) = false := by decide) : Ev X (.Name x pos) σ B (isV (.ref q)) := ev_glob (v := .ref q) hm rfl hg hd
theorem ev_gint {x : Str} {i : Int} (hm : ∃ t, X.mg x = some (.int i t)) (hg : Gl X x := by rfl) (hd : (x == ("__debug__" : Str)) = false := by decide) : Ev X (.Name x pos) σ B (isV (.int i)) := by
  obtain ⟨t, e⟩ := hm
  exact ev_glob (v := .int i) e ⟨t, rfl⟩ hg hd
theorem ev_gstr {x z : Str} (hm : ∃ t, X.mg x = some (.str z t)) (hg : Gl X x := by rfl) (hd : (x == ("__debug__" : Str)) = false := by decide) : Ev X (.Name x pos) σ B (isV (.str z)) := by
  obtain ⟨t, e⟩ := hm
  exact ev_glob (v := .str z) e ⟨t, rfl⟩ hg hd

/-! ### operators -/
theorem ev_op {op : Operator} {r : R2} (ho : OpR X (binaryOp op) r) (ha : Ev X a σ B Sa) (hb : Ev X b σ B Sb) (k : ∀ x y H, Ex B H → Sa.P H x → Sb.P H y → ∀ Q : VK, Ret S H Q → r x y H Q) : Ev X (.BinOp a op b pos) σ B S :=
  ev_of (pe_op ho (pe_s a) (pe_s b)) fun H x Q q => ha H x _ fun u H2 d2 p2 => hb H2 (x.trans d2) _ fun v H3 d3 p3 => k u v H3 ((x.trans d2).trans d3) (Sa.mono d3 p2) p3 Q (q.step (d2.trans d3))
theorem ev_cmp {op : CmpOp} {r : R2} (ho : OpR X (compareOp op) r) (ha : Ev X a σ B Sa) (hb : Ev X b σ B Sb) (k : ∀ x y H, Ex B H → Sa.P H x → Sb.P H y → ∀ Q : VK, Ret S H Q → r x y H Q)
    (hm : behindInMarks op b = false := by first | exact nobehind _ (by decide) (by decide) | rfl) : Ev X (.Compare a [op] [b] pos) σ B S :=
  ev_of (pe_cmpR ho (pe_s a) (pe_s b) hm) fun H x Q q => ha H x _ fun u H2 d2 p2 => hb H2 (x.trans d2) _ fun v H3 d3 p3 => k u v H3 ((x.trans d2).trans d3) (Sa.mono d3 p2) p3 Q (q.step (d2.trans d3))
theorem et_cmp {op : CmpOp} {r : R2} {v : Bool} (ho : OpR X (compareOp op) r) (ha : Ev X a σ B Sa) (hb : Ev X b σ B Sb) (k : ∀ x y H, Ex B H → Sa.P H x → Sb.P H y → ∀ Q : VK, Ret (isV (.bl v)) H Q → r x y H Q)
    (hm : behindInMarks op b = false := by first | exact nobehind _ (by decide) (by decide) | rfl) : EvT X (.Compare a [op] [b] pos) σ B v :=
  et_of (pt_cmpR ho (pe_s a) (pe_s b) hm) fun H x Q q => ha H x _ fun u H2 d2 p2 => hb H2 (x.trans d2) _ fun w H3 d3 p3 => k u w H3 ((x.trans d2).trans d3) (Sa.mono d3 p2) p3 _ fun z H4 d4 p4 => ⟨v, p4, q H4 ((d2.trans d3).trans d4)⟩

theorem ev_ret {v : V} {H : Hp} {Q : VK} (q : Ret (isV v) H Q) : Q v H := q v H (Ex.refl H) rfl
theorem Ret.put {o : HO} {n : notT o = true} {B H : Hp} {Q : VK} (x : Ex B H) (q : Ret (newO B o n) H Q) : ∀ p, H p = none → Q (.ref p) (upd H p o) := fun p h => q _ _ (Ex.new h) ⟨p, rfl, x.free h, upd_same⟩
theorem ev_add {i j : Int} (ha : Ev X a σ B (isV (.int i))) (hb : Ev X b σ B (isV (.int j))) : Ev X (.BinOp a .Add b pos) σ B (isV (.int (i + j))) := ev_op op_add ha hb fun x y H _ p1 p2 Q q => ⟨i, j, p1, p2, ev_ret q⟩
theorem ev_sub {i j : Int} (ha : Ev X a σ B (isV (.int i))) (hb : Ev X b σ B (isV (.int j))) : Ev X (.BinOp a .Sub b pos) σ B (isV (.int (i - j))) := ev_op op_sub ha hb fun x y H _ p1 p2 Q q => ⟨i, j, p1, p2, ev_ret q⟩
theorem ev_mul {i j : Int} (ha : Ev X a σ B (isV (.int i))) (hb : Ev X b σ B (isV (.int j))) (h : CMul i j) : Ev X (.BinOp a .Mult b pos) σ B (isV (.int (i * j))) := ev_op op_mul ha hb fun x y H _ p1 p2 Q q => ⟨i, j, p1, p2, h, ev_ret q⟩
theorem ev_mod {i j : Int} (ha : Ev X a σ B (isV (.int i))) (hb : Ev X b σ B (isV (.int j))) (h : 0 < j) : Ev X (.BinOp a .Mod b pos) σ B (isV (.int (i % j))) := ev_op op_mod ha hb fun x y H _ p1 p2 Q q => ⟨i, j, p1, p2, h, ev_ret q⟩
theorem ev_fdiv {i j : Int} (ha : Ev X a σ B (isV (.int i))) (hb : Ev X b σ B (isV (.int j))) (h : CDiv i j) : Ev X (.BinOp a .FloorDiv b pos) σ B (isV (.int (i / j))) := ev_op op_fdiv ha hb fun x y H _ p1 p2 Q q => ⟨i, j, p1, p2, h, ev_ret q⟩
theorem ev_pow {i j : Int} (ha : Ev X a σ B (isV (.int i))) (hb : Ev X b σ B (isV (.int j))) (h : CPow i j) : Ev X (.BinOp a .Pow b pos) σ B (isV (.int (i ^ j.toNat))) := ev_op op_pow ha hb fun x y H _ p1 p2 Q q => ⟨i, j, p1, p2, h, ev_ret q⟩
theorem ev_addS {i j : Str} (ha : Ev X a σ B (isV (.str i))) (hb : Ev X b σ B (isV (.str j))) (h : i.length + j.length ≤ sizeLine) : Ev X (.BinOp a .Add b pos) σ B (isV (.str (i ++ j))) := ev_op op_add_str ha hb fun x y H _ p1 p2 Q q => ⟨i, j, p1, p2, h, ev_ret q⟩
/-- xs + ys, both lists that stand -/
theorem ev_cat {xs ys : List V} (ha : Ev X a σ B (atO (.lst xs))) (hb : Ev X b σ B (atO (.lst ys))) (h : xs.length + ys.length ≤ sizeLine) : Ev X (.BinOp a .Add b pos) σ B (newO B (.lst (xs ++ ys))) :=
  ev_op op_cat ha hb fun x y H d ⟨l, e1, h1⟩ ⟨m, e2, h2⟩ Q q => ⟨l, m, xs, ys, e1, e2, h1, h2, h, q.put d⟩
theorem ev_eqS {u v : V} (ha : Ev X a σ B (isV u)) (hb : Ev X b σ B (isV v)) (h : scal u v = true) : Ev X (.Compare a [.Eq] [b] pos) σ B (isV (.bl (decide (u = v)))) :=
  ev_cmp op_eq ha hb fun x y H _ p1 p2 Q q => by
    have p1 : x = u := p1
    have p2 : y = v := p2
    subst p1 p2
    exact ⟨h, ev_ret q⟩
theorem et_eqS {u v : V} (ha : Ev X a σ B (isV u)) (hb : Ev X b σ B (isV v)) (h : scal u v = true) : EvT X (.Compare a [.Eq] [b] pos) σ B (decide (u = v)) :=
  et_cmp op_eq ha hb fun x y H _ p1 p2 Q q => by
    have p1 : x = u := p1
    have p2 : y = v := p2
    subst p1 p2
    exact ⟨h, ev_ret q⟩
theorem ev_neS {u v : V} (ha : Ev X a σ B (isV u)) (hb : Ev X b σ B (isV v)) (h : scal u v = true) : Ev X (.Compare a [.NotEq] [b] pos) σ B (isV (.bl (!decide (u = v)))) :=
  ev_cmp op_ne ha hb fun x y H _ p1 p2 Q q => by
    have p1 : x = u := p1
    have p2 : y = v := p2
    subst p1 p2
    exact ⟨h, ev_ret q⟩
theorem et_neS {u v : V} (ha : Ev X a σ B (isV u)) (hb : Ev X b σ B (isV v)) (h : scal u v = true) : EvT X (.Compare a [.NotEq] [b] pos) σ B (!decide (u = v)) :=
  et_cmp op_ne ha hb fun x y H _ p1 p2 Q q => by
    have p1 : x = u := p1
    have p2 : y = v := p2
    subst p1 p2
    exact ⟨h, ev_ret q⟩
theorem et_lt {i j : Int} (ha : Ev X a σ B (isV (.int i))) (hb : Ev X b σ B (isV (.int j))) : EvT X (.Compare a [.Lt] [b] pos) σ B (decide (i < j)) := et_cmp op_lt ha hb fun x y H _ p1 p2 Q q => ⟨i, j, p1, p2, ev_ret q⟩
theorem et_le {i j : Int} (ha : Ev X a σ B (isV (.int i))) (hb : Ev X b σ B (isV (.int j))) : EvT X (.Compare a [.LtE] [b] pos) σ B (decide (i ≤ j)) := et_cmp op_le ha hb fun x y H _ p1 p2 Q q => ⟨i, j, p1, p2, ev_ret q⟩
theorem et_gt {i j : Int} (ha : Ev X a σ B (isV (.int i))) (hb : Ev X b σ B (isV (.int j))) : EvT X (.Compare a [.Gt] [b] pos) σ B (decide (j < i)) := et_cmp op_gt ha hb fun x y H _ p1 p2 Q q => ⟨i, j, p1, p2, ev_ret q⟩
theorem et_ge {i j : Int} (ha : Ev X a σ B (isV (.int i))) (hb : Ev X b σ B (isV (.int j))) : EvT X (.Compare a [.GtE] [b] pos) σ B (decide (j ≤ i)) := et_cmp op_ge ha hb fun x y H _ p1 p2 Q q => ⟨i, j, p1, p2, ev_ret q⟩
theorem ev_lt {i j : Int} (ha : Ev X a σ B (isV (.int i))) (hb : Ev X b σ B (isV (.int j))) : Ev X (.Compare a [.Lt] [b] pos) σ B (isV (.bl (decide (i < j)))) := ev_cmp op_lt ha hb fun x y H _ p1 p2 Q q => ⟨i, j, p1, p2, ev_ret q⟩
theorem ev_gt {i j : Int} (ha : Ev X a σ B (isV (.int i))) (hb : Ev X b σ B (isV (.int j))) : Ev X (.Compare a [.Gt] [b] pos) σ B (isV (.bl (decide (j < i)))) := ev_cmp op_gt ha hb fun x y H _ p1 p2 Q q => ⟨i, j, p1, p2, ev_ret q⟩
theorem ev_ge {i j : Int} (ha : Ev X a σ B (isV (.int i))) (hb : Ev X b σ B (isV (.int j))) : Ev X (.Compare a [.GtE] [b] pos) σ B (isV (.bl (decide (j ≤ i)))) := ev_cmp op_ge ha hb fun x y H _ p1 p2 Q q => ⟨i, j, p1, p2, ev_ret q⟩
theorem et_isN {v : V} (ha : Ev X a σ B (isV v)) {j : Nat} {p2 : Pos} : EvT X (.Compare a [.Is] [.Constant .none j p2] pos) σ B (decide (v = .non)) :=
  et_cmp op_isN ha ev_none fun x y H _ p1 p2 Q q => by
    have p1 : x = v := p1
    subst p1
    exact ⟨p2, ev_ret q⟩
theorem et_notN {v : V} (ha : Ev X a σ B (isV v)) {j : Nat} {p2 : Pos} : EvT X (.Compare a [.IsNot] [.Constant .none j p2] pos) σ B (!decide (v = .non)) :=
  et_cmp op_notN ha ev_none fun x y H _ p1 p2 Q q => by
    have p1 : x = v := p1
    subst p1
    exact ⟨p2, ev_ret q⟩
theorem ev_isN {v : V} (ha : Ev X a σ B (isV v)) {j : Nat} {p2 : Pos} : Ev X (.Compare a [.Is] [.Constant .none j p2] pos) σ B (isV (.bl (decide (v = .non)))) :=
  ev_cmp op_isN ha ev_none fun x y H _ p1 p2 Q q => by
    have p1 : x = v := p1
    subst p1
    exact ⟨p2, ev_ret q⟩
theorem ev_notN {v : V} (ha : Ev X a σ B (isV v)) {j : Nat} {p2 : Pos} : Ev X (.Compare a [.IsNot] [.Constant .none j p2] pos) σ B (isV (.bl (!decide (v = .non)))) :=
  ev_cmp op_notN ha ev_none fun x y H _ p1 p2 Q q => by
    have p1 : x = v := p1
    subst p1
    exact ⟨p2, ev_ret q⟩
/-- x in, not in a list or tuple of flat things -/
theorem ev_inQ {u : V} {xs : List V} (ha : Ev X a σ B (isV u)) (hb : Ev X b σ B Sb) (hs : ∀ y H, Ex B H → Sb.P H y → ∃ p, y = .ref p ∧ (SqL X.K H p xs ∨ SqT X.K H p xs)) (fu : flatV u = true) (fx : xs.all flatV = true) (hm : behindInMarks .In b = false := by rfl) : Ev X (.Compare a [.In] [b] pos) σ B (isV (.bl (inV u xs))) :=
  ev_cmp op_in_seq ha hb (fun x y H d p1 p2 Q q => by
    obtain ⟨p, e, h⟩ := hs y H d p2
    have p1 : x = u := p1
    subst p1
    exact ⟨p, xs, e, h, fu, fx, ev_ret q⟩) hm
theorem et_inQ {u : V} {xs : List V} (ha : Ev X a σ B (isV u)) (hb : Ev X b σ B Sb) (hs : ∀ y H, Ex B H → Sb.P H y → ∃ p, y = .ref p ∧ (SqL X.K H p xs ∨ SqT X.K H p xs)) (fu : flatV u = true) (fx : xs.all flatV = true) (hm : behindInMarks .In b = false := by rfl) : EvT X (.Compare a [.In] [b] pos) σ B (inV u xs) :=
  et_cmp op_in_seq ha hb (fun x y H d p1 p2 Q q => by
    obtain ⟨p, e, h⟩ := hs y H d p2
    have p1 : x = u := p1
    subst p1
    exact ⟨p, xs, e, h, fu, fx, ev_ret q⟩) hm
theorem et_notInQ {u : V} {xs : List V} (ha : Ev X a σ B (isV u)) (hb : Ev X b σ B Sb) (hs : ∀ y H, Ex B H → Sb.P H y → ∃ p, y = .ref p ∧ (SqL X.K H p xs ∨ SqT X.K H p xs)) (fu : flatV u = true) (fx : xs.all flatV = true) (hm : behindInMarks .NotIn b = false := by rfl) : EvT X (.Compare a [.NotIn] [b] pos) σ B (!inV u xs) :=
  et_cmp op_notIn_seq ha hb (fun x y H d p1 p2 Q q => by
    obtain ⟨p, e, h⟩ := hs y H d p2
    have p1 : x = u := p1
    subst p1
    exact ⟨p, xs, e, h, fu, fx, ev_ret q⟩) hm
theorem inT_of {xs : List V} : ∀ (y : V) (H : Hp), Ex B H → (seqT X.K xs).P H y → ∃ p, y = .ref p ∧ (SqL X.K H p xs ∨ SqT X.K H p xs) := fun _ _ _ ⟨p, e, h⟩ => ⟨p, e, Or.inr h⟩
theorem inL_of {xs : List V} : ∀ (y : V) (H : Hp), Ex B H → (seqL X.K xs).P H y → ∃ p, y = .ref p ∧ (SqL X.K H p xs ∨ SqT X.K H p xs) := fun _ _ _ ⟨p, e, h⟩ => ⟨p, e, Or.inl h⟩

/-! ### and, or, not, if -/
theorem et_val {v : Bool} (h : Ev X e σ B (isV (.bl v))) (he : ∀ whole, isTrue e X.env whole = (do let v ← whole; standAt e.pos; holding [v] (truthy v)) := by intro _; rfl) : EvT X e σ B v :=
  et_of (pt_val (pe_s e) he) fun H x Q q => h H x _ fun u H2 d p => ⟨v, p, q H2 d⟩
theorem et_truth {v : Bool} (h : Ev X e σ B S) (k : ∀ u H, Ex B H → S.P H u → TruV X.K u H v) (he : ∀ whole, isTrue e X.env whole = (do let v ← whole; standAt e.pos; holding [v] (truthy v)) := by intro _; rfl) : EvT X e σ B v :=
  et_of (pt_truth (pe_s e) he) fun H x Q q => h H x _ fun u H2 d p => ⟨v, k u H2 (x.trans d) p, q H2 d⟩
theorem et_list {xs : List V} (h : Ev X e σ B (seqL X.K xs)) (he : ∀ whole, isTrue e X.env whole = (do let v ← whole; standAt e.pos; holding [v] (truthy v)) := by intro _; rfl) : EvT X e σ B (!xs.isEmpty) :=
  et_truth h (fun u H d ⟨p, z, y⟩ => by
    rw [z]
    exact Or.inl ⟨xs, y, rfl⟩) he
theorem ew_and1 {v : Bool} (h : EvT X a σ B v) : EvW X (.BoolOp .And [a] pos) σ B v := ew_of (pw_and1 (pt_s a)) fun H x Q q => h H x Q q
theorem ew_or1 {v : Bool} (h : EvT X a σ B v) : EvW X (.BoolOp .Or [a] pos) σ B v := ew_of (pw_or1 (pt_s a)) fun H x Q q => h H x Q q
theorem ew_and {v w : Bool} {r : List Expr} (h : EvT X a σ B v) (h2 : v = true → EvW X (.BoolOp .And (b :: r) pos) σ B w) : EvW X (.BoolOp .And (a :: b :: r) pos) σ B (v && w) :=
  ew_of (pw_and (pt_s a) (pw_s _)) fun H x Q q => h H x _ fun H2 d => by
    cases v with
    | true => exact iteT (h2 rfl H2 (x.trans d) Q fun H3 d3 => q H3 (d.trans d3))
    | false => exact iteF (q H2 d)
theorem ew_or {v w : Bool} {r : List Expr} (h : EvT X a σ B v) (h2 : v = false → EvW X (.BoolOp .Or (b :: r) pos) σ B w) : EvW X (.BoolOp .Or (a :: b :: r) pos) σ B (v || w) :=
  ew_of (pw_or (pt_s a) (pw_s _)) fun H x Q q => h H x _ fun H2 d => by
    cases v with
    | true => exact iteT (q H2 d)
    | false => exact iteF (h2 rfl H2 (x.trans d) Q fun H3 d3 => q H3 (d.trans d3))
theorem EvW.t {v : Bool} (h : EvW X e σ B v) : EvT X e σ B v := et_of (pw_s e).pt fun H x Q q => h H x Q q
theorem et_not {v : Bool} (h : EvT X a σ B v) : EvT X (.UnaryOp .Not a pos) σ B (!v) := et_of (pt_not (pt_s a)) fun H x Q q => h H x _ fun H2 d => q H2 d
theorem ev_not {v : Bool} (h : Ev X a σ B (isV (.bl v))) : Ev X (.UnaryOp .Not a pos) σ B (isV (.bl (!v))) := ev_of (pe_not (pe_s a)) fun H x Q q => h H x _ fun u H2 d p => ⟨v, p, q _ H2 d rfl⟩
theorem ev_one {op : BoolOp} (h : Ev X a σ B S) : Ev X (.BoolOp op [a] pos) σ B S := ev_of (pe_one (pe_s a)) fun H x Q q => h H x Q q
theorem ev_and {v w : Bool} {r : List Expr} (h : Ev X a σ B (isV (.bl v))) (h2 : v = true → Ev X (.BoolOp .And (b :: r) pos) σ B (isV (.bl w))) : Ev X (.BoolOp .And (a :: b :: r) pos) σ B (isV (.bl (v && w))) :=
  ev_of (pe_and (pe_s a) (pe_s _)) fun H x Q q => h H x _ fun u H2 d p => ⟨v, p, by
    cases v with
    | true => exact iteT (h2 rfl H2 (x.trans d) Q (q.step d))
    | false => exact iteF (q _ H2 d rfl)⟩
theorem ev_or {v w : Bool} {r : List Expr} (h : Ev X a σ B (isV (.bl v))) (h2 : v = false → Ev X (.BoolOp .Or (b :: r) pos) σ B (isV (.bl w))) : Ev X (.BoolOp .Or (a :: b :: r) pos) σ B (isV (.bl (v || w))) :=
  ev_of (pe_or (pe_s a) (pe_s _)) fun H x Q q => h H x _ fun u H2 d p => ⟨v, p, by
    cases v with
    | true => exact iteT (q _ H2 d rfl)
    | false => exact iteF (h2 rfl H2 (x.trans d) Q (q.step d))⟩
theorem ev_if {v : Bool} (h : EvT X c σ B v) (h1 : v = true → Ev X a σ B S) (h2 : v = false → Ev X b σ B S) : Ev X (.IfExp c a b pos) σ B S :=
  ev_of (pe_ifExp (pt_s c) (pe_s a) (pe_s b)) fun H x Q q => h H x _ fun H2 d => by
    cases v with
    | true => exact iteT (h1 rfl H2 (x.trans d) Q (q.step d))
    | false => exact iteF (h2 rfl H2 (x.trans d) Q (q.step d))
/-- a < b < c, by two rules -/
theorem ev_chain {op op' : CmpOp} {r r' : R2} {v w : Bool} (ho : OpR X (compareOp op) r) (ho' : OpR X (compareOp op') r') (ha : Ev X a σ B Sa) (hb : Ev X b σ B Sb) (hc : Ev X c σ B Sc)
    (k1 : ∀ x y H, Ex B H → Sa.P H x → Sb.P H y → ∀ Q : VK, Ret (isV (.bl v)) H Q → r x y H Q) (k2 : v = true → ∀ y z H, Ex B H → Sb.P H y → Sc.P H z → ∀ Q : VK, Ret (isV (.bl w)) H Q → r' y z H Q)
    (hm : lastMarks [op, op'] [b, c] = false := by with_unfolding_all rfl) : Ev X (.Compare a [op, op'] [b, c] pos) σ B (isV (.bl (v && w))) :=
  ev_of (pe_chain ho ho' (pe_s a) (pe_s b) (pe_s c) hm) fun H x Q q => ha H x _ fun u H2 d2 p2 => hb H2 (x.trans d2) _ fun y H3 d3 p3 =>
    k1 u y H3 ((x.trans d2).trans d3) (Sa.mono d3 p2) p3 _ fun z H4 d4 p4 => ⟨v, p4, by
      cases v with
      | false => exact iteF (q _ H4 ((d2.trans d3).trans d4) rfl)
      | true => exact iteT (hc H4 (((x.trans d2).trans d3).trans d4) _ fun z2 H5 d5 p5 => k2 rfl y z2 H5 ((((x.trans d2).trans d3).trans d4).trans d5) (Sb.mono (d4.trans d5) p3) p5 Q (q.step (((d2.trans d3).trans d4).trans d5)))⟩

/-! ### arguments, displays -/
theorem ea_nil : EvA X [] σ B [] := ea_of pa_nil fun H _ Q q => q [] H (Ex.refl H) rfl
theorem ea_cons (h : Ev X e σ B S) (hr : EvA X es σ B Ss) (hs : starEach (e :: es) X.env = (false, eval e X.env) :: starEach es X.env := by rfl) : EvA X (e :: es) σ B (S :: Ss) :=
  ea_of (pa_cons (pe_s e) (pa_s es) hs) fun H x Q q => h H x _ fun v H2 d p => hr H2 (x.trans d) _ fun vs H3 d3 p3 => q (v :: vs) H3 (d.trans d3) ⟨v, vs, rfl, S.mono d3 p, p3⟩
theorem ev_lst {vs : List V} (h : EvA X es σ B (vs.map isV)) (hz : vs.length ≤ sizeLine) : Ev X (.List es pos) σ B (newO B (.lst vs)) :=
  ev_of (pe_lst (pa_s es)) fun H x Q q => h H x _ fun ws H2 d p => by
    rw [p.vals]
    exact ⟨hz, (q.step d).put (x.trans d)⟩
theorem ev_tup {j : Nat} {vs : List V} (h : EvA X es σ B (vs.map isV)) (hz : vs.length ≤ sizeLine) : Ev X (.Tuple es j pos) σ B (newO B (.tup vs)) :=
  ev_of (pe_tup (pa_s es)) fun H x Q q => h H x _ fun ws H2 d p => by
    rw [p.vals]
    exact ⟨hz, (q.step d).put (x.trans d)⟩

/-! ### subscripts, slices -/
theorem ev_ixL {xs : List V} {i : Int} {v : V} (ha : Ev X a σ B (seqL X.K xs)) (hb : Ev X b σ B (isV (.int i))) (h : atI xs i = some v) (hs : PlainIx b := by intro _ _; rfl) : Ev X (.Subscript a b pos) σ B (isV v) :=
  ev_of (pe_ix ix_list (pe_s a) (pe_s b) hs) fun H x Q q => ha H x _ fun u H2 d2 ⟨p, e, hp⟩ => hb H2 (x.trans d2) _ fun w H3 d3 p3 => ⟨p, xs, i, v, e, p3, d3.seqL hp, h, q v H3 (d2.trans d3) rfl⟩
theorem ev_ixT {xs : List V} {i : Int} {v : V} (ha : Ev X a σ B (seqT X.K xs)) (hb : Ev X b σ B (isV (.int i))) (h : atI xs i = some v) (hs : PlainIx b := by intro _ _; rfl) : Ev X (.Subscript a b pos) σ B (isV v) :=
  ev_of (pe_ix ix_tup (pe_s a) (pe_s b) hs) fun H x Q q => ha H x _ fun u H2 d2 ⟨p, e, hp⟩ => hb H2 (x.trans d2) _ fun w H3 d3 p3 => ⟨p, xs, i, v, e, p3, d3.seqT hp, h, q v H3 (d2.trans d3) rfl⟩
theorem ev_ixS {z : Str} {i : Int} {k : Nat} (ha : Ev X a σ B (isV (.str z))) (hb : Ev X b σ B (isV (.int i))) (hz : z.length ≤ sizeLine) (h : atI z.cps.toList i = some k) (hs : PlainIx b := by intro _ _; rfl) : Ev X (.Subscript a b pos) σ B (isV (.str ⟨#[k]⟩)) :=
  ev_of (pe_ix ix_str (pe_s a) (pe_s b) hs) fun H x Q q => ha H x _ fun u H2 d2 p2 => hb H2 (x.trans d2) _ fun w H3 d3 p3 => ⟨z, i, k, p2, p3, hz, h, q _ H3 (d2.trans d3) rfl⟩
def EvO (X : Cx) (o : Option Expr) (σ : L2.St) (B : Hp) (i : Option Int) : Prop := ∃ t, PO X o t ∧ ∀ H, Ex B H → ∀ Q : Option Int → Hp → Prop, (∀ H2, Ex H H2 → Q i H2) → t σ H Q
theorem eo_none : EvO X none σ B none := ⟨_, po_none, fun H _ Q q => q H (Ex.refl H)⟩
theorem eo_some {i : Int} (h : Ev X e σ B (isV (.int i))) : EvO X (some e) σ B (some i) := ⟨_, po_some (pe_s e), fun H x Q q => h H x _ fun v H2 d p => ⟨i, p, q H2 d⟩⟩
theorem ev_cut {xs : List V} {lo hi : Option Expr} {i j : Option Int} {p2 : Pos} (ha : Ev X a σ B (seqL X.K xs)) (hl : EvO X lo σ B i) (hh : EvO X hi σ B j) : Ev X (.Subscript a (.Slice lo hi none p2) pos) σ B (newO B (.lst (cutV xs i j))) := by
  obtain ⟨t1, po1, k1⟩ := hl
  obtain ⟨t2, po2, k2⟩ := hh
  exact ev_of (pe_slice sl_list (pe_s a) po1 po2) fun H x Q q => ha H x _ fun u H2 d2 ⟨p, e, hp⟩ => k1 H2 (x.trans d2) _ fun H3 d3 => k2 H3 ((x.trans d2).trans d3) _ fun H4 d4 =>
    ⟨p, xs, e, (d3.trans d4).seqL hp, (q.step ((d2.trans d3).trans d4)).put (((x.trans d2).trans d3).trans d4)⟩
theorem ev_cutS {z : Str} {lo hi : Option Expr} {i j : Option Int} {p2 : Pos} (ha : Ev X a σ B (isV (.str z))) (hl : EvO X lo σ B i) (hh : EvO X hi σ B j) (hz : z.length ≤ sizeLine) : Ev X (.Subscript a (.Slice lo hi none p2) pos) σ B (isV (.str (cutS z i j))) := by
  obtain ⟨t1, po1, k1⟩ := hl
  obtain ⟨t2, po2, k2⟩ := hh
  exact ev_of (pe_slice sl_str (pe_s a) po1 po2) fun H x Q q => ha H x _ fun u H2 d2 p2 => k1 H2 (x.trans d2) _ fun H3 d3 => k2 H3 ((x.trans d2).trans d3) _ fun H4 d4 =>
    ⟨z, p2, hz, q _ H4 ((d2.trans d3).trans d4) rfl⟩
theorem ev_rev {xs : List V} {k : Nat} {p1 p2 p3 : Pos} (ha : Ev X a σ B (seqL X.K xs)) : Ev X (.Subscript a (.Slice none none (some (.UnaryOp .USub (.Constant (.int 1) k p1) p2)) p3) pos) σ B (newO B (.lst xs.reverse)) :=
  ev_of (pe_revL (pe_s a)) fun H x Q q => ha H x _ fun u H2 d ⟨p, e, hp⟩ => ⟨p, xs, e, hp, (q.step d).put (x.trans d)⟩
/-- d[k] -/
theorem ev_dget {p : Addr} {kvs : List (Key × V)} {k : Key} {v : V} (ha : Ev X a σ B (isV (.ref p))) (hp : B p = some (.dK kvs)) (hb : Ev X b σ B (isV (kV k))) (hv : valV kvs k = some v) (hu : X.A.units + 1 < cLine) (hs : NoSl b := by intro _ _; rfl) : Ev X (.Subscript a b pos) σ B (isV v) :=
  ev_of (pe_dget hu (pe_s a) (pe_s b) hs) fun H x Q q => ha H x _ fun u H2 d2 p2 => hb H2 (x.trans d2) _ fun w H3 d3 p3 => by
    have p3 : w = kV k := p3
    subst p3
    refine ⟨p, v, p2, ?_, q v H3 (d2.trans d3) rfl⟩
    rw [← hv]
    exact DGet.k (((x.trans d2).trans d3).get hp)
/-- k in d -/
theorem ev_din {p : Addr} {kvs : List (Key × V)} {k : Key} (ha : Ev X a σ B (isV (kV k))) (hb : Ev X b σ B (isV (.ref p))) (hp : B p = some (.dK kvs)) (hu : X.A.units + 1 < cLine) (hm : behindInMarks .In b = false := by rfl) : Ev X (.Compare a [.In] [b] pos) σ B (isV (.bl (valV kvs k).isSome)) :=
  ev_of (pe_cmp (pc_din hu (pe_s a) (pe_s b)) hm) fun H x Q q => ha H x _ fun u H2 d2 p2 => hb H2 (x.trans d2) _ fun w H3 d3 p3 => by
    have p2 : u = kV k := p2
    subst p2
    exact ⟨p, _, p3, DGet.k (((x.trans d2).trans d3).get hp), q _ H3 (d2.trans d3) rfl⟩
/-- d.get(k) -/
theorem ev_dget1 {p : Addr} {kvs : List (Key × V)} {k : Key} {apos cpos : Pos} (ha : Ev X a σ B (isV (.ref p))) (hp : B p = some (.dK kvs)) (hb : Ev X b σ B (isV (kV k))) (hu : X.A.units + 1 < cLine) (m : M1 X a "get" apos b cpos) : Ev X (.Call (.Attribute a "get" apos) [b] [] cpos) σ B (isV ((valV kvs k).getD .non)) :=
  ev_of (pe_dget1 hu (pe_s a) (pe_s b) m) fun H x Q q => ha H x _ fun u H2 d2 p2 => ⟨p, p2, Or.inl ⟨kvs, Or.inl ((x.trans d2).get hp)⟩, hb H2 (x.trans d2) _ fun w H3 d3 p3 => by
    have p3 : w = kV k := p3
    subst p3
    exact ⟨_, DGet.k (((x.trans d2).trans d3).get hp), q _ H3 (d2.trans d3) rfl⟩⟩
/-- e.f -/
theorem ev_fld {p C dx : Addr} {fs : List (Str × V)} {f : Str} {v : V} (h : Ev X e σ B (isV (.ref p))) (hp : B p = some (.ins C dx fs)) (c : Cls X.K C) (n : NoAttr X.K C f) (l : fs.lookup f = some v) (hb : attributeBase e f X.env (eval e X.env) = eval e X.env := by rfl) :
    Ev X (.Attribute e f pos) σ B (isV v) :=
  ev_of (pe_fld (pe_s e) hb) fun H x Q q => h H x _ fun u H2 d p2 => ⟨p, C, dx, fs, v, p2, (x.trans d).get hp, c, n, l, q v H2 d rfl⟩

/-! ### built-in functions -/
section
variable {x : Str} {p : Pos}
theorem ev_bfn {id : String} {r : List V → Hp → VK → Prop} (hc : CallR X (.builtin id) r) (hm : X.mg x = none) (hv : bootBuiltins x = some (.builtin id)) (ha : EvA X (e :: es) σ B Ss) (k : ∀ vs H, Ex B H → AllS Ss H vs → ∀ Q : VK, Ret S H Q → r vs H Q)
    (hg : Gl X x := by rfl) (hn : x ≠ "__name__" := by decide) (hdb : (x == ("__debug__" : Str)) = false := by decide) (he : starEach (e :: es) X.env = (false, eval e X.env) :: starEach es X.env := by rfl)
    (hpl : (backTo pos (starEach es X.env)).any (·.1) = false := by rfl) : Ev X (.Call (.Name x p) (e :: es) [] pos) σ B S :=
  ev_of (pe_callB hc hg hm hv (pa_s _) hn hdb he hpl) fun H d Q q => ha H d _ fun vs H2 d2 p2 => k vs H2 (d.trans d2) p2 Q (q.step d2)
theorem ev_bty {T : String} {r : List V → Hp → VK → Prop} (hc : CallR X (.type T) r) (hm : X.mg x = none) (hv : bootBuiltins x = some (.type T)) (ha : EvA X (e :: es) σ B Ss) (k : ∀ vs H, Ex B H → AllS Ss H vs → ∀ Q : VK, Ret S H Q → r vs H Q)
    (hg : Gl X x := by rfl) (hn : x ≠ "__name__" := by decide) (hdb : (x == ("__debug__" : Str)) = false := by decide) (he : starEach (e :: es) X.env = (false, eval e X.env) :: starEach es X.env := by rfl)
    (hpl : (backTo pos (starEach es X.env)).any (·.1) = false := by rfl) : Ev X (.Call (.Name x p) (e :: es) [] pos) σ B S :=
  ev_of (pe_callTy hc hg hm hv (pa_s _) hn hdb he hpl) fun H d Q q => ha H d _ fun vs H2 d2 p2 => k vs H2 (d.trans d2) p2 Q (q.step d2)
end
theorem ev_lenL {p : Pos} {xs : List V} (hm : X.mg "len" = none) (ha : Ev X a σ B (seqL X.K xs)) (hg : Gl X "len" := by rfl) (he : starEach [a] X.env = (false, eval a X.env) :: starEach [] X.env := by rfl) (hpl : (backTo pos (starEach [] X.env)).any (·.1) = false := by rfl) :
    Ev X (.Call (.Name "len" p) [a] [] pos) σ B (isV (.int (xs.length : Int))) :=
  ev_bfn call_len_seq hm boot_len (ea_cons ha ea_nil he) (fun vs H d p2 Q q => by
    obtain ⟨v, r, rfl, ⟨l, rfl, hl⟩, rfl⟩ := p2
    exact ⟨l, xs, rfl, Or.inl hl, ev_ret q⟩) hg (by decide) (by decide) he hpl
theorem ev_lenS {p : Pos} {z : Str} (hm : X.mg "len" = none) (ha : Ev X a σ B (isV (.str z))) (hz : z.length ≤ sizeLine) (hg : Gl X "len" := by rfl) (he : starEach [a] X.env = (false, eval a X.env) :: starEach [] X.env := by rfl) (hpl : (backTo pos (starEach [] X.env)).any (·.1) = false := by rfl) :
    Ev X (.Call (.Name "len" p) [a] [] pos) σ B (isV (.int (z.length : Int))) :=
  ev_bfn call_len_str hm boot_len (ea_cons ha ea_nil he) (fun vs H d p2 Q q => by
    obtain ⟨v, r, rfl, rfl, rfl⟩ := p2
    exact ⟨z, rfl, hz, ev_ret q⟩) hg (by decide) (by decide) he hpl
theorem ev_min {p : Pos} {i j : Int} (hc : X.calm = true) (hm : X.mg "min" = none) (ha : Ev X a σ B (isV (.int i))) (hb : Ev X b σ B (isV (.int j))) (hg : Gl X "min" := by rfl) (he : starEach [a, b] X.env = (false, eval a X.env) :: starEach [b] X.env := by rfl) (he2 : starEach [b] X.env = (false, eval b X.env) :: starEach [] X.env := by rfl) (hpl : (backTo pos (starEach [b] X.env)).any (·.1) = false := by rfl) :
    Ev X (.Call (.Name "min" p) [a, b] [] pos) σ B (isV (.int (if j < i then j else i))) :=
  ev_bfn (call_min2 hc) hm boot_min (ea_cons ha (ea_cons hb ea_nil he2) he) (fun vs H d p2 Q q => by
    obtain ⟨v, r, rfl, rfl, w, r2, rfl, rfl, rfl⟩ := p2
    exact ⟨i, j, rfl, ev_ret q⟩) hg (by decide) (by decide) he hpl
theorem ev_max {p : Pos} {i j : Int} (hc : X.calm = true) (hm : X.mg "max" = none) (ha : Ev X a σ B (isV (.int i))) (hb : Ev X b σ B (isV (.int j))) (hg : Gl X "max" := by rfl) (he : starEach [a, b] X.env = (false, eval a X.env) :: starEach [b] X.env := by rfl) (he2 : starEach [b] X.env = (false, eval b X.env) :: starEach [] X.env := by rfl) (hpl : (backTo pos (starEach [b] X.env)).any (·.1) = false := by rfl) :
    Ev X (.Call (.Name "max" p) [a, b] [] pos) σ B (isV (.int (if j > i then j else i))) :=
  ev_bfn (call_max2 hc) hm boot_max (ea_cons ha (ea_cons hb ea_nil he2) he) (fun vs H d p2 Q q => by
    obtain ⟨v, r, rfl, rfl, w, r2, rfl, rfl, rfl⟩ := p2
    exact ⟨i, j, rfl, ev_ret q⟩) hg (by decide) (by decide) he hpl
theorem ev_list {p : Pos} {xs : List V} (hm : X.mg "list" = none) (ha : Ev X a σ B (seqL X.K xs)) (hg : Gl X "list" := by rfl) (he : starEach [a] X.env = (false, eval a X.env) :: starEach [] X.env := by rfl) (hpl : (backTo pos (starEach [] X.env)).any (·.1) = false := by rfl) :
    Ev X (.Call (.Name "list" p) [a] [] pos) σ B (newO B (.lst xs)) :=
  ev_bty call_list_of hm (by decide +kernel) (ea_cons ha ea_nil he) (fun vs H d p2 Q q => by
    obtain ⟨v, r, rfl, ⟨l, rfl, hl⟩, rfl⟩ := p2
    exact ⟨l, xs, rfl, Or.inl hl, q.put d⟩) hg (by decide) (by decide) he hpl
theorem ev_tuple {p : Pos} {xs : List V} (hm : X.mg "tuple" = none) (ha : Ev X a σ B (seqL X.K xs)) (hg : Gl X "tuple" := by rfl) (he : starEach [a] X.env = (false, eval a X.env) :: starEach [] X.env := by rfl) (hpl : (backTo pos (starEach [] X.env)).any (·.1) = false := by rfl) :
    Ev X (.Call (.Name "tuple" p) [a] [] pos) σ B (newO B (.tup xs)) :=
  ev_bty call_tuple_of hm (by decide +kernel) (ea_cons ha ea_nil he) (fun vs H d p2 Q q => by
    obtain ⟨v, r, rfl, ⟨l, rfl, hl⟩, rfl⟩ := p2
    exact ⟨l, xs, rfl, Or.inl ⟨hl, q.put d⟩⟩) hg (by decide) (by decide) he hpl

/-! ### methods of built-in types that change nothing -/
theorem ev_bm {T id : String} {name : Str} {apos : Pos} {r : V → List V → Hp → VK → Prop} (pa : PlainAttrs T) (slot : Slot T name id) (hty : typeOf (.builtin id) = pure (.type "method_descriptor")) (hm : MtR X id r) (ho : Ev X a σ B Sa) (ha : EvA X (e :: es) σ B Ss)
    (ht : ∀ u H, Ex B H → Sa.P H u → tyV X.K T u H) (k : ∀ u vs H, Ex B H → Sa.P H u → AllS Ss H vs → ∀ Q : VK, Ret S H Q → r u vs H Q)
    (hbase : attributeBase a name X.env (eval a X.env) = eval a X.env := by rfl)
    (hfew : ((backTo pos (starEach (e :: es) X.env)).all (fun x => !x.1) && (backToKw pos (keywordEach [] X.env)).all (fun x => x.1.isSome)
      && decide ((e :: es).length + ([] : List Keyword).length + (if ([] : List Keyword).isEmpty then 0 else 1) < 30)) = true := by rfl)
    (hline : (apos.endLine == pos.line) = true := by rfl) (hs : starEach (e :: es) X.env = (false, eval e X.env) :: starEach es X.env := by rfl) (hplain : (backTo pos (starEach es X.env)).any (·.1) = false := by rfl) :
    Ev X (.Call (.Attribute a name apos) (e :: es) [] pos) σ B S :=
  ev_of (pe_bm pa slot hty hm (pe_s a) (pa_s _) hbase hfew hline hs hplain) fun H d Q q => ho H d _ fun u H2 d2 p2 => ⟨ht u H2 (d.trans d2) p2, ha H2 (d.trans d2) _ fun vs H3 d3 p3 => k u vs H3 ((d.trans d2).trans d3) (Sa.mono d3 p2) p3 Q (q.step (d2.trans d3))⟩
theorem ev_bm0 {T id : String} {name : Str} {apos : Pos} {r : V → List V → Hp → VK → Prop} (pa : PlainAttrs T) (slot : Slot T name id) (hty : typeOf (.builtin id) = pure (.type "method_descriptor")) (hm : MtR X id r) (ho : Ev X a σ B Sa)
    (ht : ∀ u H, Ex B H → Sa.P H u → tyV X.K T u H) (k : ∀ u H, Ex B H → Sa.P H u → ∀ Q : VK, Ret S H Q → r u [] H Q)
    (hbase : attributeBase a name X.env (eval a X.env) = eval a X.env := by rfl) (hline : (apos.endLine == pos.line) = true := by rfl) :
    Ev X (.Call (.Attribute a name apos) [] [] pos) σ B S :=
  ev_of (pe_bm0 pa slot hty hm (pe_s a) hbase hline) fun H d Q q => ho H d _ fun u H2 d2 p2 => ⟨ht u H2 (d.trans d2) p2, k u H2 (d.trans d2) p2 Q (q.step d2)⟩
end

/-! ### the text's own defs -/
structure Cal (P : Program) (w : World) (K : PySem.W.Frag) (mg : Str → Option Value) (base : Heap) (x : Str) (k : Nat) (ps : List Str) (sp : Sp) : Prop where
  ex : ∃ f fd, FnOk P w K mg base CX0 k f fd ps sp ∧ mg x = some (.ref f) ∧ PySem.W.keepIn K (.ref f) = true ∧ Binds K fd ps []
structure Mtd (P : Program) (w : World) (K : PySem.W.Frag) (mg : Str → Option Value) (base : Heap) (C : Addr) (m : Str) (k : Nat) (ps : List Str) (sp : Sp) : Prop where
  cl : Cls K C
  ex : ∃ f fd, FnOk P w K mg base CX0 k f fd ps sp ∧ Meth K C m f ∧ Binds K fd ps []
structure Mak (P : Program) (w : World) (K : PySem.W.Frag) (mg : Str → Option Value) (base : Heap) (x : Str) (C : Addr) (k : Nat) (ps : List Str) (sp : Sp) : Prop where
  ex : ∃ f fd, FnOk P w K mg base CX0 k f fd ps sp ∧ Mk K C f ∧ mg x = some (.ref C) ∧ Binds K fd ps []
section
variable {X : Cx} {σ : L2.St} {B B' : Hp} {S S' Sa : VS} {a e : Expr} {es : List Expr} {Ss : List VS} {pos : Pos} {x : Str} {p : Pos} {k j : Nat} {ps : List Str} {sp : Sp}
/-- f(e, ..) as a reading: whatever the def does -/
theorem sE_call {H : Hp} {Q : VK} (F : Cal X.prog X.w X.K X.mg X.base x k ps sp) (hr : Room j X.A) (hk : k ≤ j) (ha : EvA X (e :: es) σ B Ss) (d : Ex B H) (h : ∀ vs H2, Ex H H2 → AllS Ss H2 vs → sp vs H2 Q E0)
    (hg : Gl X x := by rfl) (hdb : (x == ("__debug__" : Str)) = false := by decide) (he : starEach (e :: es) X.env = (false, eval e X.env) :: starEach es X.env := by rfl) (hpl : (backTo pos (starEach es X.env)).any (·.1) = false := by rfl) :
    sE X (.Call (.Name x p) (e :: es) [] pos) σ H Q := by
  obtain ⟨f, fd, F1, F2, F3, F4⟩ := F.ex
  intro pins s I
  refine (pe_call (E := E0) F1 (hr.mono hk) hg F2 F3 F4 .nil pass0 (pa_s (e :: es)) hdb he hpl).run pins s σ H Q I ?_
  refine ha H d _ fun vs H2 d2 p2 => ?_
  rw [List.append_nil]
  exact h vs H2 d2 p2
theorem sE_call0 {H : Hp} {Q : VK} (F : Cal X.prog X.w X.K X.mg X.base x k ps sp) (hr : Room j X.A) (hk : k ≤ j) (h : sp [] H Q E0) (hg : Gl X x := by rfl) (hdb : (x == ("__debug__" : Str)) = false := by decide) : sE X (.Call (.Name x p) [] [] pos) σ H Q := by
  obtain ⟨f, fd, F1, F2, F3, F4⟩ := F.ex
  intro pins s I
  exact (pe_call0 (E := E0) F1 (hr.mono hk) hg F2 F3 F4 .nil pass0 hdb).run pins s σ H Q I h
theorem ev_call (F : Cal X.prog X.w X.K X.mg X.base x k ps sp) (hr : Room j X.A) (hk : k ≤ j) (ha : EvA X (e :: es) σ B Ss) (h : ∀ vs H, Ex B H → AllS Ss H vs → ∀ Q : VK, Ret S H Q → sp vs H Q E0)
    (hg : Gl X x := by rfl) (hdb : (x == ("__debug__" : Str)) = false := by decide) (he : starEach (e :: es) X.env = (false, eval e X.env) :: starEach es X.env := by rfl) (hpl : (backTo pos (starEach es X.env)).any (·.1) = false := by rfl) :
    Ev X (.Call (.Name x p) (e :: es) [] pos) σ B S := fun H d Q q => sE_call F hr hk ha d (fun vs H2 d2 p2 => h vs H2 (d.trans d2) p2 Q (q.step d2)) hg hdb he hpl
variable {C : Addr} {o : Expr} {m : Str} {apos : Pos} {b dx : Addr} {fs : List (Str × V)}
/-- o.m(e, ..) -/
theorem sE_meth {H : Hp} {Q : VK} {pl : Sem Bool} (F : Mtd X.prog X.w X.K X.mg X.base C m k ps sp) (hr : Room j X.A) (hk : k ≤ j) (ho : Ev X o σ B (isV (.ref b))) (hb : B b = some (.ins C dx fs)) (hn : fs.lookup m = none) (ha : EvA X (e :: es) σ B Ss) (d : Ex B H)
    (h : ∀ vs H2, Ex H H2 → AllS Ss H2 vs → sp (.ref b :: vs) H2 Q E0)
    (hst : starEach (e :: es) X.env = (false, eval e X.env) :: starEach es X.env := by rfl) (hpl : (backTo pos (starEach es X.env)).any (·.1) = false := by rfl)
    (ht : eval (.Call (.Attribute o m apos) (e :: es) [] pos) X.env = (do
      let ov ← eval o X.env
      standAt apos.atName
      let (f, first) ← holding [ov] (getMethod ov m pl)
      callWith pos f first (backTo pos (starEach (e :: es) X.env)) (backToKw pos (keywordEach [] X.env))) := by rfl) :
    sE X (.Call (.Attribute o m apos) (e :: es) [] pos) σ H Q := by
  obtain ⟨f, fd, F1, F2, F3⟩ := F.ex
  intro pins s I
  refine (pe_meth (E := E0) (pe_s o) F.cl F2 F1 (hr.mono hk) F3 .nil pass0 (pa_s (e :: es)) hst hpl ht).run pins s σ H Q I ?_
  refine ho H d _ fun v H2 d2 p2 => ?_
  have p2 : v = .ref b := p2
  subst p2
  refine ⟨b, dx, fs, rfl, (d.trans d2).get hb, hn, ha H2 (d.trans d2) _ fun vs H3 d3 p3 => ?_⟩
  rw [List.append_nil]
  exact h vs H3 (d2.trans d3) p3
theorem sE_meth0 {H : Hp} {Q : VK} {pl : Sem Bool} (F : Mtd X.prog X.w X.K X.mg X.base C m k ps sp) (hr : Room j X.A) (hk : k ≤ j) (ho : Ev X o σ B (isV (.ref b))) (hb : B b = some (.ins C dx fs)) (hn : fs.lookup m = none) (d : Ex B H)
    (h : ∀ H2, Ex H H2 → sp [.ref b] H2 Q E0)
    (ht : eval (.Call (.Attribute o m apos) [] [] pos) X.env = (do
      let ov ← eval o X.env
      standAt apos.atName
      let (f, first) ← holding [ov] (getMethod ov m pl)
      callWith pos f first (backTo pos (starEach [] X.env)) (backToKw pos (keywordEach [] X.env))) := by rfl) :
    sE X (.Call (.Attribute o m apos) [] [] pos) σ H Q := by
  obtain ⟨f, fd, F1, F2, F3⟩ := F.ex
  intro pins s I
  refine (pe_meth0 (E := E0) (pe_s o) F.cl F2 F1 (hr.mono hk) F3 .nil pass0 ht).run pins s σ H Q I ?_
  refine ho H d _ fun v H2 d2 p2 => ?_
  have p2 : v = .ref b := p2
  subst p2
  exact ⟨b, dx, fs, rfl, (d.trans d2).get hb, hn, h H2 d2⟩
theorem ev_meth {pl : Sem Bool} (F : Mtd X.prog X.w X.K X.mg X.base C m k ps sp) (hr : Room j X.A) (hk : k ≤ j) (ho : Ev X o σ B (isV (.ref b))) (hb : B b = some (.ins C dx fs)) (hn : fs.lookup m = none) (ha : EvA X (e :: es) σ B Ss)
    (h : ∀ vs H, Ex B H → AllS Ss H vs → ∀ Q : VK, Ret S H Q → sp (.ref b :: vs) H Q E0)
    (hst : starEach (e :: es) X.env = (false, eval e X.env) :: starEach es X.env := by rfl) (hpl : (backTo pos (starEach es X.env)).any (·.1) = false := by rfl)
    (ht : eval (.Call (.Attribute o m apos) (e :: es) [] pos) X.env = (do
      let ov ← eval o X.env
      standAt apos.atName
      let (f, first) ← holding [ov] (getMethod ov m pl)
      callWith pos f first (backTo pos (starEach (e :: es) X.env)) (backToKw pos (keywordEach [] X.env))) := by rfl) :
    Ev X (.Call (.Attribute o m apos) (e :: es) [] pos) σ B S := fun H d Q q => sE_meth F hr hk ho hb hn ha d (fun vs H2 d2 p2 => h vs H2 (d.trans d2) p2 Q (q.step d2)) hst hpl ht
theorem ev_meth0 {pl : Sem Bool} (F : Mtd X.prog X.w X.K X.mg X.base C m k ps sp) (hr : Room j X.A) (hk : k ≤ j) (ho : Ev X o σ B (isV (.ref b))) (hb : B b = some (.ins C dx fs)) (hn : fs.lookup m = none)
    (h : ∀ H, Ex B H → ∀ Q : VK, Ret S H Q → sp [.ref b] H Q E0)
    (ht : eval (.Call (.Attribute o m apos) [] [] pos) X.env = (do
      let ov ← eval o X.env
      standAt apos.atName
      let (f, first) ← holding [ov] (getMethod ov m pl)
      callWith pos f first (backTo pos (starEach [] X.env)) (backToKw pos (keywordEach [] X.env))) := by rfl) :
    Ev X (.Call (.Attribute o m apos) [] [] pos) σ B S := fun H d Q q => sE_meth0 F hr hk ho hb hn d (fun H2 d2 => h H2 (d.trans d2) Q (q.step d2)) ht
/-- C(e, ..): the heap with the instance, then __init__ -/
theorem sE_make {H : Hp} {Q : VK} (F : Mak X.prog X.w X.K X.mg X.base x C k ps sp) (hr : Room j X.A) (hk : k + 1 ≤ j) (ha : EvA X (e :: es) σ B Ss) (d : Ex B H)
    (h : ∀ vs H2, Ex H H2 → AllS Ss H2 vs → ∀ b dx, H2 b = none → H2 dx = none → dx ≠ b → sp (.ref b :: vs) (upd (upd H2 dx (.own b)) b (.ins C dx [])) (fun v H3 => v = .non ∧ Q (.ref b) H3) E0)
    (hg : Gl X x := by rfl) (hdb : (x == ("__debug__" : Str)) = false := by decide) (he : starEach (e :: es) X.env = (false, eval e X.env) :: starEach es X.env := by rfl) (hpl : (backTo pos (starEach es X.env)).any (·.1) = false := by rfl) :
    sE X (.Call (.Name x p) (e :: es) [] pos) σ H Q := by
  obtain ⟨f, fd, F1, F2, F3, F4⟩ := F.ex
  intro pins s I
  refine (pe_make (E := E0) F2 F1 (hr.mono hk) hg F3 F4 .nil pass0 (pa_s (e :: es)) hdb he hpl).run pins s σ H Q I ?_
  refine ha H d _ fun vs H2 d2 p2 b dx n1 n2 n3 => ?_
  rw [List.append_nil]
  exact h vs H2 d2 p2 b dx n1 n2 n3
theorem sE_make0 {H : Hp} {Q : VK} (F : Mak X.prog X.w X.K X.mg X.base x C k ps sp) (hr : Room j X.A) (hk : k + 1 ≤ j)
    (h : ∀ b dx, H b = none → H dx = none → dx ≠ b → sp [.ref b] (upd (upd H dx (.own b)) b (.ins C dx [])) (fun v H3 => v = .non ∧ Q (.ref b) H3) E0)
    (hg : Gl X x := by rfl) (hdb : (x == ("__debug__" : Str)) = false := by decide) : sE X (.Call (.Name x p) [] [] pos) σ H Q := by
  obtain ⟨f, fd, F1, F2, F3, F4⟩ := F.ex
  intro pins s I
  exact (pe_make0 (E := E0) F2 F1 (hr.mono hk) hg F3 F4 .nil pass0 hdb).run pins s σ H Q I h
end

/-! ### statements -/
section
variable {X : Cx} {σ : L2.St} {B B' : Hp} {S S' Sa : VS} {a c e : Expr} {es : List Expr} {pos p2 : Pos} {D : Ends} {rest body : List Stmt} {st : Stmt}
theorem sx_step {t : TS} (h : PS X st t) (k : ∀ H, Ex B H → t { D with nx := sS X rest D } σ H) : SX X (st :: rest) D σ B := fun H d pins s I => (pss_cons h (ps_s rest)).run pins s σ H D I (k H d)
theorem sx_nil (k : ∀ H, Ex B H → D.nx σ H) : SX X [] D σ B := fun H d pins s I => pss_nil.run pins s σ H D I (k H d)
/-- x = e -/
theorem sx_asg (i : Nat) {x : Str} (he : Ev X e σ B S) (k : ∀ v B', Ex B B' → S.P B' v → SX X rest D (σ.set i (some v)) B') (hN : X.N.Nodup := by exact FnScope.nd (by assumption)) (hi : X.N[i]? = some x := by rfl) (hx : Loc X.env.scope x := by first | exact Or.inl rfl | exact Or.inr rfl)
    (hs : swapsWith e (some (.Name x p2)) pos.line X.env = pure false := by rfl) (hf : X.fn x = true ∨ X.env.scope.names.lookup x = some .local := by first | exact .inl rfl | exact .inr rfl) : SX X (.Assign [.Name x p2] e pos :: rest) D σ B :=
  sx_step (ps_set hN hi hx (pe_s e) hs hf) fun H d => he H d _ fun v H2 d2 p => k v H2 (d.trans d2) p H2 (Ex.refl H2)
theorem sx_asgV (i : Nat) {x : Str} {v : V} (he : Ev X e σ B (isV v)) (k : SX X rest D (σ.set i (some v)) B) (hN : X.N.Nodup := by exact FnScope.nd (by assumption)) (hi : X.N[i]? = some x := by rfl) (hx : Loc X.env.scope x := by first | exact Or.inl rfl | exact Or.inr rfl)
    (hs : swapsWith e (some (.Name x p2)) pos.line X.env = pure false := by rfl) (hf : X.fn x = true ∨ X.env.scope.names.lookup x = some .local := by first | exact .inl rfl | exact .inr rfl) : SX X (.Assign [.Name x p2] e pos :: rest) D σ B :=
  sx_asg i he (fun v' B' d p => by
    have p : v' = v := p
    rw [p]
    exact k.up d) hN hi hx hs hf
/-- x = e, a new object -/
theorem sx_asgN (i : Nat) {x : Str} {o : HO} {n : notT o = true} (he : Ev X e σ B (newO B o n)) (k : ∀ q, B q = none → SX X rest D (σ.set i (some (.ref q))) (upd B q o)) (hN : X.N.Nodup := by exact FnScope.nd (by assumption)) (hi : X.N[i]? = some x := by rfl)
    (hx : Loc X.env.scope x := by first | exact Or.inl rfl | exact Or.inr rfl)
    (hs : swapsWith e (some (.Name x p2)) pos.line X.env = pure false := by rfl) (hf : X.fn x = true ∨ X.env.scope.names.lookup x = some .local := by first | exact .inl rfl | exact .inr rfl) : SX X (.Assign [.Name x p2] e pos :: rest) D σ B :=
  sx_asg i he (fun v' B' d ⟨q, z, f, h⟩ => by
    rw [z]
    exact (k q f).up (d.put h)) hN hi hx hs hf
theorem sx_ret (he : Ev X e σ B S) (k : ∀ v H, Ex B H → S.P H v → D.rt v H) : SX X (.Return (some e) pos :: rest) D σ B :=
  sx_step (ps_ret (pe_s e)) fun H d => he H d _ fun v H2 d2 p => k v H2 (d.trans d2) p
/-- return e, whatever e does -/
theorem sx_retE (k : ∀ H, Ex B H → sE X e σ H D.rt) : SX X (.Return (some e) pos :: rest) D σ B := sx_step (ps_ret (pe_s e)) fun H d => k H d
theorem sx_retN (k : ∀ H, Ex B H → D.rt .non H) : SX X (.Return none pos :: rest) D σ B := sx_step ps_retN fun H d => k H d
theorem sx_drop (k : ∀ H, Ex B H → sE X e σ H fun _ H2 => sS X rest D σ H2) (hs : swapsWith e none pos.line X.env = pure false := by rfl) : SX X (.Expr e pos :: rest) D σ B := sx_step (ps_expr (pe_s e) hs) fun H d => k H d
theorem sx_asgE (i : Nat) {x : Str} (k : ∀ H, Ex B H → sE X e σ H fun v H2 => sS X rest D (σ.set i (some v)) H2) (hN : X.N.Nodup := by exact FnScope.nd (by assumption)) (hi : X.N[i]? = some x := by rfl) (hx : Loc X.env.scope x := by first | exact Or.inl rfl | exact Or.inr rfl)
    (hs : swapsWith e (some (.Name x p2)) pos.line X.env = pure false := by rfl) (hf : X.fn x = true ∨ X.env.scope.names.lookup x = some .local := by first | exact .inl rfl | exact .inr rfl) : SX X (.Assign [.Name x p2] e pos :: rest) D σ B :=
  sx_step (ps_set hN hi hx (pe_s e) hs hf) fun H d => k H d
theorem sx_if {v : Bool} {s1 s2 : List Stmt} (h : EvT X c σ B v) (h1 : v = true → SX X s1 { D with nx := sS X rest D } σ B) (h2 : v = false → SX X s2 { D with nx := sS X rest D } σ B) : SX X (.If c s1 s2 pos :: rest) D σ B :=
  sx_step (ps_if (pt_s c) (ps_s s1) (ps_s s2)) fun H d => h H d _ fun H2 d2 => by
    cases v with
    | true => exact iteT (h1 rfl H2 (d.trans d2))
    | false => exact iteF (h2 rfl H2 (d.trans d2))
/-- the if's test holds; it doesn't -/
theorem sx_yes {s1 s2 : List Stmt} (h : EvT X c σ B true) (h1 : SX X s1 { D with nx := sS X rest D } σ B) : SX X (.If c s1 s2 pos :: rest) D σ B := sx_if h (fun _ => h1) fun z => by cases z
theorem sx_no {s1 : List Stmt} (h : EvT X c σ B false) (h2 : SX X rest D σ B) : SX X (.If c s1 [] pos :: rest) D σ B := sx_if h (fun z => by cases z) fun _ => sx_nil fun H d => h2 H d
theorem sx_noE {s1 s2 : List Stmt} (h : EvT X c σ B false) (h2 : SX X s2 { D with nx := sS X rest D } σ B) : SX X (.If c s1 s2 pos :: rest) D σ B := sx_if h (fun z => by cases z) fun _ => h2
/-- a branch that says nothing more -/
theorem sx_skip (h : SX X rest D σ B) : SX X [] { D with nx := sS X rest D } σ B := sx_nil fun H d => h H d
/-- the end of a branch -/
theorem sx_end {X' : Cx} {D' : Ends} (h : SX X rest D σ B) (e : D'.nx = sS X rest D) : SX X' [] D' σ B := sx_nil fun H d => by
  rw [e]
  exact h H d
theorem sx_cont (k : ∀ H, Ex B H → D.ct σ H) : SX X (.Continue pos :: rest) D σ B := sx_step ps_continue fun H d => k H d
theorem sx_never (k : False) : SX X (st :: rest) D σ B := k.elim
/-- o.f = e -/
theorem sx_fld {o : Expr} {f : Str} {p C dx : Addr} {fs : List (Str × V)} {v : V} (he : Ev X e σ B (isV v)) (ho : Ev X o σ B (isV (.ref p))) (hp : B p = some (.ins C dx fs)) (cl : Cls X.K C) (n : NoAttr X.K C f) (hl : fs.length < 1000)
    (k : SX X rest D σ (upd B p (.ins C dx (putF f v fs)))) (hs : swapsWith e (some (.Attribute o f p2)) pos.line X.env = pure false := by rfl) : SX X (.Assign [.Attribute o f p2] e pos :: rest) D σ B :=
  sx_step (ps_fld (pe_s o) (pe_s e) hs) fun H d => he H d _ fun u H2 d2 p2 => ho H2 (d.trans d2) _ fun w H3 d3 p3 => by
    have p2 : u = v := p2
    subst p2
    exact ⟨p, C, dx, fs, p3, ((d.trans d2).trans d3).get hp, cl, n, hl, k _ ((d.trans d2).trans d3).both⟩
/-- .. e a new object -/
theorem sx_fldN {o : Expr} {f : Str} {p C dx : Addr} {fs : List (Str × V)} {ob : HO} {nb : notT ob = true} (he : Ev X e σ B (newO B ob nb)) (ho : Ev X o σ B (isV (.ref p))) (hp : B p = some (.ins C dx fs)) (cl : Cls X.K C) (n : NoAttr X.K C f) (hl : fs.length < 1000)
    (k : ∀ q, B q = none → SX X rest D σ (upd (upd B q ob) p (.ins C dx (putF f (.ref q) fs)))) (hs : swapsWith e (some (.Attribute o f p2)) pos.line X.env = pure false := by rfl) : SX X (.Assign [.Attribute o f p2] e pos :: rest) D σ B :=
  sx_step (ps_fld (pe_s o) (pe_s e) hs) fun H d => he H d _ fun u H2 d2 ⟨q, z, fr, h⟩ => ho H2 (d.trans d2) _ fun w H3 d3 p3 => by
    rw [z]
    exact ⟨p, C, dx, fs, p3, ((d.trans d2).trans d3).get hp, cl, n, hl, k q fr _ (((d.trans d2).trans d3).put (d3.get h nb)).both⟩
/-- .. whatever e does -/
theorem sx_fldE {o : Expr} {f : Str} {p C : Addr} (k : ∀ H, Ex B H → sE X e σ H fun v H2 => sE X o σ H2 fun w H3 => w = .ref p ∧ ∃ dx fs, H3 p = some (.ins C dx fs) ∧ fs.length < 1000 ∧ sS X rest D σ (upd H3 p (.ins C dx (putF f v fs)))) (cl : Cls X.K C) (n : NoAttr X.K C f)
    (hs : swapsWith e (some (.Attribute o f p2)) pos.line X.env = pure false := by rfl) : SX X (.Assign [.Attribute o f p2] e pos :: rest) D σ B :=
  sx_step (ps_fld (pe_s o) (pe_s e) hs) fun H d pins s I => thn (k H d pins s I) fun u s1 ⟨v, H2, I2, r, q⟩ => ⟨v, H2, I2, r, fun pins' s' I' => thn (q pins' s' I') fun u2 s2 ⟨w, H3, I3, r3, e3, dx, fs, h3, hl, q3⟩ => ⟨w, H3, I3, r3, p, C, dx, fs, e3, h3, cl, n, hl, q3⟩⟩
/-- d[k] = e -/
theorem sx_dput {o i : Expr} {p : Addr} {kvs : List (Key × V)} {key : Key} {v : V} (he : Ev X e σ B (isV v)) (ho : Ev X o σ B (isV (.ref p))) (hi : Ev X i σ B (isV (kV key))) (hp : B p = some (.dK kvs)) (hl : kvs.length < sizeLine) (hu : X.A.units + 1 < cLine)
    (k : SX X rest D σ (upd B p (.dK (putK kvs key v)))) (hs : swapsWith e (some (.Subscript o i p2)) pos.line X.env = pure false := by rfl) : SX X (.Assign [.Subscript o i p2] e pos :: rest) D σ B :=
  sx_step (ps_dput hu (pe_s o) (pe_s i) (pe_s e) hs) fun H d => he H d _ fun u H2 d2 p2 => ho H2 (d.trans d2) _ fun w H3 d3 p3 => hi H3 ((d.trans d2).trans d3) _ fun y H4 d4 p4 => by
    have p2 : u = v := p2
    have p4 : y = kV key := p4
    subst p2 p4
    exact ⟨p, _, p3, DPut.k ((((d.trans d2).trans d3).trans d4).get hp) hl, k _ (((d.trans d2).trans d3).trans d4).both⟩
/-- xs.append(e) -/
theorem sx_app {o : Expr} {l : Addr} {xs : List V} {v : V} {apos cpos : Pos} (ho : Ev X o σ B (isV (.ref l))) (he : Ev X e σ B (isV v)) (hl : B l = some (.lst xs)) (hz : xs.length < 100000) (k : SX X rest D σ (upd B l (.lst (xs ++ [v]))))
    (hbase : attributeBase o "append" X.env (eval o X.env) = eval o X.env := by rfl)
    (hfew : ((backTo cpos (starEach [e] X.env)).all (fun x => !x.1) && (backToKw cpos (keywordEach [] X.env)).all (fun x => x.1.isSome)
      && decide ([e].length + ([] : List Keyword).length + (if ([] : List Keyword).isEmpty then 0 else 1) < 30)) = true := by rfl)
    (hline : (apos.endLine == cpos.line) = true := by rfl) (hs : starEach [e] X.env = (false, eval e X.env) :: starEach [] X.env := by rfl) (hplain : (backTo cpos (starEach [] X.env)).any (·.1) = false := by rfl)
    (hsw : swapsWith (.Call (.Attribute o "append" apos) [e] [] cpos) none pos.line X.env = pure false := by rfl) :
    SX X (.Expr (.Call (.Attribute o "append" apos) [e] [] cpos) pos :: rest) D σ B :=
  sx_step (ps_expr (pe_bm PySem.F.plainAttrs_list PySem.F.slot_list_append PySem.F.type_list_append mt_append (pe_s o) (pa_cons (pe_s e) pa_nil hs) hbase hfew hline hs hplain) hsw) fun H d =>
    ho H d _ fun u H2 d2 p2 => by
      have p2 : u = .ref l := p2
      subst p2
      refine ⟨Or.inl ⟨rfl, xs, SqL.of ((d.trans d2).get hl)⟩, he H2 (d.trans d2) _ fun w H3 d3 p3 => ?_⟩
      have p3 : w = v := p3
      subst p3
      exact ⟨l, xs, w, rfl, rfl, ((d.trans d2).trans d3).get hl, Nat.lt_of_lt_of_le hz (by decide), k _ ((d.trans d2).trans d3).both⟩
/-- .. e a new object -/
theorem sx_appN {o : Expr} {l : Addr} {xs : List V} {ob : HO} {nb : notT ob = true} {apos cpos : Pos} (ho : Ev X o σ B (isV (.ref l))) (he : Ev X e σ B (newO B ob nb)) (hl : B l = some (.lst xs)) (hz : xs.length < 100000) (k : ∀ q, B q = none → SX X rest D σ (upd (upd B q ob) l (.lst (xs ++ [.ref q]))))
    (hbase : attributeBase o "append" X.env (eval o X.env) = eval o X.env := by rfl)
    (hfew : ((backTo cpos (starEach [e] X.env)).all (fun x => !x.1) && (backToKw cpos (keywordEach [] X.env)).all (fun x => x.1.isSome)
      && decide ([e].length + ([] : List Keyword).length + (if ([] : List Keyword).isEmpty then 0 else 1) < 30)) = true := by rfl)
    (hline : (apos.endLine == cpos.line) = true := by rfl) (hs : starEach [e] X.env = (false, eval e X.env) :: starEach [] X.env := by rfl) (hplain : (backTo cpos (starEach [] X.env)).any (·.1) = false := by rfl)
    (hsw : swapsWith (.Call (.Attribute o "append" apos) [e] [] cpos) none pos.line X.env = pure false := by rfl) :
    SX X (.Expr (.Call (.Attribute o "append" apos) [e] [] cpos) pos :: rest) D σ B :=
  sx_step (ps_expr (pe_bm PySem.F.plainAttrs_list PySem.F.slot_list_append PySem.F.type_list_append mt_append (pe_s o) (pa_cons (pe_s e) pa_nil hs) hbase hfew hline hs hplain) hsw) fun H d =>
    ho H d _ fun u H2 d2 p2 => by
      have p2 : u = .ref l := p2
      subst p2
      refine ⟨Or.inl ⟨rfl, xs, SqL.of ((d.trans d2).get hl)⟩, he H2 (d.trans d2) _ fun w H3 d3 ⟨q, z, fr, h⟩ => ?_⟩
      rw [z]
      exact ⟨l, xs, _, rfl, rfl, ((d.trans d2).trans d3).get hl, Nat.lt_of_lt_of_le hz (by decide), k q fr _ (((d.trans d2).trans d3).put h).both⟩

/-! ### loops: a word of the turn, the slots and a base -/
def Up (W : L2.St → Hp → Prop) : L2.St → Hp → Prop := fun σ H => ∃ B, Ex B H ∧ W σ B
theorem up_at {W : L2.St → Hp → Prop} (h : W σ B) : ∀ H, Ex B H → Up W σ H := fun H d => ⟨B, d, h⟩
abbrev Turned (X : Cx) (D : Ends) (rest : List Stmt) (N : L2.St → Hp → Prop) : Ends := { nx := N, rt := D.rt, bk := sS X rest D, ct := N }
/-- over a list that can be read, at p -/
theorem sx_for {tg : Expr} {g : TG} {xs : List V} (hl : Ev X e σ B (seqL X.K xs)) (hg : PG X tg g)
    (k : ∀ p B', Ex B B' → SqL X.K B' p xs → ∃ W : Nat → L2.St → Hp → Prop, W 0 σ B' ∧ (∀ i σ B, W i σ B → SqL X.K B p xs) ∧
      (∀ i v σ B, xs[i]? = some v → W i σ B → ∀ H, Ex B H → g v σ H fun σ2 H2 => sS X body (Turned X D rest (Up (W (i + 1)))) σ2 H2) ∧ (∀ σ B, W xs.length σ B → SX X rest D σ B))
    (hp : PassesOwn (model X.prog X.w) X.A X.env X.xe := by exact PassesOwn.never) (hc : X.calm = true := by rfl) (hs : ∀ x, foldedSetIterable e X.env x = pure x := by intro _; rfl) : SX X (.For tg e body [] pos :: rest) D σ B :=
  sx_step (ps_for hp hc (pi_list (pe_s e)) hg (ps_s body) hs) fun H d => hl H d _ fun u H2 d2 ⟨p, z, hq⟩ => by
    obtain ⟨W, w0, wl, ws, wd⟩ := k p H2 (d.trans d2) hq
    refine ⟨p, z, ⟨xs, hq⟩, for_list (xs := xs) (fun i σ H => Up (W i) σ H) ⟨H2, Ex.refl H2, w0⟩ (fun i σ H _ ⟨B1, x1, w1⟩ => x1.seqL (wl i σ B1 w1)) (fun i v σ H hi ⟨B1, x1, w1⟩ => ws i v σ B1 hi w1 H x1) (fun σ H ⟨B1, x1, w1⟩ => wd σ B1 w1 H x1)⟩
/-- .. its target a name -/
theorem sx_forN (j : Nat) {x : Str} {xs : List V} (hl : Ev X e σ B (seqL X.K xs))
    (k : ∀ p B', Ex B B' → SqL X.K B' p xs → ∃ W : Nat → L2.St → Hp → Prop, W 0 σ B' ∧ (∀ i σ B, W i σ B → SqL X.K B p xs) ∧
      (∀ i v σ B, xs[i]? = some v → W i σ B → SX X body (Turned X D rest (Up (W (i + 1)))) (σ.set j (some v)) B) ∧ (∀ σ B, W xs.length σ B → SX X rest D σ B))
    (hN : X.N.Nodup := by exact FnScope.nd (by assumption)) (hi : X.N[j]? = some x := by rfl) (hx : Loc X.env.scope x := by first | exact Or.inl rfl | exact Or.inr rfl) (hf : X.fn x = true ∨ X.env.scope.names.lookup x = some .local := by first | exact .inl rfl | exact .inr rfl)
    (hp : PassesOwn (model X.prog X.w) X.A X.env X.xe := by exact PassesOwn.never) (hc : X.calm = true := by rfl) (hs : ∀ x, foldedSetIterable e X.env x = pure x := by intro _; rfl) : SX X (.For (.Name x p2) e body [] pos :: rest) D σ B :=
  sx_for hl (pg_name hN hi hx hf) (fun p B' d hq => by
    obtain ⟨W, w0, wl, ws, wd⟩ := k p B' d hq
    exact ⟨W, w0, wl, fun i v σ B hi w H x => ws i v σ B hi w H x, wd⟩) hp hc hs
/-- over a list made for it -/
theorem sx_forNew (j : Nat) {x : Str} {xs : List V} (hl : Ev X e σ B (newO B (.lst xs)))
    (k : ∀ p, B p = none → ∃ W : Nat → L2.St → Hp → Prop, W 0 σ (upd B p (.lst xs)) ∧ (∀ i σ B, W i σ B → B p = some (.lst xs)) ∧
      (∀ i v σ B, xs[i]? = some v → W i σ B → SX X body (Turned X D rest (Up (W (i + 1)))) (σ.set j (some v)) B) ∧ (∀ σ B, W xs.length σ B → SX X rest D σ B))
    (hN : X.N.Nodup := by exact FnScope.nd (by assumption)) (hi : X.N[j]? = some x := by rfl) (hx : Loc X.env.scope x := by first | exact Or.inl rfl | exact Or.inr rfl) (hf : X.fn x = true ∨ X.env.scope.names.lookup x = some .local := by first | exact .inl rfl | exact .inr rfl)
    (hp : PassesOwn (model X.prog X.w) X.A X.env X.xe := by exact PassesOwn.never) (hc : X.calm = true := by rfl) (hs : ∀ x, foldedSetIterable e X.env x = pure x := by intro _; rfl) : SX X (.For (.Name x p2) e body [] pos :: rest) D σ B :=
  sx_step (ps_for hp hc (pi_list (pe_s e)) (pg_name hN hi hx hf) (ps_s body) hs) fun H d => hl H d _ fun u H2 d2 ⟨p, z, fr, hq⟩ => by
    obtain ⟨W, w0, wl, ws, wd⟩ := k p fr
    refine ⟨p, z, ⟨xs, SqL.of hq⟩, for_list (xs := xs) (fun i σ H => Up (W i) σ H) ⟨_, (d.trans d2).put hq, w0⟩ (fun i σ H _ ⟨B1, x1, w1⟩ => SqL.of (x1.get (wl i σ B1 w1))) (fun i v σ H hi ⟨B1, x1, w1⟩ => ws i v σ B1 hi w1 H x1) (fun σ H ⟨B1, x1, w1⟩ => wd σ B1 w1 H x1)⟩
/-- for x in range(n) -/
theorem sx_range (j : Nat) {x : Str} {n : Int} {a : Expr} {rp cp : Pos} (hm : X.mg "range" = none) (ha : Ev X a σ B (isV (.int n))) (hn : -(2 ^ 62) ≤ n ∧ n < 2 ^ 62) (W : Nat → L2.St → Hp → Prop) (w0 : ∀ B', Ex B B' → W 0 σ B')
    (ws : ∀ (i : Nat) σ B, (i : Int) < n → W i σ B → SX X body (Turned X D rest (Up (W (i + 1)))) (σ.set j (some (.int (i : Int)))) B) (wd : ∀ σ B, W n.toNat σ B → SX X rest D σ B)
    (hN : X.N.Nodup := by exact FnScope.nd (by assumption)) (hi : X.N[j]? = some x := by rfl) (hx : Loc X.env.scope x := by first | exact Or.inl rfl | exact Or.inr rfl) (hf : X.fn x = true ∨ X.env.scope.names.lookup x = some .local := by first | exact .inl rfl | exact .inr rfl)
    (hp : PassesOwn (model X.prog X.w) X.A X.env X.xe := by exact PassesOwn.never) (hc : X.calm = true := by rfl) (hg : Gl X "range" := by rfl) (hst : starEach [a] X.env = [(false, eval a X.env)] := by rfl)
    (hs : ∀ x, foldedSetIterable (.Call (.Name "range" rp) [a] [] cp) X.env x = pure x := by intro _; rfl) : SX X (.For (.Name x p2) (.Call (.Name "range" rp) [a] [] cp) body [] pos :: rest) D σ B :=
  sx_step (ps_for hp hc (pi_range1 hg hm (pa_cons (pe_s a) pa_nil hst) hst) (pg_name hN hi hx hf) (ps_s body) hs) fun H d => ha H d _ fun u H2 d2 p2 => by
    have p2 : u = .int n := p2
    subst p2
    refine ⟨n, rfl, hn.1, hn.2, for_range (lo := 0) (n := n.toNat) (fun i σ H => Up (W i) σ H) ⟨H2, Ex.refl H2, w0 H2 (d.trans d2)⟩ (fun i σ H hi ⟨B1, x1, w1⟩ => ?_) (fun σ H ⟨B1, x1, w1⟩ => wd σ B1 w1 H x1)⟩
    have h := ws i σ B1 (by omega) w1 H x1
    have e0 : (0 : Int) + (i : Int) = (i : Int) := Int.zero_add _
    show sS X body _ (σ.set j (some (.int (0 + (i : Int))))) H
    rw [e0]
    exact h
theorem sx_while {t : Expr} (W : Nat → L2.St → Hp → Prop) (m : Nat) (w0 : W m σ B)
    (ws : ∀ m σ B, W m σ B → ∃ v, EvT X t σ B v ∧ (v = true → SX X body (Turned X D rest fun σ' H' => ∃ m', m' < m ∧ Up (W m') σ' H') σ B) ∧ (v = false → SX X rest D σ B))
    (hp : PassesOwn (model X.prog X.w) X.A X.env X.xe := by exact PassesOwn.never) : SX X (.While t body [] pos :: rest) D σ B :=
  sx_step (ps_while hp (pt_s t) (ps_s body)) fun H d => by
    refine ⟨fun m σ H => Up (W m) σ H, ⟨m, B, d, w0⟩, ?_⟩
    rintro m σ H ⟨B1, x1, w1⟩
    obtain ⟨v, h, h1, h2⟩ := ws m σ B1 w1
    refine h H x1 _ fun H2 d2 => ?_
    cases v with
    | true => exact iteT ⟨fun σ' H' => ∃ m', m' < m ∧ Up (W m') σ' H', fun _ _ z => z, h1 rfl H2 (x1.trans d2)⟩
    | false => exact iteF (h2 rfl H2 (x1.trans d2))
end

/-! ### list comprehensions: one for over a list, a test or none -/
def keepF (f : V → Bool) (g : V → V) (xs : List V) : List V := (xs.filter f).map g
theorem keepF_snoc (f : V → Bool) (g : V → V) (xs : List V) (x : V) : keepF f g (xs ++ [x]) = if f x = true then keepF f g xs ++ [g x] else keepF f g xs := by
  unfold keepF
  rw [List.filter_append, List.map_append]
  by_cases h : f x = true
  · rw [if_pos h, List.filter_cons, if_pos h]
    rfl
  · rw [if_neg h, List.filter_cons, if_neg h]
    show _ ++ [] = _
    rw [List.append_nil]
theorem keepF_len (f : V → Bool) (g : V → V) (xs : List V) : (keepF f g xs).length ≤ xs.length := by
  unfold keepF
  rw [List.length_map]
  exact List.length_filter_le f xs
section
variable {X : Cx} {σ : L2.St} {B : Hp} {a e t elt iter : Expr} {pos px : Pos} {scope : Scope} {x : Str} {j : Nat} {f : V → Bool} {g : V → V} {xs : List V}
abbrev Blk (X : Cx) (scope : Scope) (s : Shared) (H : Hp) (C : Addr) (cl : List (Str × Addr)) (fp : List Addr) : Cx := X.blk s H scope (compEnvC scope cl C X.env) fp
theorem take_snoc {α : Type} {l : List α} {i : Nat} {v : α} (h : l[i]? = some v) : l.take (i + 1) = l.take i ++ [v] := by
  obtain ⟨hi, e⟩ := List.getElem?_eq_some_iff.mp h
  rw [List.take_succ, h]
  rfl
/-- the turns of a comprehension -/
theorem lc_turns {te : TE} {tt : TT} {H1 H0 : Hp} {σ2 : L2.St} {D : Addr} {i : Nat} {v : V} {Q : Hp → Prop} (x0 : Ex H1 H0) (n1 : H1 D = none) (hD : H0 D = some (.lst (keepF f g (xs.take i)))) (hi : xs[i]? = some v) (hz : xs.length ≤ 100000)
    (ht : ∀ H, Ex H1 H → ∀ Q : Bool → Hp → Prop, (∀ H2, Ex H H2 → Q (f v) H2) → tt σ2 H Q) (he : f v = true → ∀ H, Ex H1 H → ∀ Q : VK, Ret (isV (g v)) H Q → te σ2 H Q)
    (q : ∀ H, Ex H1 H → H D = some (.lst (keepF f g (xs.take (i + 1)))) → Q H) :
    tt σ2 H0 fun b H3 => if b = true then te σ2 H3 fun y H4 => ∃ acc, H4 D = some (.lst acc) ∧ acc.length < sizeLine ∧ Q (upd H4 D (.lst (acc ++ [y]))) else Q H3 := by
  refine ht H0 x0 _ fun H3 d3 => ?_
  have h3 : H3 D = some (.lst (keepF f g (xs.take i))) := d3.get hD
  have sn := keepF_snoc f g (xs.take i) v
  rw [← take_snoc hi] at sn
  cases hf : f v with
  | true =>
    rw [hf, if_pos rfl] at sn
    refine iteT (he hf H3 (x0.trans d3) _ fun y H4 d4 p4 => ?_)
    have p4 : y = g v := p4
    subst p4
    refine ⟨_, d4.get h3, ?_, q _ (((x0.trans d3).trans d4).mut n1) ?_⟩
    · have h1 := keepF_len f g (xs.take i)
      have h2 : (xs.take i).length ≤ xs.length := by
        rw [List.length_take]
        omega
      exact Nat.lt_of_le_of_lt (Nat.le_trans h1 (Nat.le_trans h2 hz)) (by decide)
    · rw [upd_same, sn]
  | false =>
    rw [hf, if_neg Bool.false_ne_true] at sn
    refine iteF (q H3 (x0.trans d3) ?_)
    rw [sn]
    exact h3
/-- [elt for x in iter if t] -/
theorem ev_lcIf (hl : Ev X iter σ B (seqL X.K xs)) (hz : xs.length ≤ 100000) (hj : X.N[j]? = some x) (hw : ∀ v, wipe ((wipe σ [j]).set j (some v)) [j] = wipe σ [j])
    (ht : ∀ s H C cl fp v, v ∈ xs → ∀ B1, Ex B B1 → EvT (Blk X scope s H C cl fp) t ((wipe σ [j]).set j (some v)) B1 (f v)) (he : ∀ s H C cl fp v, v ∈ xs → f v = true → ∀ B1, Ex B B1 → Ev (Blk X scope s H C cl fp) elt ((wipe σ [j]).set j (some v)) B1 (isV (g v)))
    (ok : blkC X.N X.env.scope scope [(x, j)] = true := by decide +kernel) (hN : X.N.Nodup := by exact FnScope.nd (by assumption)) (hc : X.calm = true := by rfl)
    (hx : ∀ s H C cl fp, Loc (Blk X scope s H C cl fp).env.scope x := by first | exact fun _ _ _ _ _ => Or.inl rfl | exact fun _ _ _ _ _ => Or.inr rfl)
    (hf : ∀ s H C cl fp, (Blk X scope s H C cl fp).fn x = true ∨ (Blk X scope s H C cl fp).env.scope.names.lookup x = some .local := by first | exact fun _ _ _ _ _ => .inr rfl | exact fun _ _ _ _ _ => .inl rfl)
    (hs : ∀ x, foldedSetIterable iter X.env x = pure x := by intro _; rfl) :
    Ev X (.ListComp elt [⟨.Name x px, iter, [t], 0⟩] scope pos) σ B (newO B (.lst (keepF f g xs))) := by
  -- the block's readings: whatever frame it runs in
  let tt : TT := fun σ H Q => ∀ s H0 C cl fp, sT (Blk X scope s H0 C cl fp) t σ H Q
  let te : TE := fun σ H Q => ∀ s H0 C cl fp, sE (Blk X scope s H0 C cl fp) elt σ H Q
  refine ev_of (pe_lc (own := [(x, j)]) (g := gName j) (tt := tt) (te := te) hc hN (pi_list (pe_s iter)) (blkOk_by ok) (fun s H C cl fp => pg_name hN hj (hx s H C cl fp) (hf s H C cl fp)) (fun s H C cl fp => pts_one ⟨fun pins s1 σ1 H1 Q I h => h s H C cl fp pins s1 I⟩)
    (fun s H C cl fp => ⟨fun pins s1 σ1 H1 Q I h => h s H C cl fp pins s1 I⟩) hs) fun H d Q q => ?_
  refine hl H d _ fun u H1 d1 ⟨p, z, hp⟩ => ⟨p, z, ⟨xs, hp⟩, fun D hD => ?_⟩
  refine lc_list (xs := xs) (fun i H' => Ex H1 H' ∧ H' D = some (.lst (keepF f g (xs.take i)))) ⟨Ex.new hD, upd_same⟩ (fun i H' _ w => w.1.seqL hp) (fun i v H' hi w => ⟨hw v, ?_⟩) (fun H' w => ?_)
  · refine lc_turns (te := te) (tt := tt) (σ2 := (wipe σ [j]).set j (some v)) (xs := xs) (H1 := H1) w.1 hD w.2 hi hz (fun H2 x2 Q2 q2 s H0 C cl fp => ht s H0 C cl fp v (List.mem_of_getElem? hi) H1 (d.trans d1) H2 x2 Q2 q2)
      (fun hv H2 x2 Q2 q2 s H0 C cl fp => he s H0 C cl fp v (List.mem_of_getElem? hi) hv H1 (d.trans d1) H2 x2 Q2 q2) (fun H2 x2 h2 => ⟨x2, h2⟩)
  · have h := w.2
    rw [List.take_length] at h
    exact q _ H' (d1.trans w.1) ⟨D, rfl, (d.trans d1).free hD, h⟩
/-- [elt for x in iter] -/
theorem ev_lc (hl : Ev X iter σ B (seqL X.K xs)) (hz : xs.length ≤ 100000) (hj : X.N[j]? = some x) (hw : ∀ v, wipe ((wipe σ [j]).set j (some v)) [j] = wipe σ [j])
    (he : ∀ s H C cl fp v, v ∈ xs → ∀ B1, Ex B B1 → Ev (Blk X scope s H C cl fp) elt ((wipe σ [j]).set j (some v)) B1 (isV (g v)))
    (ok : blkC X.N X.env.scope scope [(x, j)] = true := by decide +kernel) (hN : X.N.Nodup := by exact FnScope.nd (by assumption)) (hc : X.calm = true := by rfl)
    (hx : ∀ s H C cl fp, Loc (Blk X scope s H C cl fp).env.scope x := by first | exact fun _ _ _ _ _ => Or.inl rfl | exact fun _ _ _ _ _ => Or.inr rfl)
    (hf : ∀ s H C cl fp, (Blk X scope s H C cl fp).fn x = true ∨ (Blk X scope s H C cl fp).env.scope.names.lookup x = some .local := by first | exact fun _ _ _ _ _ => .inr rfl | exact fun _ _ _ _ _ => .inl rfl)
    (hs : ∀ x, foldedSetIterable iter X.env x = pure x := by intro _; rfl) :
    Ev X (.ListComp elt [⟨.Name x px, iter, [], 0⟩] scope pos) σ B (newO B (.lst (keepF (fun _ => true) g xs))) := by
  let te : TE := fun σ H Q => ∀ s H0 C cl fp, sE (Blk X scope s H0 C cl fp) elt σ H Q
  refine ev_of (pe_lc (own := [(x, j)]) (g := gName j) (tt := tYes) (te := te) hc hN (pi_list (pe_s iter)) (blkOk_by ok) (fun s H C cl fp => pg_name hN hj (hx s H C cl fp) (hf s H C cl fp)) (fun s H C cl fp => pts_nil)
    (fun s H C cl fp => ⟨fun pins s1 σ1 H1 Q I h => h s H C cl fp pins s1 I⟩) hs) fun H d Q q => ?_
  refine hl H d _ fun u H1 d1 ⟨p, z, hp⟩ => ⟨p, z, ⟨xs, hp⟩, fun D hD => ?_⟩
  refine lc_list (xs := xs) (fun i H' => Ex H1 H' ∧ H' D = some (.lst (keepF (fun _ => true) g (xs.take i)))) ⟨Ex.new hD, upd_same⟩ (fun i H' _ w => w.1.seqL hp) (fun i v H' hi w => ⟨hw v, ?_⟩) (fun H' w => ?_)
  · refine lc_turns (te := te) (tt := tYes) (σ2 := (wipe σ [j]).set j (some v)) (xs := xs) (H1 := H1) w.1 hD w.2 hi hz (f := fun _ => true) (fun H2 x2 Q2 q2 => q2 H2 (Ex.refl H2))
      (fun hv H2 x2 Q2 q2 s H0 C cl fp => he s H0 C cl fp v (List.mem_of_getElem? hi) H1 (d.trans d1) H2 x2 Q2 q2) (fun H2 x2 h2 => ⟨x2, h2⟩)
  · have h := w.2
    rw [List.take_length] at h
    exact q _ H' (d1.trans w.1) ⟨D, rfl, (d.trans d1).free hD, h⟩
end
end Z
set_option Elab.async false
set_option linter.all false
set_option maxRecDepth 100000
set_option maxHeartbeats 4000000
/-! what the head tells, fact by fact; the rule for a def. -/
namespace K24
open PySem PySem.Spec PyProof.Rows L2 Z
structure Says (K : PySem.W.Frag) (mg : Str → Option Value) (base : Heap) : Prop where
  kin : K.In base
  ns : base.Ns mainGlobals mg
  d : He.SaysD fa fn K
  more : exB K = true
  tab : ∀ p ∈ tf, GxR.TabB base mg (He.cT K p).1 (He.cT K p).2
  out : ∀ p ∈ tf, K.lookup (He.cT K p).2 = none
section
variable {K : PySem.W.Frag} {mg : Str → Option Value} {base : Heap} (c : Says K mg base)
include c
theorem glo_merged : mg "merged" = some (.ref (He.ga K "merged")) := He.glo_ok c.kin c.ns (c.d.fact 0 (f := .glo "merged") rfl)
theorem glo_is_name : mg "is_name" = some (.ref (He.ga K "is_name")) := He.glo_ok c.kin c.ns (c.d.fact 1 (f := .glo "is_name") rfl)
theorem glo_is_label : mg "is_label" = some (.ref (He.ga K "is_label")) := He.glo_ok c.kin c.ns (c.d.fact 2 (f := .glo "is_label") rfl)
theorem glo_unquoted : mg "unquoted" = some (.ref (He.ga K "unquoted")) := He.glo_ok c.kin c.ns (c.d.fact 3 (f := .glo "unquoted") rfl)
theorem glo_layer_of : mg "layer_of" = some (.ref (He.ga K "layer_of")) := He.glo_ok c.kin c.ns (c.d.fact 4 (f := .glo "layer_of") rfl)
theorem glo_between : mg "between" = some (.ref (He.ga K "between")) := He.glo_ok c.kin c.ns (c.d.fact 5 (f := .glo "between") rfl)
theorem glo_is_usable : mg "is_usable" = some (.ref (He.ga K "is_usable")) := He.glo_ok c.kin c.ns (c.d.fact 6 (f := .glo "is_usable") rfl)
theorem glo_is_focusable : mg "is_focusable" = some (.ref (He.ga K "is_focusable")) := He.glo_ok c.kin c.ns (c.d.fact 7 (f := .glo "is_focusable") rfl)
theorem glo_focusable_items : mg "focusable_items" = some (.ref (He.ga K "focusable_items")) := He.glo_ok c.kin c.ns (c.d.fact 8 (f := .glo "focusable_items") rfl)
theorem glo_composite_of : mg "composite_of" = some (.ref (He.ga K "composite_of")) := He.glo_ok c.kin c.ns (c.d.fact 9 (f := .glo "composite_of") rfl)
theorem glo_is_outer : mg "is_outer" = some (.ref (He.ga K "is_outer")) := He.glo_ok c.kin c.ns (c.d.fact 10 (f := .glo "is_outer") rfl)
theorem glo_outer_composites : mg "outer_composites" = some (.ref (He.ga K "outer_composites")) := He.glo_ok c.kin c.ns (c.d.fact 11 (f := .glo "outer_composites") rfl)
theorem glo_members : mg "members" = some (.ref (He.ga K "members")) := He.glo_ok c.kin c.ns (c.d.fact 12 (f := .glo "members") rfl)
theorem glo_place_of : mg "place_of" = some (.ref (He.ga K "place_of")) := He.glo_ok c.kin c.ns (c.d.fact 13 (f := .glo "place_of") rfl)
theorem glo_wrapped : mg "wrapped" = some (.ref (He.ga K "wrapped")) := He.glo_ok c.kin c.ns (c.d.fact 14 (f := .glo "wrapped") rfl)
theorem glo_moved : mg "moved" = some (.ref (He.ga K "moved")) := He.glo_ok c.kin c.ns (c.d.fact 15 (f := .glo "moved") rfl)
theorem glo_begins_with : mg "begins_with" = some (.ref (He.ga K "begins_with")) := He.glo_ok c.kin c.ns (c.d.fact 16 (f := .glo "begins_with") rfl)
theorem glo_found_by : mg "found_by" = some (.ref (He.ga K "found_by")) := He.glo_ok c.kin c.ns (c.d.fact 17 (f := .glo "found_by") rfl)
theorem glo_first_of : mg "first_of" = some (.ref (He.ga K "first_of")) := He.glo_ok c.kin c.ns (c.d.fact 18 (f := .glo "first_of") rfl)
theorem glo_new_tree : mg "new_tree" = some (.ref (He.ga K "new_tree")) := He.glo_ok c.kin c.ns (c.d.fact 19 (f := .glo "new_tree") rfl)
theorem glo_cut_off : mg "cut_off" = some (.ref (He.ga K "cut_off")) := He.glo_ok c.kin c.ns (c.d.fact 20 (f := .glo "cut_off") rfl)
theorem glo_info_of : mg "info_of" = some (.ref (He.ga K "info_of")) := He.glo_ok c.kin c.ns (c.d.fact 21 (f := .glo "info_of") rfl)
theorem glo_parse_outline : mg "parse_outline" = some (.ref (He.ga K "parse_outline")) := He.glo_ok c.kin c.ns (c.d.fact 22 (f := .glo "parse_outline") rfl)
theorem glo_done_as_move : mg "done_as_move" = some (.ref (He.ga K "done_as_move")) := He.glo_ok c.kin c.ns (c.d.fact 23 (f := .glo "done_as_move") rfl)
theorem glo_done : mg "done" = some (.ref (He.ga K "done")) := He.glo_ok c.kin c.ns (c.d.fact 24 (f := .glo "done") rfl)
theorem glo__law_cell : mg "_law_cell" = some (.ref (He.ga K "_law_cell")) := He.glo_ok c.kin c.ns (c.d.fact 25 (f := .glo "_law_cell") rfl)
theorem glo__law_draws : mg "_law_draws" = some (.ref (He.ga K "_law_draws")) := He.glo_ok c.kin c.ns (c.d.fact 26 (f := .glo "_law_draws") rfl)
theorem glo__law_rows : mg "_law_rows" = some (.ref (He.ga K "_law_rows")) := He.glo_ok c.kin c.ns (c.d.fact 27 (f := .glo "_law_rows") rfl)
theorem glo__law_outline : mg "_law_outline" = some (.ref (He.ga K "_law_outline")) := He.glo_ok c.kin c.ns (c.d.fact 28 (f := .glo "_law_outline") rfl)
theorem glo__law_tree : mg "_law_tree" = some (.ref (He.ga K "_law_tree")) := He.glo_ok c.kin c.ns (c.d.fact 29 (f := .glo "_law_tree") rfl)
theorem glo__law_up : mg "_law_up" = some (.ref (He.ga K "_law_up")) := He.glo_ok c.kin c.ns (c.d.fact 30 (f := .glo "_law_up") rfl)
theorem glo__law_layer : mg "_law_layer" = some (.ref (He.ga K "_law_layer")) := He.glo_ok c.kin c.ns (c.d.fact 31 (f := .glo "_law_layer") rfl)
theorem glo__law_inner : mg "_law_inner" = some (.ref (He.ga K "_law_inner")) := He.glo_ok c.kin c.ns (c.d.fact 32 (f := .glo "_law_inner") rfl)
theorem glo__law_items : mg "_law_items" = some (.ref (He.ga K "_law_items")) := He.glo_ok c.kin c.ns (c.d.fact 33 (f := .glo "_law_items") rfl)
theorem glo__law_composite : mg "_law_composite" = some (.ref (He.ga K "_law_composite")) := He.glo_ok c.kin c.ns (c.d.fact 34 (f := .glo "_law_composite") rfl)
theorem glo__law_composites : mg "_law_composites" = some (.ref (He.ga K "_law_composites")) := He.glo_ok c.kin c.ns (c.d.fact 35 (f := .glo "_law_composites") rfl)
theorem glo__law_members : mg "_law_members" = some (.ref (He.ga K "_law_members")) := He.glo_ok c.kin c.ns (c.d.fact 36 (f := .glo "_law_members") rfl)
theorem glo__law_begun : mg "_law_begun" = some (.ref (He.ga K "_law_begun")) := He.glo_ok c.kin c.ns (c.d.fact 37 (f := .glo "_law_begun") rfl)
theorem glo__law_focused : mg "_law_focused" = some (.ref (He.ga K "_law_focused")) := He.glo_ok c.kin c.ns (c.d.fact 38 (f := .glo "_law_focused") rfl)
theorem glo__law_path : mg "_law_path" = some (.ref (He.ga K "_law_path")) := He.glo_ok c.kin c.ns (c.d.fact 39 (f := .glo "_law_path") rfl)
theorem glo__law_focus : mg "_law_focus" = some (.ref (He.ga K "_law_focus")) := He.glo_ok c.kin c.ns (c.d.fact 40 (f := .glo "_law_focus") rfl)
theorem glo__law_within : mg "_law_within" = some (.ref (He.ga K "_law_within")) := He.glo_ok c.kin c.ns (c.d.fact 41 (f := .glo "_law_within") rfl)
theorem glo__law_typed : mg "_law_typed" = some (.ref (He.ga K "_law_typed")) := He.glo_ok c.kin c.ns (c.d.fact 42 (f := .glo "_law_typed") rfl)
theorem glo__law_why_not : mg "_law_why_not" = some (.ref (He.ga K "_law_why_not")) := He.glo_ok c.kin c.ns (c.d.fact 43 (f := .glo "_law_why_not") rfl)
theorem glo__law_modelled : mg "_law_modelled" = some (.ref (He.ga K "_law_modelled")) := He.glo_ok c.kin c.ns (c.d.fact 44 (f := .glo "_law_modelled") rfl)
theorem glo__law_did : mg "_law_did" = some (.ref (He.ga K "_law_did")) := He.glo_ok c.kin c.ns (c.d.fact 45 (f := .glo "_law_did") rfl)
theorem glo__law_is_it : mg "_law_is_it" = some (.ref (He.ga K "_law_is_it")) := He.glo_ok c.kin c.ns (c.d.fact 46 (f := .glo "_law_is_it") rfl)
theorem glo_law : mg "law" = some (.ref (He.ga K "law")) := He.glo_ok c.kin c.ns (c.d.fact 47 (f := .glo "law") rfl)
theorem glo_Turn : mg "Turn" = some (.ref (He.ga K "Turn")) := He.glo_ok c.kin c.ns (c.d.fact 48 (f := .glo "Turn") rfl)
theorem cls_Turn : Cls K (He.ga K "Turn") := He.cls_ok (c.d.fact 49 (f := .cls "Turn") rfl)
theorem mkr_Turn : Mk K (He.ga K "Turn") (He.ma K (He.ga K "Turn") "__init__") := He.mkr_ok (c.d.fact 50 (f := .mkr "Turn") rfl)
theorem glo_Announcements : mg "Announcements" = some (.ref (He.ga K "Announcements")) := He.glo_ok c.kin c.ns (c.d.fact 51 (f := .glo "Announcements") rfl)
theorem cls_Announcements : Cls K (He.ga K "Announcements") := He.cls_ok (c.d.fact 52 (f := .cls "Announcements") rfl)
theorem mkr_Announcements : Mk K (He.ga K "Announcements") (He.ma K (He.ga K "Announcements") "__init__") := He.mkr_ok (c.d.fact 53 (f := .mkr "Announcements") rfl)
theorem glo_Bindings : mg "Bindings" = some (.ref (He.ga K "Bindings")) := He.glo_ok c.kin c.ns (c.d.fact 54 (f := .glo "Bindings") rfl)
theorem cls_Bindings : Cls K (He.ga K "Bindings") := He.cls_ok (c.d.fact 55 (f := .cls "Bindings") rfl)
theorem mkr_Bindings : Mk K (He.ga K "Bindings") (He.ma K (He.ga K "Bindings") "__init__") := He.mkr_ok (c.d.fact 56 (f := .mkr "Bindings") rfl)
theorem glo_Layers : mg "Layers" = some (.ref (He.ga K "Layers")) := He.glo_ok c.kin c.ns (c.d.fact 57 (f := .glo "Layers") rfl)
theorem cls_Layers : Cls K (He.ga K "Layers") := He.cls_ok (c.d.fact 58 (f := .cls "Layers") rfl)
theorem mkr_Layers : Mk K (He.ga K "Layers") (He.ma K (He.ga K "Layers") "__init__") := He.mkr_ok (c.d.fact 59 (f := .mkr "Layers") rfl)
theorem glo_Node : mg "Node" = some (.ref (He.ga K "Node")) := He.glo_ok c.kin c.ns (c.d.fact 60 (f := .glo "Node") rfl)
theorem cls_Node : Cls K (He.ga K "Node") := He.cls_ok (c.d.fact 61 (f := .cls "Node") rfl)
theorem mkr_Node : Mk K (He.ga K "Node") (He.ma K (He.ga K "Node") "__init__") := He.mkr_ok (c.d.fact 62 (f := .mkr "Node") rfl)
theorem glo_Tree : mg "Tree" = some (.ref (He.ga K "Tree")) := He.glo_ok c.kin c.ns (c.d.fact 63 (f := .glo "Tree") rfl)
theorem cls_Tree : Cls K (He.ga K "Tree") := He.cls_ok (c.d.fact 64 (f := .cls "Tree") rfl)
theorem mkr_Tree : Mk K (He.ga K "Tree") (He.ma K (He.ga K "Tree") "__init__") := He.mkr_ok (c.d.fact 65 (f := .mkr "Tree") rfl)
theorem glo_Reader : mg "Reader" = some (.ref (He.ga K "Reader")) := He.glo_ok c.kin c.ns (c.d.fact 66 (f := .glo "Reader") rfl)
theorem cls_Reader : Cls K (He.ga K "Reader") := He.cls_ok (c.d.fact 67 (f := .cls "Reader") rfl)
theorem mkr_Reader : Mk K (He.ga K "Reader") (He.ma K (He.ga K "Reader") "__init__") := He.mkr_ok (c.d.fact 68 (f := .mkr "Reader") rfl)
theorem glo_Manager : mg "Manager" = some (.ref (He.ga K "Manager")) := He.glo_ok c.kin c.ns (c.d.fact 69 (f := .glo "Manager") rfl)
theorem cls_Manager : Cls K (He.ga K "Manager") := He.cls_ok (c.d.fact 70 (f := .cls "Manager") rfl)
theorem mkr_Manager : Mk K (He.ga K "Manager") (He.ma K (He.ga K "Manager") "__init__") := He.mkr_ok (c.d.fact 71 (f := .mkr "Manager") rfl)
theorem no_Turn_begin : NoAttr K (He.ga K "Turn") "begin" := He.noat_ok (c.d.fact 72 (f := .noat "Turn" "begin") rfl)
theorem no_Turn_end : NoAttr K (He.ga K "Turn") "end" := He.noat_ok (c.d.fact 73 (f := .noat "Turn" "end") rfl)
theorem no_Turn_steps : NoAttr K (He.ga K "Turn") "steps" := He.noat_ok (c.d.fact 74 (f := .noat "Turn" "steps") rfl)
theorem no_Announcements_rows : NoAttr K (He.ga K "Announcements") "rows" := He.noat_ok (c.d.fact 75 (f := .noat "Announcements" "rows") rfl)
theorem no_Announcements_last : NoAttr K (He.ga K "Announcements") "last" := He.noat_ok (c.d.fact 76 (f := .noat "Announcements" "last") rfl)
theorem no_Bindings_rows : NoAttr K (He.ga K "Bindings") "rows" := He.noat_ok (c.d.fact 77 (f := .noat "Bindings" "rows") rfl)
theorem no_Layers_tree : NoAttr K (He.ga K "Layers") "tree" := He.noat_ok (c.d.fact 78 (f := .noat "Layers" "tree") rfl)
theorem no_Layers_stack : NoAttr K (He.ga K "Layers") "stack" := He.noat_ok (c.d.fact 79 (f := .noat "Layers" "stack") rfl)
theorem no_Layers_openings : NoAttr K (He.ga K "Layers") "openings" := He.noat_ok (c.d.fact 80 (f := .noat "Layers" "openings") rfl)
theorem no_Layers_opened : NoAttr K (He.ga K "Layers") "opened" := He.noat_ok (c.d.fact 81 (f := .noat "Layers" "opened") rfl)
theorem no_Layers_current : NoAttr K (He.ga K "Layers") "current" := He.noat_ok (c.d.fact 82 (f := .noat "Layers" "current") rfl)
theorem no_Layers_roving : NoAttr K (He.ga K "Layers") "roving" := He.noat_ok (c.d.fact 83 (f := .noat "Layers" "roving") rfl)
theorem no_Node_kind : NoAttr K (He.ga K "Node") "kind" := He.noat_ok (c.d.fact 84 (f := .noat "Node" "kind") rfl)
theorem no_Node_label : NoAttr K (He.ga K "Node") "label" := He.noat_ok (c.d.fact 85 (f := .noat "Node" "label") rfl)
theorem no_Node_visible : NoAttr K (He.ga K "Node") "visible" := He.noat_ok (c.d.fact 86 (f := .noat "Node" "visible") rfl)
theorem no_Node_enabled : NoAttr K (He.ga K "Node") "enabled" := He.noat_ok (c.d.fact 87 (f := .noat "Node" "enabled") rfl)
theorem no_Node_parent : NoAttr K (He.ga K "Node") "parent" := He.noat_ok (c.d.fact 88 (f := .noat "Node" "parent") rfl)
theorem no_Node_children : NoAttr K (He.ga K "Node") "children" := He.noat_ok (c.d.fact 89 (f := .noat "Node" "children") rfl)
theorem no_Tree_nodes : NoAttr K (He.ga K "Tree") "nodes" := He.noat_ok (c.d.fact 90 (f := .noat "Tree" "nodes") rfl)
theorem no_Reader_tree : NoAttr K (He.ga K "Reader") "tree" := He.noat_ok (c.d.fact 91 (f := .noat "Reader" "tree") rfl)
theorem no_Reader_path : NoAttr K (He.ga K "Reader") "path" := He.noat_ok (c.d.fact 92 (f := .noat "Reader" "path") rfl)
theorem no_Manager_tree : NoAttr K (He.ga K "Manager") "tree" := He.noat_ok (c.d.fact 93 (f := .noat "Manager" "tree") rfl)
theorem no_Manager_layers : NoAttr K (He.ga K "Manager") "layers" := He.noat_ok (c.d.fact 94 (f := .noat "Manager" "layers") rfl)
theorem no_Manager_keymap : NoAttr K (He.ga K "Manager") "keymap" := He.noat_ok (c.d.fact 95 (f := .noat "Manager" "keymap") rfl)
theorem no_Manager_waiting : NoAttr K (He.ga K "Manager") "waiting" := He.noat_ok (c.d.fact 96 (f := .noat "Manager" "waiting") rfl)
theorem no_Manager_announcements : NoAttr K (He.ga K "Manager") "announcements" := He.noat_ok (c.d.fact 97 (f := .noat "Manager" "announcements") rfl)
theorem me_Announcements_tell : Meth K (He.ga K "Announcements") "tell" (He.ma K (He.ga K "Announcements") "tell") := He.meth_ok (c.d.fact 98 (f := .meth "Announcements" "tell") rfl)
theorem me_Layers_top : Meth K (He.ga K "Layers") "top" (He.ma K (He.ga K "Layers") "top") := He.meth_ok (c.d.fact 99 (f := .meth "Layers" "top") rfl)
theorem me_Layers_focused : Meth K (He.ga K "Layers") "focused" (He.ma K (He.ga K "Layers") "focused") := He.meth_ok (c.d.fact 100 (f := .meth "Layers" "focused") rfl)
theorem me_Layers_focus_path : Meth K (He.ga K "Layers") "focus_path" (He.ma K (He.ga K "Layers") "focus_path") := He.meth_ok (c.d.fact 101 (f := .meth "Layers" "focus_path") rfl)
theorem me_Layers_focus : Meth K (He.ga K "Layers") "focus" (He.ma K (He.ga K "Layers") "focus") := He.meth_ok (c.d.fact 102 (f := .meth "Layers" "focus") rfl)
theorem me_Layers_rove : Meth K (He.ga K "Layers") "rove" (He.ma K (He.ga K "Layers") "rove") := He.meth_ok (c.d.fact 103 (f := .meth "Layers" "rove") rfl)
theorem me_Tree_has : Meth K (He.ga K "Tree") "has" (He.ma K (He.ga K "Tree") "has") := He.meth_ok (c.d.fact 104 (f := .meth "Tree" "has") rfl)
theorem me_Tree_kind : Meth K (He.ga K "Tree") "kind" (He.ma K (He.ga K "Tree") "kind") := He.meth_ok (c.d.fact 105 (f := .meth "Tree" "kind") rfl)
theorem me_Tree_label : Meth K (He.ga K "Tree") "label" (He.ma K (He.ga K "Tree") "label") := He.meth_ok (c.d.fact 106 (f := .meth "Tree" "label") rfl)
theorem me_Tree_is_visible : Meth K (He.ga K "Tree") "is_visible" (He.ma K (He.ga K "Tree") "is_visible") := He.meth_ok (c.d.fact 107 (f := .meth "Tree" "is_visible") rfl)
theorem me_Tree_is_enabled : Meth K (He.ga K "Tree") "is_enabled" (He.ma K (He.ga K "Tree") "is_enabled") := He.meth_ok (c.d.fact 108 (f := .meth "Tree" "is_enabled") rfl)
theorem me_Tree_children : Meth K (He.ga K "Tree") "children" (He.ma K (He.ga K "Tree") "children") := He.meth_ok (c.d.fact 109 (f := .meth "Tree" "children") rfl)
theorem me_Tree_ancestors : Meth K (He.ga K "Tree") "ancestors" (He.ma K (He.ga K "Tree") "ancestors") := He.meth_ok (c.d.fact 110 (f := .meth "Tree" "ancestors") rfl)
theorem me_Tree_depth : Meth K (He.ga K "Tree") "depth" (He.ma K (He.ga K "Tree") "depth") := He.meth_ok (c.d.fact 111 (f := .meth "Tree" "depth") rfl)
theorem me_Tree_subtree : Meth K (He.ga K "Tree") "subtree" (He.ma K (He.ga K "Tree") "subtree") := He.meth_ok (c.d.fact 112 (f := .meth "Tree" "subtree") rfl)
theorem me_Tree_names : Meth K (He.ga K "Tree") "names" (He.ma K (He.ga K "Tree") "names") := He.meth_ok (c.d.fact 113 (f := .meth "Tree" "names") rfl)
theorem me_Tree_need : Meth K (He.ga K "Tree") "need" (He.ma K (He.ga K "Tree") "need") := He.meth_ok (c.d.fact 114 (f := .meth "Tree" "need") rfl)
theorem me_Tree_need_inner : Meth K (He.ga K "Tree") "need_inner" (He.ma K (He.ga K "Tree") "need_inner") := He.meth_ok (c.d.fact 115 (f := .meth "Tree" "need_inner") rfl)
theorem me_Tree_need_place : Meth K (He.ga K "Tree") "need_place" (He.ma K (He.ga K "Tree") "need_place") := He.meth_ok (c.d.fact 116 (f := .meth "Tree" "need_place") rfl)
theorem me_Tree_insert : Meth K (He.ga K "Tree") "insert" (He.ma K (He.ga K "Tree") "insert") := He.meth_ok (c.d.fact 117 (f := .meth "Tree" "insert") rfl)
theorem me_Tree_set_flag : Meth K (He.ga K "Tree") "set_flag" (He.ma K (He.ga K "Tree") "set_flag") := He.meth_ok (c.d.fact 118 (f := .meth "Tree" "set_flag") rfl)
theorem me_Reader_read_root : Meth K (He.ga K "Reader") "read_root" (He.ma K (He.ga K "Reader") "read_root") := He.meth_ok (c.d.fact 119 (f := .meth "Reader" "read_root") rfl)
theorem me_Reader_can_be : Meth K (He.ga K "Reader") "can_be" (He.ma K (He.ga K "Reader") "can_be") := He.meth_ok (c.d.fact 120 (f := .meth "Reader" "can_be") rfl)
theorem me_Reader_read : Meth K (He.ga K "Reader") "read" (He.ma K (He.ga K "Reader") "read") := He.meth_ok (c.d.fact 121 (f := .meth "Reader" "read") rfl)
theorem me_Manager_told : Meth K (He.ga K "Manager") "told" (He.ma K (He.ga K "Manager") "told") := He.meth_ok (c.d.fact 122 (f := .meth "Manager" "told") rfl)
theorem me_Manager_settled : Meth K (He.ga K "Manager") "settled" (He.ma K (He.ga K "Manager") "settled") := He.meth_ok (c.d.fact 123 (f := .meth "Manager" "settled") rfl)
theorem me_Manager_need : Meth K (He.ga K "Manager") "need" (He.ma K (He.ga K "Manager") "need") := He.meth_ok (c.d.fact 124 (f := .meth "Manager" "need") rfl)
theorem me_Manager_need_kind : Meth K (He.ga K "Manager") "need_kind" (He.ma K (He.ga K "Manager") "need_kind") := He.meth_ok (c.d.fact 125 (f := .meth "Manager" "need_kind") rfl)
theorem me_Manager_current_item : Meth K (He.ga K "Manager") "current_item" (He.ma K (He.ga K "Manager") "current_item") := He.meth_ok (c.d.fact 126 (f := .meth "Manager" "current_item") rfl)
theorem me_Manager_layer_item : Meth K (He.ga K "Manager") "layer_item" (He.ma K (He.ga K "Manager") "layer_item") := He.meth_ok (c.d.fact 127 (f := .meth "Manager" "layer_item") rfl)
theorem me_Manager_focused : Meth K (He.ga K "Manager") "focused" (He.ma K (He.ga K "Manager") "focused") := He.meth_ok (c.d.fact 128 (f := .meth "Manager" "focused") rfl)
theorem me_Manager_focus_path : Meth K (He.ga K "Manager") "focus_path" (He.ma K (He.ga K "Manager") "focus_path") := He.meth_ok (c.d.fact 129 (f := .meth "Manager" "focus_path") rfl)
theorem me_Manager_open_layers : Meth K (He.ga K "Manager") "open_layers" (He.ma K (He.ga K "Manager") "open_layers") := He.meth_ok (c.d.fact 130 (f := .meth "Manager" "open_layers") rfl)
theorem me_Manager_has_composite : Meth K (He.ga K "Manager") "has_composite" (He.ma K (He.ga K "Manager") "has_composite") := He.meth_ok (c.d.fact 131 (f := .meth "Manager" "has_composite") rfl)
theorem me_Manager_go : Meth K (He.ga K "Manager") "go" (He.ma K (He.ga K "Manager") "go") := He.meth_ok (c.d.fact 132 (f := .meth "Manager" "go") rfl)
theorem me_Manager_within : Meth K (He.ga K "Manager") "within" (He.ma K (He.ga K "Manager") "within") := He.meth_ok (c.d.fact 133 (f := .meth "Manager" "within") rfl)
theorem me_Manager_next_item : Meth K (He.ga K "Manager") "next_item" (He.ma K (He.ga K "Manager") "next_item") := He.meth_ok (c.d.fact 134 (f := .meth "Manager" "next_item") rfl)
theorem me_Manager_previous_item : Meth K (He.ga K "Manager") "previous_item" (He.ma K (He.ga K "Manager") "previous_item") := He.meth_ok (c.d.fact 135 (f := .meth "Manager" "previous_item") rfl)
theorem me_Manager_first_item : Meth K (He.ga K "Manager") "first_item" (He.ma K (He.ga K "Manager") "first_item") := He.meth_ok (c.d.fact 136 (f := .meth "Manager" "first_item") rfl)
theorem me_Manager_last_item : Meth K (He.ga K "Manager") "last_item" (He.ma K (He.ga K "Manager") "last_item") := He.meth_ok (c.d.fact 137 (f := .meth "Manager" "last_item") rfl)
theorem me_Manager_typeahead : Meth K (He.ga K "Manager") "typeahead" (He.ma K (He.ga K "Manager") "typeahead") := He.meth_ok (c.d.fact 138 (f := .meth "Manager" "typeahead") rfl)
theorem me_Manager_need_target : Meth K (He.ga K "Manager") "need_target" (He.ma K (He.ga K "Manager") "need_target") := He.meth_ok (c.d.fact 139 (f := .meth "Manager" "need_target") rfl)
theorem me_Manager_focus : Meth K (He.ga K "Manager") "focus" (He.ma K (He.ga K "Manager") "focus") := He.meth_ok (c.d.fact 140 (f := .meth "Manager" "focus") rfl)
theorem int_NODES_MOST : ∃ t, mg "NODES_MOST" = some (.int 60 t) := He.int_ok c.kin c.ns (c.d.fact 141 (f := .int "NODES_MOST" 60) rfl)
theorem int_DEPTH_MOST : ∃ t, mg "DEPTH_MOST" = some (.int 8 t) := He.int_ok c.kin c.ns (c.d.fact 142 (f := .int "DEPTH_MOST" 8) rfl)
theorem int_NAME_MOST : ∃ t, mg "NAME_MOST" = some (.int 8 t) := He.int_ok c.kin c.ns (c.d.fact 143 (f := .int "NAME_MOST" 8) rfl)
theorem int_LABEL_MOST : ∃ t, mg "LABEL_MOST" = some (.int 40 t) := He.int_ok c.kin c.ns (c.d.fact 144 (f := .int "LABEL_MOST" 40) rfl)
theorem str_NAME_SIGNS : ∃ t, mg "NAME_SIGNS" = some (.str "abcdefghijklmnopqrstuvwxyz0123456789._-" t) := He.str_ok c.kin c.ns (c.d.fact 145 (f := .str "NAME_SIGNS" "abcdefghijklmnopqrstuvwxyz0123456789._-") rfl)
theorem str_ROOT_layers : ∃ t, mg "ROOT_layers" = some (.str "root" t) := He.str_ok c.kin c.ns (c.d.fact 146 (f := .str "ROOT_layers" "root") rfl)
theorem str_ROOT_tree : ∃ t, mg "ROOT_tree" = some (.str "root" t) := He.str_ok c.kin c.ns (c.d.fact 147 (f := .str "ROOT_tree" "root") rfl)
theorem str_HIDDEN : ∃ t, mg "HIDDEN" = some (.str " hidden" t) := He.str_ok c.kin c.ns (c.d.fact 148 (f := .str "HIDDEN" " hidden") rfl)
theorem str_DISABLED : ∃ t, mg "DISABLED" = some (.str " disabled" t) := He.str_ok c.kin c.ns (c.d.fact 149 (f := .str "DISABLED" " disabled") rfl)
theorem glo_COMPOSITES : mg "COMPOSITES" = some (.ref (He.ga K "COMPOSITES")) := He.glo_ok c.kin c.ns (c.d.fact 150 (f := .glo "COMPOSITES") rfl)
theorem glo_KINDS : mg "KINDS" = some (.ref (He.ga K "KINDS")) := He.glo_ok c.kin c.ns (c.d.fact 151 (f := .glo "KINDS") rfl)
theorem glo_TREE_DEEDS : mg "TREE_DEEDS" = some (.ref (He.ga K "TREE_DEEDS")) := He.glo_ok c.kin c.ns (c.d.fact 152 (f := .glo "TREE_DEEDS") rfl)
theorem glo_MOVES : mg "MOVES" = some (.ref (He.ga K "MOVES")) := He.glo_ok c.kin c.ns (c.d.fact 153 (f := .glo "MOVES") rfl)
theorem free_isinstance : mg "isinstance" = none := He.free_ok c.kin c.ns (c.d.fact 154 (f := .free "isinstance") rfl)
theorem free_all : mg "all" = none := He.free_ok c.kin c.ns (c.d.fact 155 (f := .free "all") rfl)
theorem free_len : mg "len" = none := He.free_ok c.kin c.ns (c.d.fact 156 (f := .free "len") rfl)
theorem free_list : mg "list" = none := He.free_ok c.kin c.ns (c.d.fact 157 (f := .free "list") rfl)
theorem free_tuple : mg "tuple" = none := He.free_ok c.kin c.ns (c.d.fact 158 (f := .free "tuple") rfl)
theorem free_enumerate : mg "enumerate" = none := He.free_ok c.kin c.ns (c.d.fact 159 (f := .free "enumerate") rfl)
theorem free_max : mg "max" = none := He.free_ok c.kin c.ns (c.d.fact 160 (f := .free "max") rfl)
theorem free_min : mg "min" = none := He.free_ok c.kin c.ns (c.d.fact 161 (f := .free "min") rfl)
theorem free_range : mg "range" = none := He.free_ok c.kin c.ns (c.d.fact 162 (f := .free "range") rfl)
theorem free_str : mg "str" = none := He.free_ok c.kin c.ns (c.d.fact 163 (f := .free "str") rfl)
theorem moreB : insB K "Turn" = true ∧ He.tupB K "COMPOSITES" tv_COMPOSITES = true ∧ He.tupB K "KINDS" tv_KINDS = true ∧ He.tupB K "TREE_DEEDS" tv_TREE_DEEDS = true ∧ He.tupB K "MOVES" tv_MOVES = true := by
  have h := c.more
  unfold exB at h
  simp only [Bool.and_eq_true, and_assoc] at h
  exact h
theorem ins_Turn : C8.InsC K (He.ga K "Turn") := by
  have h := (moreB c).1
  unfold insB at h
  rw [Bool.and_eq_true, Bool.and_eq_true, Bool.and_eq_true, Bool.and_eq_true] at h
  obtain ⟨h1, h2, h3, h4, h5⟩ := h
  exact ⟨cls_Turn c, He.eqO_ok h1, He.eqO_ok h2, of_decide_eq_true h3, of_decide_eq_true h4, of_decide_eq_true h5⟩
theorem tups : He.tupB K "COMPOSITES" tv_COMPOSITES = true ∧ He.tupB K "KINDS" tv_KINDS = true ∧ He.tupB K "TREE_DEEDS" tv_TREE_DEEDS = true ∧ He.tupB K "MOVES" tv_MOVES = true := (moreB c).2
theorem tup_COMPOSITES (H : Hp) : SqT K H (He.ga K "COMPOSITES") (tv_COMPOSITES.map (He.Dv.v K)) := He.tupB_ok (tups c).1 H
theorem tup_KINDS (H : Hp) : SqT K H (He.ga K "KINDS") (tv_KINDS.map (He.Dv.v K)) := He.tupB_ok (tups c).2.1 H
theorem tup_TREE_DEEDS (H : Hp) : SqT K H (He.ga K "TREE_DEEDS") (tv_TREE_DEEDS.map (He.Dv.v K)) := He.tupB_ok (tups c).2.2.1 H
theorem tup_MOVES (H : Hp) : SqT K H (He.ga K "MOVES") (tv_MOVES.map (He.Dv.v K)) := He.tupB_ok (tups c).2.2.2 H
theorem fn_Turn_init : ∃ fd, FunD K "__init__" "Turn.__init__" (defArgs (inClass (top 9) 0)) (defBody (inClass (top 9) 0)) (defScope (inClass (top 9) 0)) [] [] (He.ma K (He.ga K "Turn") "__init__") fd := c.d.def_ 0 (d := ⟨("Turn", some "__init__"), "__init__", "Turn.__init__", defArgs (inClass (top 9) 0), defBody (inClass (top 9) 0), defScope (inClass (top 9) 0), [], []⟩) rfl
theorem fn_merged : ∃ fd, FunD K "merged" "merged" (defArgs (top 10)) (defBody (top 10)) (defScope (top 10)) [] [] (He.ga K "merged") fd := c.d.def_ 1 (d := ⟨("merged", none), "merged", "merged", defArgs (top 10), defBody (top 10), defScope (top 10), [], []⟩) rfl
theorem fn_Announcements_init : ∃ fd, FunD K "__init__" "Announcements.__init__" (defArgs (inClass (top 11) 0)) (defBody (inClass (top 11) 0)) (defScope (inClass (top 11) 0)) [] [] (He.ma K (He.ga K "Announcements") "__init__") fd := c.d.def_ 2 (d := ⟨("Announcements", some "__init__"), "__init__", "Announcements.__init__", defArgs (inClass (top 11) 0), defBody (inClass (top 11) 0), defScope (inClass (top 11) 0), [], []⟩) rfl
theorem fn_Announcements_tell : ∃ fd, FunD K "tell" "Announcements.tell" (defArgs (inClass (top 11) 1)) (defBody (inClass (top 11) 1)) (defScope (inClass (top 11) 1)) [] [] (He.ma K (He.ga K "Announcements") "tell") fd := c.d.def_ 3 (d := ⟨("Announcements", some "tell"), "tell", "Announcements.tell", defArgs (inClass (top 11) 1), defBody (inClass (top 11) 1), defScope (inClass (top 11) 1), [], []⟩) rfl
theorem fn_Bindings_init : ∃ fd, FunD K "__init__" "Bindings.__init__" (defArgs (inClass (top 28) 0)) (defBody (inClass (top 28) 0)) (defScope (inClass (top 28) 0)) [] [] (He.ma K (He.ga K "Bindings") "__init__") fd := c.d.def_ 4 (d := ⟨("Bindings", some "__init__"), "__init__", "Bindings.__init__", defArgs (inClass (top 28) 0), defBody (inClass (top 28) 0), defScope (inClass (top 28) 0), [], []⟩) rfl
theorem fn_is_name : ∃ fd, FunD K "is_name" "is_name" (defArgs (top 33)) (defBody (top 33)) (defScope (top 33)) [] [] (He.ga K "is_name") fd := c.d.def_ 5 (d := ⟨("is_name", none), "is_name", "is_name", defArgs (top 33), defBody (top 33), defScope (top 33), [], []⟩) rfl
theorem fn_is_label : ∃ fd, FunD K "is_label" "is_label" (defArgs (top 34)) (defBody (top 34)) (defScope (top 34)) [] [] (He.ga K "is_label") fd := c.d.def_ 6 (d := ⟨("is_label", none), "is_label", "is_label", defArgs (top 34), defBody (top 34), defScope (top 34), [], []⟩) rfl
theorem fn_unquoted : ∃ fd, FunD K "unquoted" "unquoted" (defArgs (top 36)) (defBody (top 36)) (defScope (top 36)) [] [] (He.ga K "unquoted") fd := c.d.def_ 7 (d := ⟨("unquoted", none), "unquoted", "unquoted", defArgs (top 36), defBody (top 36), defScope (top 36), [], []⟩) rfl
theorem fn_layer_of : ∃ fd, FunD K "layer_of" "layer_of" (defArgs (top 43)) (defBody (top 43)) (defScope (top 43)) [] [] (He.ga K "layer_of") fd := c.d.def_ 8 (d := ⟨("layer_of", none), "layer_of", "layer_of", defArgs (top 43), defBody (top 43), defScope (top 43), [], []⟩) rfl
theorem fn_between : ∃ fd, FunD K "between" "between" (defArgs (top 44)) (defBody (top 44)) (defScope (top 44)) [] [] (He.ga K "between") fd := c.d.def_ 9 (d := ⟨("between", none), "between", "between", defArgs (top 44), defBody (top 44), defScope (top 44), [], []⟩) rfl
theorem fn_is_usable : ∃ fd, FunD K "is_usable" "is_usable" (defArgs (top 45)) (defBody (top 45)) (defScope (top 45)) [] [] (He.ga K "is_usable") fd := c.d.def_ 10 (d := ⟨("is_usable", none), "is_usable", "is_usable", defArgs (top 45), defBody (top 45), defScope (top 45), [], []⟩) rfl
theorem fn_is_focusable : ∃ fd, FunD K "is_focusable" "is_focusable" (defArgs (top 46)) (defBody (top 46)) (defScope (top 46)) [] [] (He.ga K "is_focusable") fd := c.d.def_ 11 (d := ⟨("is_focusable", none), "is_focusable", "is_focusable", defArgs (top 46), defBody (top 46), defScope (top 46), [], []⟩) rfl
theorem fn_focusable_items : ∃ fd, FunD K "focusable_items" "focusable_items" (defArgs (top 47)) (defBody (top 47)) (defScope (top 47)) [] [] (He.ga K "focusable_items") fd := c.d.def_ 12 (d := ⟨("focusable_items", none), "focusable_items", "focusable_items", defArgs (top 47), defBody (top 47), defScope (top 47), [], []⟩) rfl
theorem fn_composite_of : ∃ fd, FunD K "composite_of" "composite_of" (defArgs (top 50)) (defBody (top 50)) (defScope (top 50)) [] [] (He.ga K "composite_of") fd := c.d.def_ 13 (d := ⟨("composite_of", none), "composite_of", "composite_of", defArgs (top 50), defBody (top 50), defScope (top 50), [], []⟩) rfl
theorem fn_is_outer : ∃ fd, FunD K "is_outer" "is_outer" (defArgs (top 51)) (defBody (top 51)) (defScope (top 51)) [] [] (He.ga K "is_outer") fd := c.d.def_ 14 (d := ⟨("is_outer", none), "is_outer", "is_outer", defArgs (top 51), defBody (top 51), defScope (top 51), [], []⟩) rfl
theorem fn_outer_composites : ∃ fd, FunD K "outer_composites" "outer_composites" (defArgs (top 52)) (defBody (top 52)) (defScope (top 52)) [] [] (He.ga K "outer_composites") fd := c.d.def_ 15 (d := ⟨("outer_composites", none), "outer_composites", "outer_composites", defArgs (top 52), defBody (top 52), defScope (top 52), [], []⟩) rfl
theorem fn_members : ∃ fd, FunD K "members" "members" (defArgs (top 53)) (defBody (top 53)) (defScope (top 53)) [] [] (He.ga K "members") fd := c.d.def_ 16 (d := ⟨("members", none), "members", "members", defArgs (top 53), defBody (top 53), defScope (top 53), [], []⟩) rfl
theorem fn_place_of : ∃ fd, FunD K "place_of" "place_of" (defArgs (top 56)) (defBody (top 56)) (defScope (top 56)) [] [] (He.ga K "place_of") fd := c.d.def_ 17 (d := ⟨("place_of", none), "place_of", "place_of", defArgs (top 56), defBody (top 56), defScope (top 56), [], []⟩) rfl
theorem fn_wrapped : ∃ fd, FunD K "wrapped" "wrapped" (defArgs (top 58)) (defBody (top 58)) (defScope (top 58)) [] [] (He.ga K "wrapped") fd := c.d.def_ 18 (d := ⟨("wrapped", none), "wrapped", "wrapped", defArgs (top 58), defBody (top 58), defScope (top 58), [], []⟩) rfl
theorem fn_moved : ∃ fd, FunD K "moved" "moved" (defArgs (top 59)) (defBody (top 59)) (defScope (top 59)) [] [] (He.ga K "moved") fd := c.d.def_ 19 (d := ⟨("moved", none), "moved", "moved", defArgs (top 59), defBody (top 59), defScope (top 59), [], []⟩) rfl
theorem fn_begins_with : ∃ fd, FunD K "begins_with" "begins_with" (defArgs (top 60)) (defBody (top 60)) (defScope (top 60)) [] [] (He.ga K "begins_with") fd := c.d.def_ 20 (d := ⟨("begins_with", none), "begins_with", "begins_with", defArgs (top 60), defBody (top 60), defScope (top 60), [], []⟩) rfl
theorem fn_found_by : ∃ fd, FunD K "found_by" "found_by" (defArgs (top 61)) (defBody (top 61)) (defScope (top 61)) [] [] (He.ga K "found_by") fd := c.d.def_ 21 (d := ⟨("found_by", none), "found_by", "found_by", defArgs (top 61), defBody (top 61), defScope (top 61), [], []⟩) rfl
theorem fn_first_of : ∃ fd, FunD K "first_of" "first_of" (defArgs (top 69)) (defBody (top 69)) (defScope (top 69)) [] [] (He.ga K "first_of") fd := c.d.def_ 22 (d := ⟨("first_of", none), "first_of", "first_of", defArgs (top 69), defBody (top 69), defScope (top 69), [], []⟩) rfl
theorem fn_Layers_init : ∃ fd, FunD K "__init__" "Layers.__init__" (defArgs (inClass (top 70) 0)) (defBody (inClass (top 70) 0)) (defScope (inClass (top 70) 0)) [] [] (He.ma K (He.ga K "Layers") "__init__") fd := c.d.def_ 23 (d := ⟨("Layers", some "__init__"), "__init__", "Layers.__init__", defArgs (inClass (top 70) 0), defBody (inClass (top 70) 0), defScope (inClass (top 70) 0), [], []⟩) rfl
theorem fn_Layers_top : ∃ fd, FunD K "top" "Layers.top" (defArgs (inClass (top 70) 1)) (defBody (inClass (top 70) 1)) (defScope (inClass (top 70) 1)) [] [] (He.ma K (He.ga K "Layers") "top") fd := c.d.def_ 24 (d := ⟨("Layers", some "top"), "top", "Layers.top", defArgs (inClass (top 70) 1), defBody (inClass (top 70) 1), defScope (inClass (top 70) 1), [], []⟩) rfl
theorem fn_Layers_focused : ∃ fd, FunD K "focused" "Layers.focused" (defArgs (inClass (top 70) 2)) (defBody (inClass (top 70) 2)) (defScope (inClass (top 70) 2)) [] [] (He.ma K (He.ga K "Layers") "focused") fd := c.d.def_ 25 (d := ⟨("Layers", some "focused"), "focused", "Layers.focused", defArgs (inClass (top 70) 2), defBody (inClass (top 70) 2), defScope (inClass (top 70) 2), [], []⟩) rfl
theorem fn_Layers_focus_path : ∃ fd, FunD K "focus_path" "Layers.focus_path" (defArgs (inClass (top 70) 3)) (defBody (inClass (top 70) 3)) (defScope (inClass (top 70) 3)) [] [] (He.ma K (He.ga K "Layers") "focus_path") fd := c.d.def_ 26 (d := ⟨("Layers", some "focus_path"), "focus_path", "Layers.focus_path", defArgs (inClass (top 70) 3), defBody (inClass (top 70) 3), defScope (inClass (top 70) 3), [], []⟩) rfl
theorem fn_Layers_focus : ∃ fd, FunD K "focus" "Layers.focus" (defArgs (inClass (top 70) 5)) (defBody (inClass (top 70) 5)) (defScope (inClass (top 70) 5)) [] [] (He.ma K (He.ga K "Layers") "focus") fd := c.d.def_ 27 (d := ⟨("Layers", some "focus"), "focus", "Layers.focus", defArgs (inClass (top 70) 5), defBody (inClass (top 70) 5), defScope (inClass (top 70) 5), [], []⟩) rfl
theorem fn_Layers_rove : ∃ fd, FunD K "rove" "Layers.rove" (defArgs (inClass (top 70) 6)) (defBody (inClass (top 70) 6)) (defScope (inClass (top 70) 6)) [] [] (He.ma K (He.ga K "Layers") "rove") fd := c.d.def_ 28 (d := ⟨("Layers", some "rove"), "rove", "Layers.rove", defArgs (inClass (top 70) 6), defBody (inClass (top 70) 6), defScope (inClass (top 70) 6), [], []⟩) rfl
theorem fn_Node_init : ∃ fd, FunD K "__init__" "Node.__init__" (defArgs (inClass (top 79) 0)) (defBody (inClass (top 79) 0)) (defScope (inClass (top 79) 0)) [] [] (He.ma K (He.ga K "Node") "__init__") fd := c.d.def_ 29 (d := ⟨("Node", some "__init__"), "__init__", "Node.__init__", defArgs (inClass (top 79) 0), defBody (inClass (top 79) 0), defScope (inClass (top 79) 0), [], []⟩) rfl
theorem fn_Tree_init : ∃ fd, FunD K "__init__" "Tree.__init__" (defArgs (inClass (top 80) 0)) (defBody (inClass (top 80) 0)) (defScope (inClass (top 80) 0)) [] [] (He.ma K (He.ga K "Tree") "__init__") fd := c.d.def_ 30 (d := ⟨("Tree", some "__init__"), "__init__", "Tree.__init__", defArgs (inClass (top 80) 0), defBody (inClass (top 80) 0), defScope (inClass (top 80) 0), [], []⟩) rfl
theorem fn_Tree_has : ∃ fd, FunD K "has" "Tree.has" (defArgs (inClass (top 80) 2)) (defBody (inClass (top 80) 2)) (defScope (inClass (top 80) 2)) [] [] (He.ma K (He.ga K "Tree") "has") fd := c.d.def_ 31 (d := ⟨("Tree", some "has"), "has", "Tree.has", defArgs (inClass (top 80) 2), defBody (inClass (top 80) 2), defScope (inClass (top 80) 2), [], []⟩) rfl
theorem fn_Tree_kind : ∃ fd, FunD K "kind" "Tree.kind" (defArgs (inClass (top 80) 3)) (defBody (inClass (top 80) 3)) (defScope (inClass (top 80) 3)) [] [] (He.ma K (He.ga K "Tree") "kind") fd := c.d.def_ 32 (d := ⟨("Tree", some "kind"), "kind", "Tree.kind", defArgs (inClass (top 80) 3), defBody (inClass (top 80) 3), defScope (inClass (top 80) 3), [], []⟩) rfl
theorem fn_Tree_label : ∃ fd, FunD K "label" "Tree.label" (defArgs (inClass (top 80) 4)) (defBody (inClass (top 80) 4)) (defScope (inClass (top 80) 4)) [] [] (He.ma K (He.ga K "Tree") "label") fd := c.d.def_ 33 (d := ⟨("Tree", some "label"), "label", "Tree.label", defArgs (inClass (top 80) 4), defBody (inClass (top 80) 4), defScope (inClass (top 80) 4), [], []⟩) rfl
theorem fn_Tree_is_visible : ∃ fd, FunD K "is_visible" "Tree.is_visible" (defArgs (inClass (top 80) 5)) (defBody (inClass (top 80) 5)) (defScope (inClass (top 80) 5)) [] [] (He.ma K (He.ga K "Tree") "is_visible") fd := c.d.def_ 34 (d := ⟨("Tree", some "is_visible"), "is_visible", "Tree.is_visible", defArgs (inClass (top 80) 5), defBody (inClass (top 80) 5), defScope (inClass (top 80) 5), [], []⟩) rfl
theorem fn_Tree_is_enabled : ∃ fd, FunD K "is_enabled" "Tree.is_enabled" (defArgs (inClass (top 80) 6)) (defBody (inClass (top 80) 6)) (defScope (inClass (top 80) 6)) [] [] (He.ma K (He.ga K "Tree") "is_enabled") fd := c.d.def_ 35 (d := ⟨("Tree", some "is_enabled"), "is_enabled", "Tree.is_enabled", defArgs (inClass (top 80) 6), defBody (inClass (top 80) 6), defScope (inClass (top 80) 6), [], []⟩) rfl
theorem fn_Tree_children : ∃ fd, FunD K "children" "Tree.children" (defArgs (inClass (top 80) 8)) (defBody (inClass (top 80) 8)) (defScope (inClass (top 80) 8)) [] [] (He.ma K (He.ga K "Tree") "children") fd := c.d.def_ 36 (d := ⟨("Tree", some "children"), "children", "Tree.children", defArgs (inClass (top 80) 8), defBody (inClass (top 80) 8), defScope (inClass (top 80) 8), [], []⟩) rfl
theorem fn_Tree_ancestors : ∃ fd, FunD K "ancestors" "Tree.ancestors" (defArgs (inClass (top 80) 9)) (defBody (inClass (top 80) 9)) (defScope (inClass (top 80) 9)) [] [] (He.ma K (He.ga K "Tree") "ancestors") fd := c.d.def_ 37 (d := ⟨("Tree", some "ancestors"), "ancestors", "Tree.ancestors", defArgs (inClass (top 80) 9), defBody (inClass (top 80) 9), defScope (inClass (top 80) 9), [], []⟩) rfl
theorem fn_Tree_depth : ∃ fd, FunD K "depth" "Tree.depth" (defArgs (inClass (top 80) 10)) (defBody (inClass (top 80) 10)) (defScope (inClass (top 80) 10)) [] [] (He.ma K (He.ga K "Tree") "depth") fd := c.d.def_ 38 (d := ⟨("Tree", some "depth"), "depth", "Tree.depth", defArgs (inClass (top 80) 10), defBody (inClass (top 80) 10), defScope (inClass (top 80) 10), [], []⟩) rfl
theorem fn_Tree_subtree : ∃ fd, FunD K "subtree" "Tree.subtree" (defArgs (inClass (top 80) 11)) (defBody (inClass (top 80) 11)) (defScope (inClass (top 80) 11)) [] [] (He.ma K (He.ga K "Tree") "subtree") fd := c.d.def_ 39 (d := ⟨("Tree", some "subtree"), "subtree", "Tree.subtree", defArgs (inClass (top 80) 11), defBody (inClass (top 80) 11), defScope (inClass (top 80) 11), [], []⟩) rfl
theorem fn_Tree_names : ∃ fd, FunD K "names" "Tree.names" (defArgs (inClass (top 80) 12)) (defBody (inClass (top 80) 12)) (defScope (inClass (top 80) 12)) [] [] (He.ma K (He.ga K "Tree") "names") fd := c.d.def_ 40 (d := ⟨("Tree", some "names"), "names", "Tree.names", defArgs (inClass (top 80) 12), defBody (inClass (top 80) 12), defScope (inClass (top 80) 12), [], []⟩) rfl
theorem fn_Tree_need : ∃ fd, FunD K "need" "Tree.need" (defArgs (inClass (top 80) 15)) (defBody (inClass (top 80) 15)) (defScope (inClass (top 80) 15)) [] [] (He.ma K (He.ga K "Tree") "need") fd := c.d.def_ 41 (d := ⟨("Tree", some "need"), "need", "Tree.need", defArgs (inClass (top 80) 15), defBody (inClass (top 80) 15), defScope (inClass (top 80) 15), [], []⟩) rfl
theorem fn_Tree_need_inner : ∃ fd, FunD K "need_inner" "Tree.need_inner" (defArgs (inClass (top 80) 16)) (defBody (inClass (top 80) 16)) (defScope (inClass (top 80) 16)) [] [] (He.ma K (He.ga K "Tree") "need_inner") fd := c.d.def_ 42 (d := ⟨("Tree", some "need_inner"), "need_inner", "Tree.need_inner", defArgs (inClass (top 80) 16), defBody (inClass (top 80) 16), defScope (inClass (top 80) 16), [], []⟩) rfl
theorem fn_Tree_need_place : ∃ fd, FunD K "need_place" "Tree.need_place" (defArgs (inClass (top 80) 17)) (defBody (inClass (top 80) 17)) (defScope (inClass (top 80) 17)) [] [] (He.ma K (He.ga K "Tree") "need_place") fd := c.d.def_ 43 (d := ⟨("Tree", some "need_place"), "need_place", "Tree.need_place", defArgs (inClass (top 80) 17), defBody (inClass (top 80) 17), defScope (inClass (top 80) 17), [], []⟩) rfl
theorem fn_Tree_insert : ∃ fd, FunD K "insert" "Tree.insert" (defArgs (inClass (top 80) 18)) (defBody (inClass (top 80) 18)) (defScope (inClass (top 80) 18)) [] [] (He.ma K (He.ga K "Tree") "insert") fd := c.d.def_ 44 (d := ⟨("Tree", some "insert"), "insert", "Tree.insert", defArgs (inClass (top 80) 18), defBody (inClass (top 80) 18), defScope (inClass (top 80) 18), [], []⟩) rfl
theorem fn_Tree_set_flag : ∃ fd, FunD K "set_flag" "Tree.set_flag" (defArgs (inClass (top 80) 23)) (defBody (inClass (top 80) 23)) (defScope (inClass (top 80) 23)) [] [] (He.ma K (He.ga K "Tree") "set_flag") fd := c.d.def_ 45 (d := ⟨("Tree", some "set_flag"), "set_flag", "Tree.set_flag", defArgs (inClass (top 80) 23), defBody (inClass (top 80) 23), defScope (inClass (top 80) 23), [], []⟩) rfl
theorem fn_new_tree : ∃ fd, FunD K "new_tree" "new_tree" (defArgs (top 81)) (defBody (top 81)) (defScope (top 81)) [] [] (He.ga K "new_tree") fd := c.d.def_ 46 (d := ⟨("new_tree", none), "new_tree", "new_tree", defArgs (top 81), defBody (top 81), defScope (top 81), [], []⟩) rfl
theorem fn_cut_off : ∃ fd, FunD K "cut_off" "cut_off" (defArgs (top 87)) (defBody (top 87)) (defScope (top 87)) [] [] (He.ga K "cut_off") fd := c.d.def_ 47 (d := ⟨("cut_off", none), "cut_off", "cut_off", defArgs (top 87), defBody (top 87), defScope (top 87), [], []⟩) rfl
theorem fn_info_of : ∃ fd, FunD K "info_of" "info_of" (defArgs (top 88)) (defBody (top 88)) (defScope (top 88)) [] [] (He.ga K "info_of") fd := c.d.def_ 48 (d := ⟨("info_of", none), "info_of", "info_of", defArgs (top 88), defBody (top 88), defScope (top 88), [], []⟩) rfl
theorem fn_Reader_init : ∃ fd, FunD K "__init__" "Reader.__init__" (defArgs (inClass (top 89) 0)) (defBody (inClass (top 89) 0)) (defScope (inClass (top 89) 0)) [] [] (He.ma K (He.ga K "Reader") "__init__") fd := c.d.def_ 49 (d := ⟨("Reader", some "__init__"), "__init__", "Reader.__init__", defArgs (inClass (top 89) 0), defBody (inClass (top 89) 0), defScope (inClass (top 89) 0), [], []⟩) rfl
theorem fn_Reader_read_root : ∃ fd, FunD K "read_root" "Reader.read_root" (defArgs (inClass (top 89) 1)) (defBody (inClass (top 89) 1)) (defScope (inClass (top 89) 1)) [] [] (He.ma K (He.ga K "Reader") "read_root") fd := c.d.def_ 50 (d := ⟨("Reader", some "read_root"), "read_root", "Reader.read_root", defArgs (inClass (top 89) 1), defBody (inClass (top 89) 1), defScope (inClass (top 89) 1), [], []⟩) rfl
theorem fn_Reader_can_be : ∃ fd, FunD K "can_be" "Reader.can_be" (defArgs (inClass (top 89) 2)) (defBody (inClass (top 89) 2)) (defScope (inClass (top 89) 2)) [] [] (He.ma K (He.ga K "Reader") "can_be") fd := c.d.def_ 51 (d := ⟨("Reader", some "can_be"), "can_be", "Reader.can_be", defArgs (inClass (top 89) 2), defBody (inClass (top 89) 2), defScope (inClass (top 89) 2), [], []⟩) rfl
theorem fn_Reader_read : ∃ fd, FunD K "read" "Reader.read" (defArgs (inClass (top 89) 3)) (defBody (inClass (top 89) 3)) (defScope (inClass (top 89) 3)) [] [] (He.ma K (He.ga K "Reader") "read") fd := c.d.def_ 52 (d := ⟨("Reader", some "read"), "read", "Reader.read", defArgs (inClass (top 89) 3), defBody (inClass (top 89) 3), defScope (inClass (top 89) 3), [], []⟩) rfl
theorem fn_parse_outline : ∃ fd, FunD K "parse_outline" "parse_outline" (defArgs (top 90)) (defBody (top 90)) (defScope (top 90)) [] [] (He.ga K "parse_outline") fd := c.d.def_ 53 (d := ⟨("parse_outline", none), "parse_outline", "parse_outline", defArgs (top 90), defBody (top 90), defScope (top 90), [], []⟩) rfl
theorem fn_Manager_init : ∃ fd, FunD K "__init__" "Manager.__init__" (defArgs (inClass (top 92) 0)) (defBody (inClass (top 92) 0)) (defScope (inClass (top 92) 0)) [] [] (He.ma K (He.ga K "Manager") "__init__") fd := c.d.def_ 54 (d := ⟨("Manager", some "__init__"), "__init__", "Manager.__init__", defArgs (inClass (top 92) 0), defBody (inClass (top 92) 0), defScope (inClass (top 92) 0), [], []⟩) rfl
theorem fn_Manager_told : ∃ fd, FunD K "told" "Manager.told" (defArgs (inClass (top 92) 1)) (defBody (inClass (top 92) 1)) (defScope (inClass (top 92) 1)) [] [] (He.ma K (He.ga K "Manager") "told") fd := c.d.def_ 55 (d := ⟨("Manager", some "told"), "told", "Manager.told", defArgs (inClass (top 92) 1), defBody (inClass (top 92) 1), defScope (inClass (top 92) 1), [], []⟩) rfl
theorem fn_Manager_settled : ∃ fd, FunD K "settled" "Manager.settled" (defArgs (inClass (top 92) 2)) (defBody (inClass (top 92) 2)) (defScope (inClass (top 92) 2)) [] [] (He.ma K (He.ga K "Manager") "settled") fd := c.d.def_ 56 (d := ⟨("Manager", some "settled"), "settled", "Manager.settled", defArgs (inClass (top 92) 2), defBody (inClass (top 92) 2), defScope (inClass (top 92) 2), [], []⟩) rfl
theorem fn_Manager_need : ∃ fd, FunD K "need" "Manager.need" (defArgs (inClass (top 92) 3)) (defBody (inClass (top 92) 3)) (defScope (inClass (top 92) 3)) [] [] (He.ma K (He.ga K "Manager") "need") fd := c.d.def_ 57 (d := ⟨("Manager", some "need"), "need", "Manager.need", defArgs (inClass (top 92) 3), defBody (inClass (top 92) 3), defScope (inClass (top 92) 3), [], []⟩) rfl
theorem fn_Manager_need_kind : ∃ fd, FunD K "need_kind" "Manager.need_kind" (defArgs (inClass (top 92) 4)) (defBody (inClass (top 92) 4)) (defScope (inClass (top 92) 4)) [] [] (He.ma K (He.ga K "Manager") "need_kind") fd := c.d.def_ 58 (d := ⟨("Manager", some "need_kind"), "need_kind", "Manager.need_kind", defArgs (inClass (top 92) 4), defBody (inClass (top 92) 4), defScope (inClass (top 92) 4), [], []⟩) rfl
theorem fn_Manager_current_item : ∃ fd, FunD K "current_item" "Manager.current_item" (defArgs (inClass (top 92) 22)) (defBody (inClass (top 92) 22)) (defScope (inClass (top 92) 22)) [] [] (He.ma K (He.ga K "Manager") "current_item") fd := c.d.def_ 59 (d := ⟨("Manager", some "current_item"), "current_item", "Manager.current_item", defArgs (inClass (top 92) 22), defBody (inClass (top 92) 22), defScope (inClass (top 92) 22), [], []⟩) rfl
theorem fn_Manager_layer_item : ∃ fd, FunD K "layer_item" "Manager.layer_item" (defArgs (inClass (top 92) 23)) (defBody (inClass (top 92) 23)) (defScope (inClass (top 92) 23)) [] [] (He.ma K (He.ga K "Manager") "layer_item") fd := c.d.def_ 60 (d := ⟨("Manager", some "layer_item"), "layer_item", "Manager.layer_item", defArgs (inClass (top 92) 23), defBody (inClass (top 92) 23), defScope (inClass (top 92) 23), [], []⟩) rfl
theorem fn_Manager_focused : ∃ fd, FunD K "focused" "Manager.focused" (defArgs (inClass (top 92) 24)) (defBody (inClass (top 92) 24)) (defScope (inClass (top 92) 24)) [] [] (He.ma K (He.ga K "Manager") "focused") fd := c.d.def_ 61 (d := ⟨("Manager", some "focused"), "focused", "Manager.focused", defArgs (inClass (top 92) 24), defBody (inClass (top 92) 24), defScope (inClass (top 92) 24), [], []⟩) rfl
theorem fn_Manager_focus_path : ∃ fd, FunD K "focus_path" "Manager.focus_path" (defArgs (inClass (top 92) 25)) (defBody (inClass (top 92) 25)) (defScope (inClass (top 92) 25)) [] [] (He.ma K (He.ga K "Manager") "focus_path") fd := c.d.def_ 62 (d := ⟨("Manager", some "focus_path"), "focus_path", "Manager.focus_path", defArgs (inClass (top 92) 25), defBody (inClass (top 92) 25), defScope (inClass (top 92) 25), [], []⟩) rfl
theorem fn_Manager_open_layers : ∃ fd, FunD K "open_layers" "Manager.open_layers" (defArgs (inClass (top 92) 26)) (defBody (inClass (top 92) 26)) (defScope (inClass (top 92) 26)) [] [] (He.ma K (He.ga K "Manager") "open_layers") fd := c.d.def_ 63 (d := ⟨("Manager", some "open_layers"), "open_layers", "Manager.open_layers", defArgs (inClass (top 92) 26), defBody (inClass (top 92) 26), defScope (inClass (top 92) 26), [], []⟩) rfl
theorem fn_Manager_has_composite : ∃ fd, FunD K "has_composite" "Manager.has_composite" (defArgs (inClass (top 92) 30)) (defBody (inClass (top 92) 30)) (defScope (inClass (top 92) 30)) [] [] (He.ma K (He.ga K "Manager") "has_composite") fd := c.d.def_ 64 (d := ⟨("Manager", some "has_composite"), "has_composite", "Manager.has_composite", defArgs (inClass (top 92) 30), defBody (inClass (top 92) 30), defScope (inClass (top 92) 30), [], []⟩) rfl
theorem fn_Manager_go : ∃ fd, FunD K "go" "Manager.go" (defArgs (inClass (top 92) 31)) (defBody (inClass (top 92) 31)) (defScope (inClass (top 92) 31)) [] [] (He.ma K (He.ga K "Manager") "go") fd := c.d.def_ 65 (d := ⟨("Manager", some "go"), "go", "Manager.go", defArgs (inClass (top 92) 31), defBody (inClass (top 92) 31), defScope (inClass (top 92) 31), [], []⟩) rfl
theorem fn_Manager_within : ∃ fd, FunD K "within" "Manager.within" (defArgs (inClass (top 92) 32)) (defBody (inClass (top 92) 32)) (defScope (inClass (top 92) 32)) [] [] (He.ma K (He.ga K "Manager") "within") fd := c.d.def_ 66 (d := ⟨("Manager", some "within"), "within", "Manager.within", defArgs (inClass (top 92) 32), defBody (inClass (top 92) 32), defScope (inClass (top 92) 32), [], []⟩) rfl
theorem fn_Manager_next_item : ∃ fd, FunD K "next_item" "Manager.next_item" (defArgs (inClass (top 92) 33)) (defBody (inClass (top 92) 33)) (defScope (inClass (top 92) 33)) [] [] (He.ma K (He.ga K "Manager") "next_item") fd := c.d.def_ 67 (d := ⟨("Manager", some "next_item"), "next_item", "Manager.next_item", defArgs (inClass (top 92) 33), defBody (inClass (top 92) 33), defScope (inClass (top 92) 33), [], []⟩) rfl
theorem fn_Manager_previous_item : ∃ fd, FunD K "previous_item" "Manager.previous_item" (defArgs (inClass (top 92) 34)) (defBody (inClass (top 92) 34)) (defScope (inClass (top 92) 34)) [] [] (He.ma K (He.ga K "Manager") "previous_item") fd := c.d.def_ 68 (d := ⟨("Manager", some "previous_item"), "previous_item", "Manager.previous_item", defArgs (inClass (top 92) 34), defBody (inClass (top 92) 34), defScope (inClass (top 92) 34), [], []⟩) rfl
theorem fn_Manager_first_item : ∃ fd, FunD K "first_item" "Manager.first_item" (defArgs (inClass (top 92) 35)) (defBody (inClass (top 92) 35)) (defScope (inClass (top 92) 35)) [] [] (He.ma K (He.ga K "Manager") "first_item") fd := c.d.def_ 69 (d := ⟨("Manager", some "first_item"), "first_item", "Manager.first_item", defArgs (inClass (top 92) 35), defBody (inClass (top 92) 35), defScope (inClass (top 92) 35), [], []⟩) rfl
theorem fn_Manager_last_item : ∃ fd, FunD K "last_item" "Manager.last_item" (defArgs (inClass (top 92) 36)) (defBody (inClass (top 92) 36)) (defScope (inClass (top 92) 36)) [] [] (He.ma K (He.ga K "Manager") "last_item") fd := c.d.def_ 70 (d := ⟨("Manager", some "last_item"), "last_item", "Manager.last_item", defArgs (inClass (top 92) 36), defBody (inClass (top 92) 36), defScope (inClass (top 92) 36), [], []⟩) rfl
theorem fn_Manager_typeahead : ∃ fd, FunD K "typeahead" "Manager.typeahead" (defArgs (inClass (top 92) 37)) (defBody (inClass (top 92) 37)) (defScope (inClass (top 92) 37)) [] [] (He.ma K (He.ga K "Manager") "typeahead") fd := c.d.def_ 71 (d := ⟨("Manager", some "typeahead"), "typeahead", "Manager.typeahead", defArgs (inClass (top 92) 37), defBody (inClass (top 92) 37), defScope (inClass (top 92) 37), [], []⟩) rfl
theorem fn_Manager_need_target : ∃ fd, FunD K "need_target" "Manager.need_target" (defArgs (inClass (top 92) 42)) (defBody (inClass (top 92) 42)) (defScope (inClass (top 92) 42)) [] [] (He.ma K (He.ga K "Manager") "need_target") fd := c.d.def_ 72 (d := ⟨("Manager", some "need_target"), "need_target", "Manager.need_target", defArgs (inClass (top 92) 42), defBody (inClass (top 92) 42), defScope (inClass (top 92) 42), [], []⟩) rfl
theorem fn_Manager_focus : ∃ fd, FunD K "focus" "Manager.focus" (defArgs (inClass (top 92) 43)) (defBody (inClass (top 92) 43)) (defScope (inClass (top 92) 43)) [] [] (He.ma K (He.ga K "Manager") "focus") fd := c.d.def_ 73 (d := ⟨("Manager", some "focus"), "focus", "Manager.focus", defArgs (inClass (top 92) 43), defBody (inClass (top 92) 43), defScope (inClass (top 92) 43), [], []⟩) rfl
theorem fn_done_as_move : ∃ fd, FunD K "done_as_move" "done_as_move" (defArgs (top 99)) (defBody (top 99)) (defScope (top 99)) [] [] (He.ga K "done_as_move") fd := c.d.def_ 74 (d := ⟨("done_as_move", none), "done_as_move", "done_as_move", defArgs (top 99), defBody (top 99), defScope (top 99), [], []⟩) rfl
theorem fn_done : ∃ fd, FunD K "done" "done" (defArgs (top 102)) (defBody (top 102)) (defScope (top 102)) [] [] (He.ga K "done") fd := c.d.def_ 75 (d := ⟨("done", none), "done", "done", defArgs (top 102), defBody (top 102), defScope (top 102), [], []⟩) rfl
theorem fn__law_cell : ∃ fd, FunD K "_law_cell" "_law_cell" (defArgs (top 104)) (defBody (top 104)) (defScope (top 104)) [] [] (He.ga K "_law_cell") fd := c.d.def_ 76 (d := ⟨("_law_cell", none), "_law_cell", "_law_cell", defArgs (top 104), defBody (top 104), defScope (top 104), [], []⟩) rfl
theorem fn__law_draws : ∃ fd, FunD K "_law_draws" "_law_draws" (defArgs (top 105)) (defBody (top 105)) (defScope (top 105)) [] [] (He.ga K "_law_draws") fd := c.d.def_ 77 (d := ⟨("_law_draws", none), "_law_draws", "_law_draws", defArgs (top 105), defBody (top 105), defScope (top 105), [], []⟩) rfl
theorem fn__law_rows : ∃ fd, FunD K "_law_rows" "_law_rows" (defArgs (top 106)) (defBody (top 106)) (defScope (top 106)) [] [] (He.ga K "_law_rows") fd := c.d.def_ 78 (d := ⟨("_law_rows", none), "_law_rows", "_law_rows", defArgs (top 106), defBody (top 106), defScope (top 106), [], []⟩) rfl
theorem fn__law_outline : ∃ fd, FunD K "_law_outline" "_law_outline" (defArgs (top 107)) (defBody (top 107)) (defScope (top 107)) [] [] (He.ga K "_law_outline") fd := c.d.def_ 79 (d := ⟨("_law_outline", none), "_law_outline", "_law_outline", defArgs (top 107), defBody (top 107), defScope (top 107), [], []⟩) rfl
theorem fn__law_tree : ∃ fd, FunD K "_law_tree" "_law_tree" (defArgs (top 108)) (defBody (top 108)) (defScope (top 108)) [] [] (He.ga K "_law_tree") fd := c.d.def_ 80 (d := ⟨("_law_tree", none), "_law_tree", "_law_tree", defArgs (top 108), defBody (top 108), defScope (top 108), [], []⟩) rfl
theorem fn__law_up : ∃ fd, FunD K "_law_up" "_law_up" (defArgs (top 109)) (defBody (top 109)) (defScope (top 109)) [] [] (He.ga K "_law_up") fd := c.d.def_ 81 (d := ⟨("_law_up", none), "_law_up", "_law_up", defArgs (top 109), defBody (top 109), defScope (top 109), [], []⟩) rfl
theorem fn__law_layer : ∃ fd, FunD K "_law_layer" "_law_layer" (defArgs (top 110)) (defBody (top 110)) (defScope (top 110)) [] [] (He.ga K "_law_layer") fd := c.d.def_ 82 (d := ⟨("_law_layer", none), "_law_layer", "_law_layer", defArgs (top 110), defBody (top 110), defScope (top 110), [], []⟩) rfl
theorem fn__law_inner : ∃ fd, FunD K "_law_inner" "_law_inner" (defArgs (top 111)) (defBody (top 111)) (defScope (top 111)) [] [] (He.ga K "_law_inner") fd := c.d.def_ 83 (d := ⟨("_law_inner", none), "_law_inner", "_law_inner", defArgs (top 111), defBody (top 111), defScope (top 111), [], []⟩) rfl
theorem fn__law_items : ∃ fd, FunD K "_law_items" "_law_items" (defArgs (top 112)) (defBody (top 112)) (defScope (top 112)) [] [] (He.ga K "_law_items") fd := c.d.def_ 84 (d := ⟨("_law_items", none), "_law_items", "_law_items", defArgs (top 112), defBody (top 112), defScope (top 112), [], []⟩) rfl
theorem fn__law_composite : ∃ fd, FunD K "_law_composite" "_law_composite" (defArgs (top 113)) (defBody (top 113)) (defScope (top 113)) [] [] (He.ga K "_law_composite") fd := c.d.def_ 85 (d := ⟨("_law_composite", none), "_law_composite", "_law_composite", defArgs (top 113), defBody (top 113), defScope (top 113), [], []⟩) rfl
theorem fn__law_composites : ∃ fd, FunD K "_law_composites" "_law_composites" (defArgs (top 114)) (defBody (top 114)) (defScope (top 114)) [] [] (He.ga K "_law_composites") fd := c.d.def_ 86 (d := ⟨("_law_composites", none), "_law_composites", "_law_composites", defArgs (top 114), defBody (top 114), defScope (top 114), [], []⟩) rfl
theorem fn__law_members : ∃ fd, FunD K "_law_members" "_law_members" (defArgs (top 115)) (defBody (top 115)) (defScope (top 115)) [] [] (He.ga K "_law_members") fd := c.d.def_ 87 (d := ⟨("_law_members", none), "_law_members", "_law_members", defArgs (top 115), defBody (top 115), defScope (top 115), [], []⟩) rfl
theorem fn__law_begun : ∃ fd, FunD K "_law_begun" "_law_begun" (defArgs (top 118)) (defBody (top 118)) (defScope (top 118)) [] [] (He.ga K "_law_begun") fd := c.d.def_ 88 (d := ⟨("_law_begun", none), "_law_begun", "_law_begun", defArgs (top 118), defBody (top 118), defScope (top 118), [], []⟩) rfl
theorem fn__law_focused : ∃ fd, FunD K "_law_focused" "_law_focused" (defArgs (top 119)) (defBody (top 119)) (defScope (top 119)) [] [] (He.ga K "_law_focused") fd := c.d.def_ 89 (d := ⟨("_law_focused", none), "_law_focused", "_law_focused", defArgs (top 119), defBody (top 119), defScope (top 119), [], []⟩) rfl
theorem fn__law_path : ∃ fd, FunD K "_law_path" "_law_path" (defArgs (top 120)) (defBody (top 120)) (defScope (top 120)) [] [] (He.ga K "_law_path") fd := c.d.def_ 90 (d := ⟨("_law_path", none), "_law_path", "_law_path", defArgs (top 120), defBody (top 120), defScope (top 120), [], []⟩) rfl
theorem fn__law_focus : ∃ fd, FunD K "_law_focus" "_law_focus" (defArgs (top 121)) (defBody (top 121)) (defScope (top 121)) [] [] (He.ga K "_law_focus") fd := c.d.def_ 91 (d := ⟨("_law_focus", none), "_law_focus", "_law_focus", defArgs (top 121), defBody (top 121), defScope (top 121), [], []⟩) rfl
theorem fn__law_within : ∃ fd, FunD K "_law_within" "_law_within" (defArgs (top 125)) (defBody (top 125)) (defScope (top 125)) [] [] (He.ga K "_law_within") fd := c.d.def_ 92 (d := ⟨("_law_within", none), "_law_within", "_law_within", defArgs (top 125), defBody (top 125), defScope (top 125), [], []⟩) rfl
theorem fn__law_typed : ∃ fd, FunD K "_law_typed" "_law_typed" (defArgs (top 126)) (defBody (top 126)) (defScope (top 126)) [] [] (He.ga K "_law_typed") fd := c.d.def_ 93 (d := ⟨("_law_typed", none), "_law_typed", "_law_typed", defArgs (top 126), defBody (top 126), defScope (top 126), [], []⟩) rfl
theorem fn__law_why_not : ∃ fd, FunD K "_law_why_not" "_law_why_not" (defArgs (top 128)) (defBody (top 128)) (defScope (top 128)) [] [] (He.ga K "_law_why_not") fd := c.d.def_ 94 (d := ⟨("_law_why_not", none), "_law_why_not", "_law_why_not", defArgs (top 128), defBody (top 128), defScope (top 128), [], []⟩) rfl
theorem fn__law_modelled : ∃ fd, FunD K "_law_modelled" "_law_modelled" (defArgs (top 129)) (defBody (top 129)) (defScope (top 129)) [] [] (He.ga K "_law_modelled") fd := c.d.def_ 95 (d := ⟨("_law_modelled", none), "_law_modelled", "_law_modelled", defArgs (top 129), defBody (top 129), defScope (top 129), [], []⟩) rfl
theorem fn__law_did : ∃ fd, FunD K "_law_did" "_law_did" (defArgs (top 130)) (defBody (top 130)) (defScope (top 130)) [] [] (He.ga K "_law_did") fd := c.d.def_ 96 (d := ⟨("_law_did", none), "_law_did", "_law_did", defArgs (top 130), defBody (top 130), defScope (top 130), [], []⟩) rfl
theorem fn__law_is_it : ∃ fd, FunD K "_law_is_it" "_law_is_it" (defArgs (top 131)) (defBody (top 131)) (defScope (top 131)) [] [] (He.ga K "_law_is_it") fd := c.d.def_ 97 (d := ⟨("_law_is_it", none), "_law_is_it", "_law_is_it", defArgs (top 131), defBody (top 131), defScope (top 131), [], []⟩) rfl
theorem fn_law : ∃ fd, FunD K "law" "law" (defArgs (top 132)) (defBody (top 132)) (defScope (top 132)) [] [] (He.ga K "law") fd := c.d.def_ 98 (d := ⟨("law", none), "law", "law", defArgs (top 132), defBody (top 132), defScope (top 132), [], []⟩) rfl
end

abbrev cxN (P : Program) (w : World) (K : PySem.W.Frag) (mg : Str → Option Value) (base : Heap) (N : List Str) (qual : Str) (scope : Scope) (f : Addr) (cd : Value) (A : Around) (outer : List Env) (s : Shared) (H : Hp) (E : XK) : Cx := (cxOf CX0 P w K mg base N qual scope f cd A outer s H E).nox
abbrev endsOf (Q : VK) : Ends := { nx := fun _ H' => Q .non H', rt := Q }
section
variable {P : Program} {w : World} {K : PySem.W.Frag} {mg : Str → Option Value} {base : Heap} {st : Stmt} {k : Nat} {N ps : List Str} {sp : Sp}
abbrev BodyOf (P : Program) (w : World) (K : PySem.W.Frag) (mg : Str → Option Value) (base : Heap) (st : Stmt) (k : Nat) (N : List Str) (qual : Str) (f : Addr) (sp : Sp) : Prop :=
  ∀ (cdv : Value) (A : Around) (outer : List Env) (s : Shared) (H : Hp) (vs : List V) (Q : VK) (E : XK), Room k (A.deeper (envOfC qual (defScope st) s.heap.objs.size f cdv)) → sp vs H Q E →
    SX (cxN P w K mg base N qual (defScope st) f cdv A outer s H E) (defBody st) (endsOf Q) (start N vs) H
abbrev BindOf (x qual : Str) (st : Stmt) (ps : List Str) : Prop :=
  ∀ (kV doc pm : Value) (an : Option Addr) (cdv ct : Value) (us : List Value), us.length = ps.length → bindArgs (PySem.W.fnOf x qual (defArgs st) (defBody st) (defScope st) .none kV doc pm an cdv ct) ⟨us, []⟩ = pure (ps.zip us)
theorem fn_ok {x qual : Str} {f : Addr} {fd : FuncData} (F : FunD K x qual (defArgs st) (defBody st) (defScope st) [] [] f fd) (S : FnScope N ps (defScope st)) (len : ∀ vs H Q E, sp vs H Q E → vs.length = ps.length)
    (body : BodyOf P w K mg base st k N qual f sp) : FnOk P w K mg base CX0 (k + 1) f fd ps sp :=
  F.ok S len fun cdv A outer s H vs Q E hr h => ⟨sS (cxN P w K mg base N qual (defScope st) f cdv A outer s H E) (defBody st), (ps_s _).nox, body cdv A outer s H vs Q E hr h H (Z.Ex.refl H)⟩
theorem cal_of {x : Str} (F : ∃ fd, FunD K x x (defArgs st) (defBody st) (defScope st) [] [] (He.ga K x) fd) (g : mg x = some (.ref (He.ga K x))) (S : FnScope N ps (defScope st)) (b : BindOf x x st ps) (len : ∀ vs H Q E, sp vs H Q E → vs.length = ps.length)
    (body : BodyOf P w K mg base st k N x (He.ga K x) sp) : Cal P w K mg base x (k + 1) ps sp := by
  obtain ⟨fd, F⟩ := F
  exact ⟨_, fd, fn_ok F S len body, g, F.kp, F.bindsN b⟩
/-- a def with a generator expression: its code object is known -/
theorem cal_ofG {x : Str} (F : ∃ fd, FunD K x x (defArgs st) (defBody st) (defScope st) [] [] (He.ga K x) fd) (g : mg x = some (.ref (He.ga K x))) (S : FnScope N ps (defScope st)) (b : BindOf x x st ps) (len : ∀ vs H Q E, sp vs H Q E → vs.length = ps.length)
    (body : ∀ (A : Around) (outer : List Env) (s : Shared) (H : Hp) (vs : List V) (Q : VK) (E : XK), Room k (A.deeper (envOfC x (defScope st) s.heap.objs.size (He.ga K x) (.ref (He.cT K (x, none)).1))) → sp vs H Q E →
      SX (cxN P w K mg base N x (defScope st) (He.ga K x) (.ref (He.cT K (x, none)).1) A outer s H E) (defBody st) (endsOf Q) (start N vs) H) : Cal P w K mg base x (k + 1) ps sp := by
  obtain ⟨fd, F⟩ := F
  have kp := F.kp
  have bn := F.bindsN b
  obtain ⟨oc, od, dV, kV, doc, pm, an, cdv, ct, osl, rfl, lk, hcd, _, _⟩ := F.ex
  obtain ⟨c0, rfl⟩ := He.codeIn_ref hcd
  have e : (He.cT K (x, none)).1 = c0 := He.codeOf_eq (p := (x, none)) lk rfl
  rw [e] at body
  exact ⟨_, _, fn_of lk hcd S len fun A outer s H vs Q E hr h => ⟨sS (cxN P w K mg base N x (defScope st) (He.ga K x) (.ref c0) A outer s H E) (defBody st), (ps_s _).nox, body A outer s H vs Q E hr h H (Z.Ex.refl H)⟩, g, kp, bn⟩
theorem mtd_of {C m qual : Str} (F : ∃ fd, FunD K m qual (defArgs st) (defBody st) (defScope st) [] [] (He.ma K (He.ga K C) m) fd) (cl : Cls K (He.ga K C)) (g : Meth K (He.ga K C) m (He.ma K (He.ga K C) m)) (S : FnScope N ps (defScope st)) (b : BindOf m qual st ps)
    (len : ∀ vs H Q E, sp vs H Q E → vs.length = ps.length) (body : BodyOf P w K mg base st k N qual (He.ma K (He.ga K C) m) sp) : Mtd P w K mg base (He.ga K C) m (k + 1) ps sp := by
  obtain ⟨fd, F⟩ := F
  exact ⟨cl, _, fd, fn_ok F S len body, g, F.bindsN b⟩
theorem mak_of {C qual : Str} (F : ∃ fd, FunD K "__init__" qual (defArgs st) (defBody st) (defScope st) [] [] (He.ma K (He.ga K C) "__init__") fd) (g : mg C = some (.ref (He.ga K C))) (mk : Mk K (He.ga K C) (He.ma K (He.ga K C) "__init__")) (S : FnScope N ps (defScope st)) (b : BindOf "__init__" qual st ps)
    (len : ∀ vs H Q E, sp vs H Q E → vs.length = ps.length) (body : BodyOf P w K mg base st k N qual (He.ma K (He.ga K C) "__init__") sp) : Mak P w K mg base C (He.ga K C) (k + 1) ps sp := by
  obtain ⟨fd, F⟩ := F
  exact ⟨_, fd, fn_ok F S len body, mk, g, F.bindsN b⟩
end
end K24
set_option Elab.async false
set_option linter.all false
set_option maxRecDepth 100000
set_option maxHeartbeats 4000000
/-! the defs: where they stand, their names by slots, how their arguments bind. -/
namespace K24
open PySem PySem.Spec PyProof.Rows L2 Z
abbrev b_Turn_init : Stmt := inClass (top 9) 0
abbrev n_Turn_init : List PySem.Str := ["self", "begin", "end", "steps"]
theorem sc_Turn_init : FnScope n_Turn_init ["self", "begin", "end", "steps"] (defScope b_Turn_init) := ⟨by kernel_rfl, by kernel_rfl, by kernel_rfl, by decide +kernel, by kernel_rfl, by decide +kernel, by decide +kernel⟩
theorem bi_Turn_init : BindOf "__init__" "Turn.__init__" b_Turn_init ["self", "begin", "end", "steps"] := fun _ _ _ _ _ _ us hl => match us, hl with | [_, _, _, _], _ => by kernel_rfl
abbrev b_merged : Stmt := top 10
abbrev n_merged : List PySem.Str := ["rows", "found", "row"]
theorem sc_merged : FnScope n_merged ["rows"] (defScope b_merged) := ⟨by kernel_rfl, by kernel_rfl, by kernel_rfl, by decide +kernel, by kernel_rfl, by decide +kernel, by decide +kernel⟩
theorem bi_merged : BindOf "merged" "merged" b_merged ["rows"] := fun _ _ _ _ _ _ us hl => match us, hl with | [_], _ => by kernel_rfl
abbrev b_Announcements_init : Stmt := inClass (top 11) 0
abbrev n_Announcements_init : List PySem.Str := ["self"]
theorem sc_Announcements_init : FnScope n_Announcements_init ["self"] (defScope b_Announcements_init) := ⟨by kernel_rfl, by kernel_rfl, by kernel_rfl, by decide +kernel, by kernel_rfl, by decide +kernel, by decide +kernel⟩
theorem bi_Announcements_init : BindOf "__init__" "Announcements.__init__" b_Announcements_init ["self"] := fun _ _ _ _ _ _ us hl => match us, hl with | [_], _ => by kernel_rfl
abbrev b_Announcements_tell : Stmt := inClass (top 11) 1
abbrev n_Announcements_tell : List PySem.Str := ["self", "names", "steps"]
theorem sc_Announcements_tell : FnScope n_Announcements_tell ["self", "names", "steps"] (defScope b_Announcements_tell) := ⟨by kernel_rfl, by kernel_rfl, by kernel_rfl, by decide +kernel, by kernel_rfl, by decide +kernel, by decide +kernel⟩
theorem bi_Announcements_tell : BindOf "tell" "Announcements.tell" b_Announcements_tell ["self", "names", "steps"] := fun _ _ _ _ _ _ us hl => match us, hl with | [_, _, _], _ => by kernel_rfl
abbrev b_Bindings_init : Stmt := inClass (top 28) 0
abbrev n_Bindings_init : List PySem.Str := ["self"]
theorem sc_Bindings_init : FnScope n_Bindings_init ["self"] (defScope b_Bindings_init) := ⟨by kernel_rfl, by kernel_rfl, by kernel_rfl, by decide +kernel, by kernel_rfl, by decide +kernel, by decide +kernel⟩
theorem bi_Bindings_init : BindOf "__init__" "Bindings.__init__" b_Bindings_init ["self"] := fun _ _ _ _ _ _ us hl => match us, hl with | [_], _ => by kernel_rfl
abbrev b_is_name : Stmt := top 33
abbrev n_is_name : List PySem.Str := ["thing"]
theorem sc_is_name : FnScope n_is_name ["thing"] (defScope b_is_name) := ⟨by kernel_rfl, by kernel_rfl, by kernel_rfl, by decide +kernel, by kernel_rfl, by decide +kernel, by decide +kernel⟩
theorem bi_is_name : BindOf "is_name" "is_name" b_is_name ["thing"] := fun _ _ _ _ _ _ us hl => match us, hl with | [_], _ => by kernel_rfl
abbrev b_is_label : Stmt := top 34
abbrev n_is_label : List PySem.Str := ["thing"]
theorem sc_is_label : FnScope n_is_label ["thing"] (defScope b_is_label) := ⟨by kernel_rfl, by kernel_rfl, by kernel_rfl, by decide +kernel, by kernel_rfl, by decide +kernel, by decide +kernel⟩
theorem bi_is_label : BindOf "is_label" "is_label" b_is_label ["thing"] := fun _ _ _ _ _ _ us hl => match us, hl with | [_], _ => by kernel_rfl
abbrev b_unquoted : Stmt := top 36
abbrev n_unquoted : List PySem.Str := ["text", "label", "at"]
theorem sc_unquoted : FnScope n_unquoted ["text"] (defScope b_unquoted) := ⟨by kernel_rfl, by kernel_rfl, by kernel_rfl, by decide +kernel, by kernel_rfl, by decide +kernel, by decide +kernel⟩
theorem bi_unquoted : BindOf "unquoted" "unquoted" b_unquoted ["text"] := fun _ _ _ _ _ _ us hl => match us, hl with | [_], _ => by kernel_rfl
abbrev b_layer_of : Stmt := top 43
abbrev n_layer_of : List PySem.Str := ["tree", "name", "ancestor"]
theorem sc_layer_of : FnScope n_layer_of ["tree", "name"] (defScope b_layer_of) := ⟨by kernel_rfl, by kernel_rfl, by kernel_rfl, by decide +kernel, by kernel_rfl, by decide +kernel, by decide +kernel⟩
theorem bi_layer_of : BindOf "layer_of" "layer_of" b_layer_of ["tree", "name"] := fun _ _ _ _ _ _ us hl => match us, hl with | [_, _], _ => by kernel_rfl
abbrev b_between : Stmt := top 44
abbrev n_between : List PySem.Str := ["tree", "name", "found", "ancestor"]
theorem sc_between : FnScope n_between ["tree", "name"] (defScope b_between) := ⟨by kernel_rfl, by kernel_rfl, by kernel_rfl, by decide +kernel, by kernel_rfl, by decide +kernel, by decide +kernel⟩
theorem bi_between : BindOf "between" "between" b_between ["tree", "name"] := fun _ _ _ _ _ _ us hl => match us, hl with | [_, _], _ => by kernel_rfl
abbrev b_is_usable : Stmt := top 45
abbrev n_is_usable : List PySem.Str := ["tree", "name"]
theorem sc_is_usable : FnScope n_is_usable ["tree", "name"] (defScope b_is_usable) := ⟨by kernel_rfl, by kernel_rfl, by kernel_rfl, by decide +kernel, by kernel_rfl, by decide +kernel, by decide +kernel⟩
theorem bi_is_usable : BindOf "is_usable" "is_usable" b_is_usable ["tree", "name"] := fun _ _ _ _ _ _ us hl => match us, hl with | [_, _], _ => by kernel_rfl
abbrev b_is_focusable : Stmt := top 46
abbrev n_is_focusable : List PySem.Str := ["tree", "name"]
theorem sc_is_focusable : FnScope n_is_focusable ["tree", "name"] (defScope b_is_focusable) := ⟨by kernel_rfl, by kernel_rfl, by kernel_rfl, by decide +kernel, by kernel_rfl, by decide +kernel, by decide +kernel⟩
theorem bi_is_focusable : BindOf "is_focusable" "is_focusable" b_is_focusable ["tree", "name"] := fun _ _ _ _ _ _ us hl => match us, hl with | [_, _], _ => by kernel_rfl
abbrev b_focusable_items : Stmt := top 47
abbrev n_focusable_items : List PySem.Str := ["tree", "layer", "name"]
theorem sc_focusable_items : FnScope n_focusable_items ["tree", "layer"] (defScope b_focusable_items) := ⟨by kernel_rfl, by kernel_rfl, by kernel_rfl, by decide +kernel, by kernel_rfl, by decide +kernel, by decide +kernel⟩
theorem bi_focusable_items : BindOf "focusable_items" "focusable_items" b_focusable_items ["tree", "layer"] := fun _ _ _ _ _ _ us hl => match us, hl with | [_, _], _ => by kernel_rfl
abbrev b_composite_of : Stmt := top 50
abbrev n_composite_of : List PySem.Str := ["tree", "name", "found", "ancestor"]
theorem sc_composite_of : FnScope n_composite_of ["tree", "name"] (defScope b_composite_of) := ⟨by kernel_rfl, by kernel_rfl, by kernel_rfl, by decide +kernel, by kernel_rfl, by decide +kernel, by decide +kernel⟩
theorem bi_composite_of : BindOf "composite_of" "composite_of" b_composite_of ["tree", "name"] := fun _ _ _ _ _ _ us hl => match us, hl with | [_, _], _ => by kernel_rfl
abbrev b_is_outer : Stmt := top 51
abbrev n_is_outer : List PySem.Str := ["tree", "name"]
theorem sc_is_outer : FnScope n_is_outer ["tree", "name"] (defScope b_is_outer) := ⟨by kernel_rfl, by kernel_rfl, by kernel_rfl, by decide +kernel, by kernel_rfl, by decide +kernel, by decide +kernel⟩
theorem bi_is_outer : BindOf "is_outer" "is_outer" b_is_outer ["tree", "name"] := fun _ _ _ _ _ _ us hl => match us, hl with | [_, _], _ => by kernel_rfl
abbrev b_outer_composites : Stmt := top 52
abbrev n_outer_composites : List PySem.Str := ["tree", "name"]
theorem sc_outer_composites : FnScope n_outer_composites ["tree"] (defScope b_outer_composites) := ⟨by kernel_rfl, by kernel_rfl, by kernel_rfl, by decide +kernel, by kernel_rfl, by decide +kernel, by decide +kernel⟩
theorem bi_outer_composites : BindOf "outer_composites" "outer_composites" b_outer_composites ["tree"] := fun _ _ _ _ _ _ us hl => match us, hl with | [_], _ => by kernel_rfl
abbrev b_members : Stmt := top 53
abbrev n_members : List PySem.Str := ["tree", "composite", "items", "item"]
theorem sc_members : FnScope n_members ["tree", "composite"] (defScope b_members) := ⟨by kernel_rfl, by kernel_rfl, by kernel_rfl, by decide +kernel, by kernel_rfl, by decide +kernel, by decide +kernel⟩
theorem bi_members : BindOf "members" "members" b_members ["tree", "composite"] := fun _ _ _ _ _ _ us hl => match us, hl with | [_, _], _ => by kernel_rfl
abbrev b_place_of : Stmt := top 56
abbrev n_place_of : List PySem.Str := ["tree", "item", "composite", "row"]
theorem sc_place_of : FnScope n_place_of ["tree", "item"] (defScope b_place_of) := ⟨by kernel_rfl, by kernel_rfl, by kernel_rfl, by decide +kernel, by kernel_rfl, by decide +kernel, by decide +kernel⟩
theorem bi_place_of : BindOf "place_of" "place_of" b_place_of ["tree", "item"] := fun _ _ _ _ _ _ us hl => match us, hl with | [_, _], _ => by kernel_rfl
abbrev b_wrapped : Stmt := top 58
abbrev n_wrapped : List PySem.Str := ["tree", "composite", "at", "size"]
theorem sc_wrapped : FnScope n_wrapped ["tree", "composite", "at", "size"] (defScope b_wrapped) := ⟨by kernel_rfl, by kernel_rfl, by kernel_rfl, by decide +kernel, by kernel_rfl, by decide +kernel, by decide +kernel⟩
theorem bi_wrapped : BindOf "wrapped" "wrapped" b_wrapped ["tree", "composite", "at", "size"] := fun _ _ _ _ _ _ us hl => match us, hl with | [_, _, _, _], _ => by kernel_rfl
abbrev b_moved : Stmt := top 59
abbrev n_moved : List PySem.Str := ["tree", "item", "movement", "composite", "row", "at", "step"]
theorem sc_moved : FnScope n_moved ["tree", "item", "movement"] (defScope b_moved) := ⟨by kernel_rfl, by kernel_rfl, by kernel_rfl, by decide +kernel, by kernel_rfl, by decide +kernel, by decide +kernel⟩
theorem bi_moved : BindOf "moved" "moved" b_moved ["tree", "item", "movement"] := fun _ _ _ _ _ _ us hl => match us, hl with | [_, _, _], _ => by kernel_rfl
abbrev b_begins_with : Stmt := top 60
abbrev n_begins_with : List PySem.Str := ["label", "text"]
theorem sc_begins_with : FnScope n_begins_with ["label", "text"] (defScope b_begins_with) := ⟨by kernel_rfl, by kernel_rfl, by kernel_rfl, by decide +kernel, by kernel_rfl, by decide +kernel, by decide +kernel⟩
theorem bi_begins_with : BindOf "begins_with" "begins_with" b_begins_with ["label", "text"] := fun _ _ _ _ _ _ us hl => match us, hl with | [_, _], _ => by kernel_rfl
abbrev b_found_by : Stmt := top 61
abbrev n_found_by : List PySem.Str := ["tree", "item", "text", "row", "at", "other"]
theorem sc_found_by : FnScope n_found_by ["tree", "item", "text"] (defScope b_found_by) := ⟨by kernel_rfl, by kernel_rfl, by kernel_rfl, by decide +kernel, by kernel_rfl, by decide +kernel, by decide +kernel⟩
theorem bi_found_by : BindOf "found_by" "found_by" b_found_by ["tree", "item", "text"] := fun _ _ _ _ _ _ us hl => match us, hl with | [_, _, _], _ => by kernel_rfl
abbrev b_first_of : Stmt := top 69
abbrev n_first_of : List PySem.Str := ["row"]
theorem sc_first_of : FnScope n_first_of ["row"] (defScope b_first_of) := ⟨by kernel_rfl, by kernel_rfl, by kernel_rfl, by decide +kernel, by kernel_rfl, by decide +kernel, by decide +kernel⟩
theorem bi_first_of : BindOf "first_of" "first_of" b_first_of ["row"] := fun _ _ _ _ _ _ us hl => match us, hl with | [_], _ => by kernel_rfl
abbrev b_Layers_init : Stmt := inClass (top 70) 0
abbrev n_Layers_init : List PySem.Str := ["self", "tree", "composite"]
theorem sc_Layers_init : FnScope n_Layers_init ["self", "tree"] (defScope b_Layers_init) := ⟨by kernel_rfl, by kernel_rfl, by kernel_rfl, by decide +kernel, by kernel_rfl, by decide +kernel, by decide +kernel⟩
theorem bi_Layers_init : BindOf "__init__" "Layers.__init__" b_Layers_init ["self", "tree"] := fun _ _ _ _ _ _ us hl => match us, hl with | [_, _], _ => by kernel_rfl
abbrev b_Layers_top : Stmt := inClass (top 70) 1
abbrev n_Layers_top : List PySem.Str := ["self"]
theorem sc_Layers_top : FnScope n_Layers_top ["self"] (defScope b_Layers_top) := ⟨by kernel_rfl, by kernel_rfl, by kernel_rfl, by decide +kernel, by kernel_rfl, by decide +kernel, by decide +kernel⟩
theorem bi_Layers_top : BindOf "top" "Layers.top" b_Layers_top ["self"] := fun _ _ _ _ _ _ us hl => match us, hl with | [_], _ => by kernel_rfl
abbrev b_Layers_focused : Stmt := inClass (top 70) 2
abbrev n_Layers_focused : List PySem.Str := ["self"]
theorem sc_Layers_focused : FnScope n_Layers_focused ["self"] (defScope b_Layers_focused) := ⟨by kernel_rfl, by kernel_rfl, by kernel_rfl, by decide +kernel, by kernel_rfl, by decide +kernel, by decide +kernel⟩
theorem bi_Layers_focused : BindOf "focused" "Layers.focused" b_Layers_focused ["self"] := fun _ _ _ _ _ _ us hl => match us, hl with | [_], _ => by kernel_rfl
abbrev b_Layers_focus_path : Stmt := inClass (top 70) 3
abbrev n_Layers_focus_path : List PySem.Str := ["self", "item"]
theorem sc_Layers_focus_path : FnScope n_Layers_focus_path ["self"] (defScope b_Layers_focus_path) := ⟨by kernel_rfl, by kernel_rfl, by kernel_rfl, by decide +kernel, by kernel_rfl, by decide +kernel, by decide +kernel⟩
theorem bi_Layers_focus_path : BindOf "focus_path" "Layers.focus_path" b_Layers_focus_path ["self"] := fun _ _ _ _ _ _ us hl => match us, hl with | [_], _ => by kernel_rfl
abbrev b_Layers_focus : Stmt := inClass (top 70) 5
abbrev n_Layers_focus : List PySem.Str := ["self", "item"]
theorem sc_Layers_focus : FnScope n_Layers_focus ["self", "item"] (defScope b_Layers_focus) := ⟨by kernel_rfl, by kernel_rfl, by kernel_rfl, by decide +kernel, by kernel_rfl, by decide +kernel, by decide +kernel⟩
theorem bi_Layers_focus : BindOf "focus" "Layers.focus" b_Layers_focus ["self", "item"] := fun _ _ _ _ _ _ us hl => match us, hl with | [_, _], _ => by kernel_rfl
abbrev b_Layers_rove : Stmt := inClass (top 70) 6
abbrev n_Layers_rove : List PySem.Str := ["self", "item", "composite"]
theorem sc_Layers_rove : FnScope n_Layers_rove ["self", "item"] (defScope b_Layers_rove) := ⟨by kernel_rfl, by kernel_rfl, by kernel_rfl, by decide +kernel, by kernel_rfl, by decide +kernel, by decide +kernel⟩
theorem bi_Layers_rove : BindOf "rove" "Layers.rove" b_Layers_rove ["self", "item"] := fun _ _ _ _ _ _ us hl => match us, hl with | [_, _], _ => by kernel_rfl
abbrev b_Node_init : Stmt := inClass (top 79) 0
abbrev n_Node_init : List PySem.Str := ["self", "kind", "label", "parent"]
theorem sc_Node_init : FnScope n_Node_init ["self", "kind", "label", "parent"] (defScope b_Node_init) := ⟨by kernel_rfl, by kernel_rfl, by kernel_rfl, by decide +kernel, by kernel_rfl, by decide +kernel, by decide +kernel⟩
theorem bi_Node_init : BindOf "__init__" "Node.__init__" b_Node_init ["self", "kind", "label", "parent"] := fun _ _ _ _ _ _ us hl => match us, hl with | [_, _, _, _], _ => by kernel_rfl
abbrev b_Tree_init : Stmt := inClass (top 80) 0
abbrev n_Tree_init : List PySem.Str := ["self", "nodes"]
theorem sc_Tree_init : FnScope n_Tree_init ["self", "nodes"] (defScope b_Tree_init) := ⟨by kernel_rfl, by kernel_rfl, by kernel_rfl, by decide +kernel, by kernel_rfl, by decide +kernel, by decide +kernel⟩
theorem bi_Tree_init : BindOf "__init__" "Tree.__init__" b_Tree_init ["self", "nodes"] := fun _ _ _ _ _ _ us hl => match us, hl with | [_, _], _ => by kernel_rfl
abbrev b_Tree_has : Stmt := inClass (top 80) 2
abbrev n_Tree_has : List PySem.Str := ["self", "name"]
theorem sc_Tree_has : FnScope n_Tree_has ["self", "name"] (defScope b_Tree_has) := ⟨by kernel_rfl, by kernel_rfl, by kernel_rfl, by decide +kernel, by kernel_rfl, by decide +kernel, by decide +kernel⟩
theorem bi_Tree_has : BindOf "has" "Tree.has" b_Tree_has ["self", "name"] := fun _ _ _ _ _ _ us hl => match us, hl with | [_, _], _ => by kernel_rfl
abbrev b_Tree_kind : Stmt := inClass (top 80) 3
abbrev n_Tree_kind : List PySem.Str := ["self", "name"]
theorem sc_Tree_kind : FnScope n_Tree_kind ["self", "name"] (defScope b_Tree_kind) := ⟨by kernel_rfl, by kernel_rfl, by kernel_rfl, by decide +kernel, by kernel_rfl, by decide +kernel, by decide +kernel⟩
theorem bi_Tree_kind : BindOf "kind" "Tree.kind" b_Tree_kind ["self", "name"] := fun _ _ _ _ _ _ us hl => match us, hl with | [_, _], _ => by kernel_rfl
abbrev b_Tree_label : Stmt := inClass (top 80) 4
abbrev n_Tree_label : List PySem.Str := ["self", "name"]
theorem sc_Tree_label : FnScope n_Tree_label ["self", "name"] (defScope b_Tree_label) := ⟨by kernel_rfl, by kernel_rfl, by kernel_rfl, by decide +kernel, by kernel_rfl, by decide +kernel, by decide +kernel⟩
theorem bi_Tree_label : BindOf "label" "Tree.label" b_Tree_label ["self", "name"] := fun _ _ _ _ _ _ us hl => match us, hl with | [_, _], _ => by kernel_rfl
abbrev b_Tree_is_visible : Stmt := inClass (top 80) 5
abbrev n_Tree_is_visible : List PySem.Str := ["self", "name"]
theorem sc_Tree_is_visible : FnScope n_Tree_is_visible ["self", "name"] (defScope b_Tree_is_visible) := ⟨by kernel_rfl, by kernel_rfl, by kernel_rfl, by decide +kernel, by kernel_rfl, by decide +kernel, by decide +kernel⟩
theorem bi_Tree_is_visible : BindOf "is_visible" "Tree.is_visible" b_Tree_is_visible ["self", "name"] := fun _ _ _ _ _ _ us hl => match us, hl with | [_, _], _ => by kernel_rfl
abbrev b_Tree_is_enabled : Stmt := inClass (top 80) 6
abbrev n_Tree_is_enabled : List PySem.Str := ["self", "name"]
theorem sc_Tree_is_enabled : FnScope n_Tree_is_enabled ["self", "name"] (defScope b_Tree_is_enabled) := ⟨by kernel_rfl, by kernel_rfl, by kernel_rfl, by decide +kernel, by kernel_rfl, by decide +kernel, by decide +kernel⟩
theorem bi_Tree_is_enabled : BindOf "is_enabled" "Tree.is_enabled" b_Tree_is_enabled ["self", "name"] := fun _ _ _ _ _ _ us hl => match us, hl with | [_, _], _ => by kernel_rfl
abbrev b_Tree_children : Stmt := inClass (top 80) 8
abbrev n_Tree_children : List PySem.Str := ["self", "name"]
theorem sc_Tree_children : FnScope n_Tree_children ["self", "name"] (defScope b_Tree_children) := ⟨by kernel_rfl, by kernel_rfl, by kernel_rfl, by decide +kernel, by kernel_rfl, by decide +kernel, by decide +kernel⟩
theorem bi_Tree_children : BindOf "children" "Tree.children" b_Tree_children ["self", "name"] := fun _ _ _ _ _ _ us hl => match us, hl with | [_, _], _ => by kernel_rfl
abbrev b_Tree_ancestors : Stmt := inClass (top 80) 9
abbrev n_Tree_ancestors : List PySem.Str := ["self", "name", "found", "other"]
theorem sc_Tree_ancestors : FnScope n_Tree_ancestors ["self", "name"] (defScope b_Tree_ancestors) := ⟨by kernel_rfl, by kernel_rfl, by kernel_rfl, by decide +kernel, by kernel_rfl, by decide +kernel, by decide +kernel⟩
theorem bi_Tree_ancestors : BindOf "ancestors" "Tree.ancestors" b_Tree_ancestors ["self", "name"] := fun _ _ _ _ _ _ us hl => match us, hl with | [_, _], _ => by kernel_rfl
abbrev b_Tree_depth : Stmt := inClass (top 80) 10
abbrev n_Tree_depth : List PySem.Str := ["self", "name"]
theorem sc_Tree_depth : FnScope n_Tree_depth ["self", "name"] (defScope b_Tree_depth) := ⟨by kernel_rfl, by kernel_rfl, by kernel_rfl, by decide +kernel, by kernel_rfl, by decide +kernel, by decide +kernel⟩
theorem bi_Tree_depth : BindOf "depth" "Tree.depth" b_Tree_depth ["self", "name"] := fun _ _ _ _ _ _ us hl => match us, hl with | [_, _], _ => by kernel_rfl
abbrev b_Tree_subtree : Stmt := inClass (top 80) 11
abbrev n_Tree_subtree : List PySem.Str := ["self", "name", "found", "child"]
theorem sc_Tree_subtree : FnScope n_Tree_subtree ["self", "name"] (defScope b_Tree_subtree) := ⟨by kernel_rfl, by kernel_rfl, by kernel_rfl, by decide +kernel, by kernel_rfl, by decide +kernel, by decide +kernel⟩
theorem bi_Tree_subtree : BindOf "subtree" "Tree.subtree" b_Tree_subtree ["self", "name"] := fun _ _ _ _ _ _ us hl => match us, hl with | [_, _], _ => by kernel_rfl
abbrev b_Tree_names : Stmt := inClass (top 80) 12
abbrev n_Tree_names : List PySem.Str := ["self"]
theorem sc_Tree_names : FnScope n_Tree_names ["self"] (defScope b_Tree_names) := ⟨by kernel_rfl, by kernel_rfl, by kernel_rfl, by decide +kernel, by kernel_rfl, by decide +kernel, by decide +kernel⟩
theorem bi_Tree_names : BindOf "names" "Tree.names" b_Tree_names ["self"] := fun _ _ _ _ _ _ us hl => match us, hl with | [_], _ => by kernel_rfl
abbrev b_Tree_need : Stmt := inClass (top 80) 15
abbrev n_Tree_need : List PySem.Str := ["self", "name"]
theorem sc_Tree_need : FnScope n_Tree_need ["self", "name"] (defScope b_Tree_need) := ⟨by kernel_rfl, by kernel_rfl, by kernel_rfl, by decide +kernel, by kernel_rfl, by decide +kernel, by decide +kernel⟩
theorem bi_Tree_need : BindOf "need" "Tree.need" b_Tree_need ["self", "name"] := fun _ _ _ _ _ _ us hl => match us, hl with | [_, _], _ => by kernel_rfl
abbrev b_Tree_need_inner : Stmt := inClass (top 80) 16
abbrev n_Tree_need_inner : List PySem.Str := ["self", "name"]
theorem sc_Tree_need_inner : FnScope n_Tree_need_inner ["self", "name"] (defScope b_Tree_need_inner) := ⟨by kernel_rfl, by kernel_rfl, by kernel_rfl, by decide +kernel, by kernel_rfl, by decide +kernel, by decide +kernel⟩
theorem bi_Tree_need_inner : BindOf "need_inner" "Tree.need_inner" b_Tree_need_inner ["self", "name"] := fun _ _ _ _ _ _ us hl => match us, hl with | [_, _], _ => by kernel_rfl
abbrev b_Tree_need_place : Stmt := inClass (top 80) 17
abbrev n_Tree_need_place : List PySem.Str := ["self", "parent", "index", "rest"]
theorem sc_Tree_need_place : FnScope n_Tree_need_place ["self", "parent", "index", "rest"] (defScope b_Tree_need_place) := ⟨by kernel_rfl, by kernel_rfl, by kernel_rfl, by decide +kernel, by kernel_rfl, by decide +kernel, by decide +kernel⟩
theorem bi_Tree_need_place : BindOf "need_place" "Tree.need_place" b_Tree_need_place ["self", "parent", "index", "rest"] := fun _ _ _ _ _ _ us hl => match us, hl with | [_, _, _, _], _ => by kernel_rfl
abbrev b_Tree_insert : Stmt := inClass (top 80) 18
abbrev n_Tree_insert : List PySem.Str := ["self", "parent", "index", "kind", "name", "label"]
theorem sc_Tree_insert : FnScope n_Tree_insert ["self", "parent", "index", "kind", "name", "label"] (defScope b_Tree_insert) := ⟨by kernel_rfl, by kernel_rfl, by kernel_rfl, by decide +kernel, by kernel_rfl, by decide +kernel, by decide +kernel⟩
theorem bi_Tree_insert : BindOf "insert" "Tree.insert" b_Tree_insert ["self", "parent", "index", "kind", "name", "label"] := fun _ _ _ _ _ _ us hl => match us, hl with | [_, _, _, _, _, _], _ => by kernel_rfl
abbrev b_Tree_set_flag : Stmt := inClass (top 80) 23
abbrev n_Tree_set_flag : List PySem.Str := ["self", "name", "flag", "value", "node", "old"]
theorem sc_Tree_set_flag : FnScope n_Tree_set_flag ["self", "name", "flag", "value"] (defScope b_Tree_set_flag) := ⟨by kernel_rfl, by kernel_rfl, by kernel_rfl, by decide +kernel, by kernel_rfl, by decide +kernel, by decide +kernel⟩
theorem bi_Tree_set_flag : BindOf "set_flag" "Tree.set_flag" b_Tree_set_flag ["self", "name", "flag", "value"] := fun _ _ _ _ _ _ us hl => match us, hl with | [_, _, _, _], _ => by kernel_rfl
abbrev b_new_tree : Stmt := top 81
abbrev n_new_tree : List PySem.Str := ["label"]
theorem sc_new_tree : FnScope n_new_tree ["label"] (defScope b_new_tree) := ⟨by kernel_rfl, by kernel_rfl, by kernel_rfl, by decide +kernel, by kernel_rfl, by decide +kernel, by decide +kernel⟩
theorem bi_new_tree : BindOf "new_tree" "new_tree" b_new_tree ["label"] := fun _ _ _ _ _ _ us hl => match us, hl with | [_], _ => by kernel_rfl
abbrev b_cut_off : Stmt := top 87
abbrev n_cut_off : List PySem.Str := ["text", "end"]
theorem sc_cut_off : FnScope n_cut_off ["text", "end"] (defScope b_cut_off) := ⟨by kernel_rfl, by kernel_rfl, by kernel_rfl, by decide +kernel, by kernel_rfl, by decide +kernel, by decide +kernel⟩
theorem bi_cut_off : BindOf "cut_off" "cut_off" b_cut_off ["text", "end"] := fun _ _ _ _ _ _ us hl => match us, hl with | [_, _], _ => by kernel_rfl
abbrev b_info_of : Stmt := top 88
abbrev n_info_of : List PySem.Str := ["line", "text", "spaces", "words", "rest", "is_disabled", "is_hidden", "label"]
theorem sc_info_of : FnScope n_info_of ["line"] (defScope b_info_of) := ⟨by kernel_rfl, by kernel_rfl, by kernel_rfl, by decide +kernel, by kernel_rfl, by decide +kernel, by decide +kernel⟩
theorem bi_info_of : BindOf "info_of" "info_of" b_info_of ["line"] := fun _ _ _ _ _ _ us hl => match us, hl with | [_], _ => by kernel_rfl
abbrev b_Reader_init : Stmt := inClass (top 89) 0
abbrev n_Reader_init : List PySem.Str := ["self"]
theorem sc_Reader_init : FnScope n_Reader_init ["self"] (defScope b_Reader_init) := ⟨by kernel_rfl, by kernel_rfl, by kernel_rfl, by decide +kernel, by kernel_rfl, by decide +kernel, by decide +kernel⟩
theorem bi_Reader_init : BindOf "__init__" "Reader.__init__" b_Reader_init ["self"] := fun _ _ _ _ _ _ us hl => match us, hl with | [_], _ => by kernel_rfl
abbrev b_Reader_read_root : Stmt := inClass (top 89) 1
abbrev n_Reader_read_root : List PySem.Str := ["self", "info", "name", "kind", "label", "is_visible", "is_enabled", "depth"]
theorem sc_Reader_read_root : FnScope n_Reader_read_root ["self", "info"] (defScope b_Reader_read_root) := ⟨by kernel_rfl, by kernel_rfl, by kernel_rfl, by decide +kernel, by kernel_rfl, by decide +kernel, by decide +kernel⟩
theorem bi_Reader_read_root : BindOf "read_root" "Reader.read_root" b_Reader_read_root ["self", "info"] := fun _ _ _ _ _ _ us hl => match us, hl with | [_, _], _ => by kernel_rfl
abbrev b_Reader_can_be : Stmt := inClass (top 89) 2
abbrev n_Reader_can_be : List PySem.Str := ["self", "info", "depth"]
theorem sc_Reader_can_be : FnScope n_Reader_can_be ["self", "info"] (defScope b_Reader_can_be) := ⟨by kernel_rfl, by kernel_rfl, by kernel_rfl, by decide +kernel, by kernel_rfl, by decide +kernel, by decide +kernel⟩
theorem bi_Reader_can_be : BindOf "can_be" "Reader.can_be" b_Reader_can_be ["self", "info"] := fun _ _ _ _ _ _ us hl => match us, hl with | [_, _], _ => by kernel_rfl
abbrev b_Reader_read : Stmt := inClass (top 89) 3
abbrev n_Reader_read : List PySem.Str := ["self", "info", "name", "kind", "label", "is_visible", "is_enabled", "depth", "parent"]
theorem sc_Reader_read : FnScope n_Reader_read ["self", "info"] (defScope b_Reader_read) := ⟨by kernel_rfl, by kernel_rfl, by kernel_rfl, by decide +kernel, by kernel_rfl, by decide +kernel, by decide +kernel⟩
theorem bi_Reader_read : BindOf "read" "Reader.read" b_Reader_read ["self", "info"] := fun _ _ _ _ _ _ us hl => match us, hl with | [_, _], _ => by kernel_rfl
abbrev b_parse_outline : Stmt := top 90
abbrev n_parse_outline : List PySem.Str := ["text", "reader", "number", "line"]
theorem sc_parse_outline : FnScope n_parse_outline ["text"] (defScope b_parse_outline) := ⟨by kernel_rfl, by kernel_rfl, by kernel_rfl, by decide +kernel, by kernel_rfl, by decide +kernel, by decide +kernel⟩
theorem bi_parse_outline : BindOf "parse_outline" "parse_outline" b_parse_outline ["text"] := fun _ _ _ _ _ _ us hl => match us, hl with | [_], _ => by kernel_rfl
abbrev b_Manager_init : Stmt := inClass (top 92) 0
abbrev n_Manager_init : List PySem.Str := ["self", "outline"]
theorem sc_Manager_init : FnScope n_Manager_init ["self", "outline"] (defScope b_Manager_init) := ⟨by kernel_rfl, by kernel_rfl, by kernel_rfl, by decide +kernel, by kernel_rfl, by decide +kernel, by decide +kernel⟩
theorem bi_Manager_init : BindOf "__init__" "Manager.__init__" b_Manager_init ["self", "outline"] := fun _ _ _ _ _ _ us hl => match us, hl with | [_, _], _ => by kernel_rfl
abbrev b_Manager_told : Stmt := inClass (top 92) 1
abbrev n_Manager_told : List PySem.Str := ["self", "path", "steps", "name", "position", "size"]
theorem sc_Manager_told : FnScope n_Manager_told ["self"] (defScope b_Manager_told) := ⟨by kernel_rfl, by kernel_rfl, by kernel_rfl, by decide +kernel, by kernel_rfl, by decide +kernel, by decide +kernel⟩
theorem bi_Manager_told : BindOf "told" "Manager.told" b_Manager_told ["self"] := fun _ _ _ _ _ _ us hl => match us, hl with | [_], _ => by kernel_rfl
abbrev b_Manager_settled : Stmt := inClass (top 92) 2
abbrev n_Manager_settled : List PySem.Str := ["self", "path"]
theorem sc_Manager_settled : FnScope n_Manager_settled ["self", "path"] (defScope b_Manager_settled) := ⟨by kernel_rfl, by kernel_rfl, by kernel_rfl, by decide +kernel, by kernel_rfl, by decide +kernel, by decide +kernel⟩
theorem bi_Manager_settled : BindOf "settled" "Manager.settled" b_Manager_settled ["self", "path"] := fun _ _ _ _ _ _ us hl => match us, hl with | [_, _], _ => by kernel_rfl
abbrev b_Manager_need : Stmt := inClass (top 92) 3
abbrev n_Manager_need : List PySem.Str := ["self", "name"]
theorem sc_Manager_need : FnScope n_Manager_need ["self", "name"] (defScope b_Manager_need) := ⟨by kernel_rfl, by kernel_rfl, by kernel_rfl, by decide +kernel, by kernel_rfl, by decide +kernel, by decide +kernel⟩
theorem bi_Manager_need : BindOf "need" "Manager.need" b_Manager_need ["self", "name"] := fun _ _ _ _ _ _ us hl => match us, hl with | [_, _], _ => by kernel_rfl
abbrev b_Manager_need_kind : Stmt := inClass (top 92) 4
abbrev n_Manager_need_kind : List PySem.Str := ["self", "name", "kinds", "what"]
theorem sc_Manager_need_kind : FnScope n_Manager_need_kind ["self", "name", "kinds", "what"] (defScope b_Manager_need_kind) := ⟨by kernel_rfl, by kernel_rfl, by kernel_rfl, by decide +kernel, by kernel_rfl, by decide +kernel, by decide +kernel⟩
theorem bi_Manager_need_kind : BindOf "need_kind" "Manager.need_kind" b_Manager_need_kind ["self", "name", "kinds", "what"] := fun _ _ _ _ _ _ us hl => match us, hl with | [_, _, _, _], _ => by kernel_rfl
abbrev b_Manager_current_item : Stmt := inClass (top 92) 22
abbrev n_Manager_current_item : List PySem.Str := ["self", "composite"]
theorem sc_Manager_current_item : FnScope n_Manager_current_item ["self", "composite"] (defScope b_Manager_current_item) := ⟨by kernel_rfl, by kernel_rfl, by kernel_rfl, by decide +kernel, by kernel_rfl, by decide +kernel, by decide +kernel⟩
theorem bi_Manager_current_item : BindOf "current_item" "Manager.current_item" b_Manager_current_item ["self", "composite"] := fun _ _ _ _ _ _ us hl => match us, hl with | [_, _], _ => by kernel_rfl
abbrev b_Manager_layer_item : Stmt := inClass (top 92) 23
abbrev n_Manager_layer_item : List PySem.Str := ["self", "layer"]
theorem sc_Manager_layer_item : FnScope n_Manager_layer_item ["self", "layer"] (defScope b_Manager_layer_item) := ⟨by kernel_rfl, by kernel_rfl, by kernel_rfl, by decide +kernel, by kernel_rfl, by decide +kernel, by decide +kernel⟩
theorem bi_Manager_layer_item : BindOf "layer_item" "Manager.layer_item" b_Manager_layer_item ["self", "layer"] := fun _ _ _ _ _ _ us hl => match us, hl with | [_, _], _ => by kernel_rfl
abbrev b_Manager_focused : Stmt := inClass (top 92) 24
abbrev n_Manager_focused : List PySem.Str := ["self"]
theorem sc_Manager_focused : FnScope n_Manager_focused ["self"] (defScope b_Manager_focused) := ⟨by kernel_rfl, by kernel_rfl, by kernel_rfl, by decide +kernel, by kernel_rfl, by decide +kernel, by decide +kernel⟩
theorem bi_Manager_focused : BindOf "focused" "Manager.focused" b_Manager_focused ["self"] := fun _ _ _ _ _ _ us hl => match us, hl with | [_], _ => by kernel_rfl
abbrev b_Manager_focus_path : Stmt := inClass (top 92) 25
abbrev n_Manager_focus_path : List PySem.Str := ["self"]
theorem sc_Manager_focus_path : FnScope n_Manager_focus_path ["self"] (defScope b_Manager_focus_path) := ⟨by kernel_rfl, by kernel_rfl, by kernel_rfl, by decide +kernel, by kernel_rfl, by decide +kernel, by decide +kernel⟩
theorem bi_Manager_focus_path : BindOf "focus_path" "Manager.focus_path" b_Manager_focus_path ["self"] := fun _ _ _ _ _ _ us hl => match us, hl with | [_], _ => by kernel_rfl
abbrev b_Manager_open_layers : Stmt := inClass (top 92) 26
abbrev n_Manager_open_layers : List PySem.Str := ["self"]
theorem sc_Manager_open_layers : FnScope n_Manager_open_layers ["self"] (defScope b_Manager_open_layers) := ⟨by kernel_rfl, by kernel_rfl, by kernel_rfl, by decide +kernel, by kernel_rfl, by decide +kernel, by decide +kernel⟩
theorem bi_Manager_open_layers : BindOf "open_layers" "Manager.open_layers" b_Manager_open_layers ["self"] := fun _ _ _ _ _ _ us hl => match us, hl with | [_], _ => by kernel_rfl
abbrev b_Manager_has_composite : Stmt := inClass (top 92) 30
abbrev n_Manager_has_composite : List PySem.Str := ["self", "item"]
theorem sc_Manager_has_composite : FnScope n_Manager_has_composite ["self"] (defScope b_Manager_has_composite) := ⟨by kernel_rfl, by kernel_rfl, by kernel_rfl, by decide +kernel, by kernel_rfl, by decide +kernel, by decide +kernel⟩
theorem bi_Manager_has_composite : BindOf "has_composite" "Manager.has_composite" b_Manager_has_composite ["self"] := fun _ _ _ _ _ _ us hl => match us, hl with | [_], _ => by kernel_rfl
abbrev b_Manager_go : Stmt := inClass (top 92) 31
abbrev n_Manager_go : List PySem.Str := ["self", "item", "path"]
theorem sc_Manager_go : FnScope n_Manager_go ["self", "item"] (defScope b_Manager_go) := ⟨by kernel_rfl, by kernel_rfl, by kernel_rfl, by decide +kernel, by kernel_rfl, by decide +kernel, by decide +kernel⟩
theorem bi_Manager_go : BindOf "go" "Manager.go" b_Manager_go ["self", "item"] := fun _ _ _ _ _ _ us hl => match us, hl with | [_, _], _ => by kernel_rfl
abbrev b_Manager_within : Stmt := inClass (top 92) 32
abbrev n_Manager_within : List PySem.Str := ["self", "movement"]
theorem sc_Manager_within : FnScope n_Manager_within ["self", "movement"] (defScope b_Manager_within) := ⟨by kernel_rfl, by kernel_rfl, by kernel_rfl, by decide +kernel, by kernel_rfl, by decide +kernel, by decide +kernel⟩
theorem bi_Manager_within : BindOf "within" "Manager.within" b_Manager_within ["self", "movement"] := fun _ _ _ _ _ _ us hl => match us, hl with | [_, _], _ => by kernel_rfl
abbrev b_Manager_next_item : Stmt := inClass (top 92) 33
abbrev n_Manager_next_item : List PySem.Str := ["self"]
theorem sc_Manager_next_item : FnScope n_Manager_next_item ["self"] (defScope b_Manager_next_item) := ⟨by kernel_rfl, by kernel_rfl, by kernel_rfl, by decide +kernel, by kernel_rfl, by decide +kernel, by decide +kernel⟩
theorem bi_Manager_next_item : BindOf "next_item" "Manager.next_item" b_Manager_next_item ["self"] := fun _ _ _ _ _ _ us hl => match us, hl with | [_], _ => by kernel_rfl
abbrev b_Manager_previous_item : Stmt := inClass (top 92) 34
abbrev n_Manager_previous_item : List PySem.Str := ["self"]
theorem sc_Manager_previous_item : FnScope n_Manager_previous_item ["self"] (defScope b_Manager_previous_item) := ⟨by kernel_rfl, by kernel_rfl, by kernel_rfl, by decide +kernel, by kernel_rfl, by decide +kernel, by decide +kernel⟩
theorem bi_Manager_previous_item : BindOf "previous_item" "Manager.previous_item" b_Manager_previous_item ["self"] := fun _ _ _ _ _ _ us hl => match us, hl with | [_], _ => by kernel_rfl
abbrev b_Manager_first_item : Stmt := inClass (top 92) 35
abbrev n_Manager_first_item : List PySem.Str := ["self"]
theorem sc_Manager_first_item : FnScope n_Manager_first_item ["self"] (defScope b_Manager_first_item) := ⟨by kernel_rfl, by kernel_rfl, by kernel_rfl, by decide +kernel, by kernel_rfl, by decide +kernel, by decide +kernel⟩
theorem bi_Manager_first_item : BindOf "first_item" "Manager.first_item" b_Manager_first_item ["self"] := fun _ _ _ _ _ _ us hl => match us, hl with | [_], _ => by kernel_rfl
abbrev b_Manager_last_item : Stmt := inClass (top 92) 36
abbrev n_Manager_last_item : List PySem.Str := ["self"]
theorem sc_Manager_last_item : FnScope n_Manager_last_item ["self"] (defScope b_Manager_last_item) := ⟨by kernel_rfl, by kernel_rfl, by kernel_rfl, by decide +kernel, by kernel_rfl, by decide +kernel, by decide +kernel⟩
theorem bi_Manager_last_item : BindOf "last_item" "Manager.last_item" b_Manager_last_item ["self"] := fun _ _ _ _ _ _ us hl => match us, hl with | [_], _ => by kernel_rfl
abbrev b_Manager_typeahead : Stmt := inClass (top 92) 37
abbrev n_Manager_typeahead : List PySem.Str := ["self", "text"]
theorem sc_Manager_typeahead : FnScope n_Manager_typeahead ["self", "text"] (defScope b_Manager_typeahead) := ⟨by kernel_rfl, by kernel_rfl, by kernel_rfl, by decide +kernel, by kernel_rfl, by decide +kernel, by decide +kernel⟩
theorem bi_Manager_typeahead : BindOf "typeahead" "Manager.typeahead" b_Manager_typeahead ["self", "text"] := fun _ _ _ _ _ _ us hl => match us, hl with | [_, _], _ => by kernel_rfl
abbrev b_Manager_need_target : Stmt := inClass (top 92) 42
abbrev n_Manager_need_target : List PySem.Str := ["self", "name"]
theorem sc_Manager_need_target : FnScope n_Manager_need_target ["self", "name"] (defScope b_Manager_need_target) := ⟨by kernel_rfl, by kernel_rfl, by kernel_rfl, by decide +kernel, by kernel_rfl, by decide +kernel, by decide +kernel⟩
theorem bi_Manager_need_target : BindOf "need_target" "Manager.need_target" b_Manager_need_target ["self", "name"] := fun _ _ _ _ _ _ us hl => match us, hl with | [_, _], _ => by kernel_rfl
abbrev b_Manager_focus : Stmt := inClass (top 92) 43
abbrev n_Manager_focus : List PySem.Str := ["self", "name"]
theorem sc_Manager_focus : FnScope n_Manager_focus ["self", "name"] (defScope b_Manager_focus) := ⟨by kernel_rfl, by kernel_rfl, by kernel_rfl, by decide +kernel, by kernel_rfl, by decide +kernel, by decide +kernel⟩
theorem bi_Manager_focus : BindOf "focus" "Manager.focus" b_Manager_focus ["self", "name"] := fun _ _ _ _ _ _ us hl => match us, hl with | [_, _], _ => by kernel_rfl
abbrev b_done_as_move : Stmt := top 99
abbrev n_done_as_move : List PySem.Str := ["manager", "deed", "word"]
theorem sc_done_as_move : FnScope n_done_as_move ["manager", "deed"] (defScope b_done_as_move) := ⟨by kernel_rfl, by kernel_rfl, by kernel_rfl, by decide +kernel, by kernel_rfl, by decide +kernel, by decide +kernel⟩
theorem bi_done_as_move : BindOf "done_as_move" "done_as_move" b_done_as_move ["manager", "deed"] := fun _ _ _ _ _ _ us hl => match us, hl with | [_, _], _ => by kernel_rfl
abbrev b_done : Stmt := top 102
abbrev n_done : List PySem.Str := ["manager", "deed"]
theorem sc_done : FnScope n_done ["manager", "deed"] (defScope b_done) := ⟨by kernel_rfl, by kernel_rfl, by kernel_rfl, by decide +kernel, by kernel_rfl, by decide +kernel, by decide +kernel⟩
theorem bi_done : BindOf "done" "done" b_done ["manager", "deed"] := fun _ _ _ _ _ _ us hl => match us, hl with | [_, _], _ => by kernel_rfl
abbrev b__law_cell : Stmt := top 104
abbrev n__law_cell : List PySem.Str := ["_law_script", "_law_k"]
theorem sc__law_cell : FnScope n__law_cell ["_law_script", "_law_k"] (defScope b__law_cell) := ⟨by kernel_rfl, by kernel_rfl, by kernel_rfl, by decide +kernel, by kernel_rfl, by decide +kernel, by decide +kernel⟩
theorem bi__law_cell : BindOf "_law_cell" "_law_cell" b__law_cell ["_law_script", "_law_k"] := fun _ _ _ _ _ _ us hl => match us, hl with | [_, _], _ => by kernel_rfl
abbrev b__law_draws : Stmt := top 105
abbrev n__law_draws : List PySem.Str := ["_law_cell_here", "_law_count", "_law_found", "_law_is_wide", "_law_k", "_law_mixed"]
theorem sc__law_draws : FnScope n__law_draws ["_law_cell_here", "_law_count"] (defScope b__law_draws) := ⟨by kernel_rfl, by kernel_rfl, by kernel_rfl, by decide +kernel, by kernel_rfl, by decide +kernel, by decide +kernel⟩
theorem bi__law_draws : BindOf "_law_draws" "_law_draws" b__law_draws ["_law_cell_here", "_law_count"] := fun _ _ _ _ _ _ us hl => match us, hl with | [_, _], _ => by kernel_rfl
abbrev b__law_rows : Stmt := top 106
abbrev n__law_rows : List PySem.Str := ["_law_script", "_law_at", "_law_most", "_law_draws_here", "_law_kinds", "_law_labels", "_law_rows_here", "_law_k", "_law_more", "_law_homes", "_law_place", "_law_depth", "_law_end", "_law_name", "_law_row", "_law_p"]
theorem sc__law_rows : FnScope n__law_rows ["_law_script", "_law_at", "_law_most"] (defScope b__law_rows) := ⟨by kernel_rfl, by kernel_rfl, by kernel_rfl, by decide +kernel, by kernel_rfl, by decide +kernel, by decide +kernel⟩
theorem bi__law_rows : BindOf "_law_rows" "_law_rows" b__law_rows ["_law_script", "_law_at", "_law_most"] := fun _ _ _ _ _ _ us hl => match us, hl with | [_, _, _], _ => by kernel_rfl
abbrev b__law_outline : Stmt := top 107
abbrev n__law_outline : List PySem.Str := ["_law_rows_here", "_law_lines", "_law_name", "_law_kind", "_law_label", "_law_is_visible", "_law_is_enabled", "_law_depth", "_law_flags"]
theorem sc__law_outline : FnScope n__law_outline ["_law_rows_here"] (defScope b__law_outline) := ⟨by kernel_rfl, by kernel_rfl, by kernel_rfl, by decide +kernel, by kernel_rfl, by decide +kernel, by decide +kernel⟩
theorem bi__law_outline : BindOf "_law_outline" "_law_outline" b__law_outline ["_law_rows_here"] := fun _ _ _ _ _ _ us hl => match us, hl with | [_], _ => by kernel_rfl
abbrev b__law_tree : Stmt := top 108
abbrev n__law_tree : List PySem.Str := ["_law_infos", "_law_tree_here", "_law_path_here", "_law_name", "_law_kind", "_law_label", "_law_is_visible", "_law_is_enabled", "_law_depth"]
theorem sc__law_tree : FnScope n__law_tree ["_law_infos"] (defScope b__law_tree) := ⟨by kernel_rfl, by kernel_rfl, by kernel_rfl, by decide +kernel, by kernel_rfl, by decide +kernel, by decide +kernel⟩
theorem bi__law_tree : BindOf "_law_tree" "_law_tree" b__law_tree ["_law_infos"] := fun _ _ _ _ _ _ us hl => match us, hl with | [_], _ => by kernel_rfl
abbrev b__law_up : Stmt := top 109
abbrev n__law_up : List PySem.Str := ["_law_tree_here", "_law_name", "_law_found", "_law_other", "_law_turn"]
theorem sc__law_up : FnScope n__law_up ["_law_tree_here", "_law_name"] (defScope b__law_up) := ⟨by kernel_rfl, by kernel_rfl, by kernel_rfl, by decide +kernel, by kernel_rfl, by decide +kernel, by decide +kernel⟩
theorem bi__law_up : BindOf "_law_up" "_law_up" b__law_up ["_law_tree_here", "_law_name"] := fun _ _ _ _ _ _ us hl => match us, hl with | [_, _], _ => by kernel_rfl
abbrev b__law_layer : Stmt := top 110
abbrev n__law_layer : List PySem.Str := ["_law_tree_here", "_law_name", "_law_layers", "_law_other"]
theorem sc__law_layer : FnScope n__law_layer ["_law_tree_here", "_law_name"] (defScope b__law_layer) := ⟨by kernel_rfl, by kernel_rfl, by kernel_rfl, by decide +kernel, by kernel_rfl, by decide +kernel, by decide +kernel⟩
theorem bi__law_layer : BindOf "_law_layer" "_law_layer" b__law_layer ["_law_tree_here", "_law_name"] := fun _ _ _ _ _ _ us hl => match us, hl with | [_, _], _ => by kernel_rfl
abbrev b__law_inner : Stmt := top 111
abbrev n__law_inner : List PySem.Str := ["_law_tree_here", "_law_name", "_law_layer_here", "_law_up_here"]
theorem sc__law_inner : FnScope n__law_inner ["_law_tree_here", "_law_name"] (defScope b__law_inner) := ⟨by kernel_rfl, by kernel_rfl, by kernel_rfl, by decide +kernel, by kernel_rfl, by decide +kernel, by decide +kernel⟩
theorem bi__law_inner : BindOf "_law_inner" "_law_inner" b__law_inner ["_law_tree_here", "_law_name"] := fun _ _ _ _ _ _ us hl => match us, hl with | [_, _], _ => by kernel_rfl
abbrev b__law_items : Stmt := top 112
abbrev n__law_items : List PySem.Str := ["_law_tree_here", "_law_layer_here", "_law_found", "_law_name", "_law_other"]
theorem sc__law_items : FnScope n__law_items ["_law_tree_here", "_law_layer_here"] (defScope b__law_items) := ⟨by kernel_rfl, by kernel_rfl, by kernel_rfl, by decide +kernel, by kernel_rfl, by decide +kernel, by decide +kernel⟩
theorem bi__law_items : BindOf "_law_items" "_law_items" b__law_items ["_law_tree_here", "_law_layer_here"] := fun _ _ _ _ _ _ us hl => match us, hl with | [_, _], _ => by kernel_rfl
abbrev b__law_composite : Stmt := top 113
abbrev n__law_composite : List PySem.Str := ["_law_tree_here", "_law_name", "_law_outer", "_law_other"]
theorem sc__law_composite : FnScope n__law_composite ["_law_tree_here", "_law_name"] (defScope b__law_composite) := ⟨by kernel_rfl, by kernel_rfl, by kernel_rfl, by decide +kernel, by kernel_rfl, by decide +kernel, by decide +kernel⟩
theorem bi__law_composite : BindOf "_law_composite" "_law_composite" b__law_composite ["_law_tree_here", "_law_name"] := fun _ _ _ _ _ _ us hl => match us, hl with | [_, _], _ => by kernel_rfl
abbrev b__law_composites : Stmt := top 114
abbrev n__law_composites : List PySem.Str := ["_law_tree_here", "_law_names", "_law_name"]
theorem sc__law_composites : FnScope n__law_composites ["_law_tree_here"] (defScope b__law_composites) := ⟨by kernel_rfl, by kernel_rfl, by kernel_rfl, by decide +kernel, by kernel_rfl, by decide +kernel, by decide +kernel⟩
theorem bi__law_composites : BindOf "_law_composites" "_law_composites" b__law_composites ["_law_tree_here"] := fun _ _ _ _ _ _ us hl => match us, hl with | [_], _ => by kernel_rfl
abbrev b__law_members : Stmt := top 115
abbrev n__law_members : List PySem.Str := ["_law_tree_here", "_law_composite_here", "_law_items_here", "_law_name"]
theorem sc__law_members : FnScope n__law_members ["_law_tree_here", "_law_composite_here"] (defScope b__law_members) := ⟨by kernel_rfl, by kernel_rfl, by kernel_rfl, by decide +kernel, by kernel_rfl, by decide +kernel, by decide +kernel⟩
theorem bi__law_members : BindOf "_law_members" "_law_members" b__law_members ["_law_tree_here", "_law_composite_here"] := fun _ _ _ _ _ _ us hl => match us, hl with | [_, _], _ => by kernel_rfl
abbrev b__law_begun : Stmt := top 118
abbrev n__law_begun : List PySem.Str := ["_law_infos", "_law_tree_here", "_law_state", "_law_items_here", "_law_composite_here", "_law_row"]
theorem sc__law_begun : FnScope n__law_begun ["_law_infos"] (defScope b__law_begun) := ⟨by kernel_rfl, by kernel_rfl, by kernel_rfl, by decide +kernel, by kernel_rfl, by decide +kernel, by decide +kernel⟩
theorem bi__law_begun : BindOf "_law_begun" "_law_begun" b__law_begun ["_law_infos"] := fun _ _ _ _ _ _ us hl => match us, hl with | [_], _ => by kernel_rfl
abbrev b__law_focused : Stmt := top 119
abbrev n__law_focused : List PySem.Str := ["_law_state"]
theorem sc__law_focused : FnScope n__law_focused ["_law_state"] (defScope b__law_focused) := ⟨by kernel_rfl, by kernel_rfl, by kernel_rfl, by decide +kernel, by kernel_rfl, by decide +kernel, by decide +kernel⟩
theorem bi__law_focused : BindOf "_law_focused" "_law_focused" b__law_focused ["_law_state"] := fun _ _ _ _ _ _ us hl => match us, hl with | [_], _ => by kernel_rfl
abbrev b__law_path : Stmt := top 120
abbrev n__law_path : List PySem.Str := ["_law_state", "_law_item", "_law_top"]
theorem sc__law_path : FnScope n__law_path ["_law_state"] (defScope b__law_path) := ⟨by kernel_rfl, by kernel_rfl, by kernel_rfl, by decide +kernel, by kernel_rfl, by decide +kernel, by decide +kernel⟩
theorem bi__law_path : BindOf "_law_path" "_law_path" b__law_path ["_law_state"] := fun _ _ _ _ _ _ us hl => match us, hl with | [_], _ => by kernel_rfl
abbrev b__law_focus : Stmt := top 121
abbrev n__law_focus : List PySem.Str := ["_law_state", "_law_item", "_law_composite_here"]
theorem sc__law_focus : FnScope n__law_focus ["_law_state", "_law_item"] (defScope b__law_focus) := ⟨by kernel_rfl, by kernel_rfl, by kernel_rfl, by decide +kernel, by kernel_rfl, by decide +kernel, by decide +kernel⟩
theorem bi__law_focus : BindOf "_law_focus" "_law_focus" b__law_focus ["_law_state", "_law_item"] := fun _ _ _ _ _ _ us hl => match us, hl with | [_, _], _ => by kernel_rfl
abbrev b__law_within : Stmt := top 125
abbrev n__law_within : List PySem.Str := ["_law_state", "_law_word", "_law_item", "_law_tree_here", "_law_composite_here", "_law_row", "_law_at"]
theorem sc__law_within : FnScope n__law_within ["_law_state", "_law_word"] (defScope b__law_within) := ⟨by kernel_rfl, by kernel_rfl, by kernel_rfl, by decide +kernel, by kernel_rfl, by decide +kernel, by decide +kernel⟩
theorem bi__law_within : BindOf "_law_within" "_law_within" b__law_within ["_law_state", "_law_word"] := fun _ _ _ _ _ _ us hl => match us, hl with | [_, _], _ => by kernel_rfl
abbrev b__law_typed : Stmt := top 126
abbrev n__law_typed : List PySem.Str := ["_law_state", "_law_text", "_law_item", "_law_tree_here", "_law_row", "_law_at", "_law_good", "_law_name"]
theorem sc__law_typed : FnScope n__law_typed ["_law_state", "_law_text"] (defScope b__law_typed) := ⟨by kernel_rfl, by kernel_rfl, by kernel_rfl, by decide +kernel, by kernel_rfl, by decide +kernel, by decide +kernel⟩
theorem bi__law_typed : BindOf "_law_typed" "_law_typed" b__law_typed ["_law_state", "_law_text"] := fun _ _ _ _ _ _ us hl => match us, hl with | [_, _], _ => by kernel_rfl
abbrev b__law_why_not : Stmt := top 128
abbrev n__law_why_not : List PySem.Str := ["_law_state", "_law_deed", "_law_tree_here"]
theorem sc__law_why_not : FnScope n__law_why_not ["_law_state", "_law_deed"] (defScope b__law_why_not) := ⟨by kernel_rfl, by kernel_rfl, by kernel_rfl, by decide +kernel, by kernel_rfl, by decide +kernel, by decide +kernel⟩
theorem bi__law_why_not : BindOf "_law_why_not" "_law_why_not" b__law_why_not ["_law_state", "_law_deed"] := fun _ _ _ _ _ _ us hl => match us, hl with | [_, _], _ => by kernel_rfl
abbrev b__law_modelled : Stmt := top 129
abbrev n__law_modelled : List PySem.Str := ["_law_state", "_law_deed", "_law_word", "_law_why", "_law_closed"]
theorem sc__law_modelled : FnScope n__law_modelled ["_law_state", "_law_deed"] (defScope b__law_modelled) := ⟨by kernel_rfl, by kernel_rfl, by kernel_rfl, by decide +kernel, by kernel_rfl, by decide +kernel, by decide +kernel⟩
theorem bi__law_modelled : BindOf "_law_modelled" "_law_modelled" b__law_modelled ["_law_state", "_law_deed"] := fun _ _ _ _ _ _ us hl => match us, hl with | [_, _], _ => by kernel_rfl
abbrev b__law_did : Stmt := top 130
abbrev n__law_did : List PySem.Str := ["_law_manager", "_law_deed", "e"]
theorem sc__law_did : FnScope n__law_did ["_law_manager", "_law_deed"] (defScope b__law_did) := ⟨by kernel_rfl, by kernel_rfl, by kernel_rfl, by decide +kernel, by kernel_rfl, by decide +kernel, by decide +kernel⟩
theorem bi__law_did : BindOf "_law_did" "_law_did" b__law_did ["_law_manager", "_law_deed"] := fun _ _ _ _ _ _ us hl => match us, hl with | [_, _], _ => by kernel_rfl
abbrev b__law_is_it : Stmt := top 131
abbrev n__law_is_it : List PySem.Str := ["_law_manager", "_law_state", "_law_layer_here", "_law_name"]
theorem sc__law_is_it : FnScope n__law_is_it ["_law_manager", "_law_state"] (defScope b__law_is_it) := ⟨by kernel_rfl, by kernel_rfl, by kernel_rfl, by decide +kernel, by kernel_rfl, by decide +kernel, by decide +kernel⟩
theorem bi__law_is_it : BindOf "_law_is_it" "_law_is_it" b__law_is_it ["_law_manager", "_law_state"] := fun _ _ _ _ _ _ us hl => match us, hl with | [_, _], _ => by kernel_rfl
abbrev b_law : Stmt := top 132
abbrev n_law : List PySem.Str := ["_law_script", "_law_rows_here", "_law_manager", "_law_state", "_law_items_here", "_law_item", "_law_words", "_law_texts", "_law_k", "_law_draws_here", "_law_deed", "_law_row", "_law_found"]
theorem sc_law : FnScope n_law ["_law_script"] (defScope b_law) := ⟨by kernel_rfl, by kernel_rfl, by kernel_rfl, by decide +kernel, by kernel_rfl, by decide +kernel, by decide +kernel⟩
theorem bi_law : BindOf "law" "law" b_law ["_law_script"] := fun _ _ _ _ _ _ us hl => match us, hl with | [_], _ => by kernel_rfl
end K24
set_option Elab.async false
set_option linter.all false
set_option maxRecDepth 100000
set_option maxHeartbeats 4000000
/-! The mathematics: trees as lists of nodes in document order. -/
namespace K24
open PySem PySem.Spec PyProof.Rows L2 Z
/-- a node: what it is, its parent, its depth -/
structure Nd where
  name : PySem.Str
  kind : PySem.Str
  label : PySem.Str
  vis : Bool
  en : Bool
  par : Option PySem.Str
  dep : Nat
def look (T : List Nd) (n : PySem.Str) : Option Nd := T.find? fun d => decide (d.name = n)
def parOf (T : List Nd) (n : PySem.Str) : Option PySem.Str := (look T n).bind (·.par)
def depOf (T : List Nd) (n : PySem.Str) : Nat := match look T n with
  | some d => d.dep
  | none => 0
def kindOf (T : List Nd) (n : PySem.Str) : PySem.Str := match look T n with
  | some d => d.kind
  | none => "item"
def onOf (T : List Nd) (n : PySem.Str) : Bool := match look T n with
  | some d => d.vis && d.en
  | none => false
def labelOf (T : List Nd) (n : PySem.Str) : PySem.Str := match look T n with
  | some d => d.label
  | none => Str.empty
def kids (T : List Nd) (n : PySem.Str) : List PySem.Str := (T.filter fun d => decide (d.par = some n)).map (·.name)
def ancF : Nat → List Nd → PySem.Str → List PySem.Str
  | 0, _, _ => []
  | f + 1, T, n => match parOf T n with
    | some p => p :: ancF f T p
    | none => []
def anc (T : List Nd) (n : PySem.Str) : List PySem.Str := ancF (depOf T n) T n
structure WF (T : List Nd) : Prop where
  nd : (T.map (·.name)).Nodup
  up : ∀ d ∈ T, (d.par = none ∧ d.dep = 0 ∧ d.name = "root" ∧ d.kind = "layer") ∨ ∃ q ∈ T, d.par = some q.name ∧ d.dep = q.dep + 1
  low : ∀ d ∈ T, d.dep ≤ 8
section
variable {T : List Nd} {d q : Nd}
theorem look_of (w : (T.map (·.name)).Nodup) (h : d ∈ T) : look T d.name = some d := by
  unfold look
  induction T with
  | nil => cases h
  | cons a r ih =>
    have w2 := List.nodup_cons.mp (show (a.name :: r.map (·.name)).Nodup from w)
    rw [List.find?_cons]
    by_cases e : a.name = d.name
    · rcases List.mem_cons.mp h with z | z
      · rw [z]
        simp
      · exact absurd (List.mem_map.mpr ⟨d, z, e.symm⟩) w2.1
    · rcases List.mem_cons.mp h with z | z
      · exact absurd (by rw [z]) e
      · rw [decide_eq_false e]
        exact ih w2.2 z
theorem look_mem {n : PySem.Str} (h : look T n = some d) : d ∈ T ∧ d.name = n := by
  unfold look at h
  exact ⟨List.mem_of_find?_eq_some h, by simpa using List.find?_some h⟩
theorem mem_inj (w : (T.map (·.name)).Nodup) (h : d ∈ T) (h2 : q ∈ T) (e : d.name = q.name) : d = q := by
  have a := look_of w h
  have b := look_of w h2
  rw [e, b] at a
  exact (Option.some.inj a).symm
theorem parOf_of (w : WF T) (h : d ∈ T) : parOf T d.name = d.par := by
  unfold parOf
  rw [look_of w.nd h]
  rfl
theorem depOf_of (w : WF T) (h : d ∈ T) : depOf T d.name = d.dep := by
  unfold depOf
  rw [look_of w.nd h]
theorem kindOf_of (w : WF T) (h : d ∈ T) : kindOf T d.name = d.kind := by
  unfold kindOf
  rw [look_of w.nd h]
theorem onOf_of (w : WF T) (h : d ∈ T) : onOf T d.name = (d.vis && d.en) := by
  unfold onOf
  rw [look_of w.nd h]
theorem labelOf_of (w : WF T) (h : d ∈ T) : labelOf T d.name = d.label := by
  unfold labelOf
  rw [look_of w.nd h]
/-- the parent of a node is a node -/
theorem WF.parIn (w : WF T) (h : d ∈ T) {p : PySem.Str} (e : d.par = some p) : ∃ q ∈ T, q.name = p ∧ d.dep = q.dep + 1 := by
  rcases w.up d h with ⟨z, _⟩ | ⟨q, hq, z, y⟩
  · rw [z] at e
    cases e
  · rw [z] at e
    exact ⟨q, hq, Option.some.inj e, y⟩
theorem anc_none (w : WF T) (h : d ∈ T) (e : d.par = none) : anc T d.name = [] := by
  unfold anc
  cases depOf T d.name with
  | zero => rfl
  | succ f =>
    unfold ancF
    rw [parOf_of w h, e]
theorem anc_some (w : WF T) (h : d ∈ T) (hq : q ∈ T) (e : d.par = some q.name) : anc T d.name = q.name :: anc T q.name := by
  obtain ⟨q2, hq2, e2, y⟩ := w.parIn h e
  have z : q2 = q := mem_inj w.nd hq2 hq e2
  subst z
  unfold anc
  rw [depOf_of w h, depOf_of w hq, y]
  show (match parOf T d.name with
    | some p => p :: ancF q2.dep T p
    | none => []) = _
  rw [parOf_of w h, e]
theorem anc_len (w : WF T) : ∀ (k : Nat) {d : Nd}, d ∈ T → d.dep = k → (anc T d.name).length = k
  | 0, d, h, e => by
    rcases w.up d h with ⟨z, _⟩ | ⟨q, hq, z, y⟩
    · rw [anc_none w h z]
      rfl
    · omega
  | k + 1, d, h, e => by
    rcases w.up d h with ⟨_, z, _⟩ | ⟨q, hq, z, y⟩
    · omega
    · rw [anc_some w h hq z, List.length_cons, anc_len w k hq (by omega)]
theorem anc_mem (w : WF T) : ∀ (k : Nat) {d : Nd}, d ∈ T → d.dep = k → ∀ n ∈ anc T d.name, ∃ q ∈ T, q.name = n
  | 0, d, h, e, n, hn => by
    have z := anc_len w 0 h e
    rw [List.length_eq_zero_iff.mp z] at hn
    cases hn
  | k + 1, d, h, e, n, hn => by
    rcases w.up d h with ⟨_, z, _⟩ | ⟨q, hq, z, y⟩
    · omega
    · rw [anc_some w h hq z] at hn
      rcases List.mem_cons.mp hn with e2 | e2
      · exact ⟨q, hq, e2.symm⟩
      · exact anc_mem w k hq (by omega) n e2
end
/-! ### layers, composites, focusable items -/
def isLay (T : List Nd) (n : PySem.Str) : Bool := decide (kindOf T n = "layer")
/-- between a node and its layer, from the inside outward -/
def betw (T : List Nd) (n : PySem.Str) : List PySem.Str := (anc T n).takeWhile fun a => !isLay T a
def layOf (T : List Nd) (n : PySem.Str) : PySem.Str := ((anc T n).find? (isLay T)).getD n
def isComp (T : List Nd) (n : PySem.Str) : Bool := decide (kindOf T n = "linear") || decide (kindOf T n = "circular")
def compOf (T : List Nd) (n : PySem.Str) : Option PySem.Str := ((betw T n).filter (isComp T)).getLast?
def focB (T : List Nd) (n : PySem.Str) : Bool := decide (kindOf T n = "item") && (n :: betw T n).all (onOf T)
def itemsOf (T : List Nd) (L : PySem.Str) : List PySem.Str := (T.map (·.name)).filter fun n => focB T n && decide (layOf T n = L)
def outsOf (T : List Nd) : List PySem.Str := (T.map (·.name)).filter fun n => isComp T n && decide (compOf T n = none)
def membs (T : List Nd) (c : PySem.Str) : List PySem.Str := (itemsOf T (layOf T c)).filter fun n => decide (compOf T n = some c)
theorem betw_mem {T : List Nd} (w : WF T) {d : Nd} (h : d ∈ T) : ∀ n ∈ betw T d.name, ∃ q ∈ T, q.name = n := fun n hn =>
  anc_mem w d.dep h rfl n ((List.takeWhile_sublist _).subset hn)
end K24
set_option Elab.async false
set_option linter.all false
set_option maxRecDepth 100000
set_option maxHeartbeats 4000000
/-! The program's tree in the heap; its readers. -/
namespace K24
open PySem PySem.Spec PyProof.Rows L2 Z
abbrev oV : Option PySem.Str → V
  | none => .non
  | some x => .str x
abbrev sV (xs : List PySem.Str) : List V := xs.map V.str
def nodeFs (d : Nd) (ch : Addr) : List (PySem.Str × V) := [("kind", .str d.kind), ("label", .str d.label), ("visible", .bl d.vis), ("enabled", .bl d.en), ("parent", oV d.par), ("children", .ref ch)]
section
variable (d : Nd) (ch : Addr)
theorem nf_kind : (nodeFs d ch).lookup ("kind" : PySem.Str) = some (.str d.kind) := rfl
theorem nf_label : (nodeFs d ch).lookup ("label" : PySem.Str) = some (.str d.label) := rfl
theorem nf_visible : (nodeFs d ch).lookup ("visible" : PySem.Str) = some (.bl d.vis) := rfl
theorem nf_enabled : (nodeFs d ch).lookup ("enabled" : PySem.Str) = some (.bl d.en) := rfl
theorem nf_parent : (nodeFs d ch).lookup ("parent" : PySem.Str) = some (oV d.par) := rfl
theorem nf_children : (nodeFs d ch).lookup ("children" : PySem.Str) = some (.ref ch) := rfl
end
abbrev treeFs (d : Addr) : List (PySem.Str × V) := [("nodes", .ref d)]
section
variable (K : PySem.W.Frag) (H : Hp)
def NodeAt (a : Addr) (d : Nd) (ks : List PySem.Str) : Prop := ∃ dx ch, H a = some (.ins (He.ga K "Node") dx (nodeFs d ch)) ∧ H ch = some (.lst (sV ks))
def TreeAt (t : Addr) (T : List Nd) : Prop := ∃ dx dd kvs, H t = some (.ins (He.ga K "Tree") dx (treeFs dd)) ∧ H dd = some (.dK kvs) ∧ kvs.map (·.1) = T.map (fun n => (Sum.inr n.name : Key)) ∧
  ∀ n ∈ T, ∃ a, valV kvs (Sum.inr n.name) = some (.ref a) ∧ NodeAt K H a n (kids T n.name)
end
section
variable {K : PySem.W.Frag} {H H' : Hp} {a t : Addr} {d : Nd} {ks : List PySem.Str} {T : List Nd}
theorem NodeAt.up (e : Z.Ex H H') (h : NodeAt K H a d ks) : NodeAt K H' a d ks := by
  obtain ⟨dx, ch, h1, h2⟩ := h
  exact ⟨dx, ch, e.get h1, e.get h2⟩
theorem TreeAt.up (e : Z.Ex H H') (h : TreeAt K H t T) : TreeAt K H' t T := by
  obtain ⟨dx, dd, kvs, h1, h2, h3, h4⟩ := h
  refine ⟨dx, dd, kvs, e.get h1, e.get h2, h3, fun n hn => ?_⟩
  obtain ⟨a, h5, h6⟩ := h4 n hn
  exact ⟨a, h5, h6.up e⟩
end
/-! ### promises of readers -/
/-- a value of the tree at t and its node d; a new list -/
def spRd (K : PySem.W.Frag) (pre : List Nd → Nd → Prop) (f : List Nd → Nd → V) : Sp := fun vs H Q _ => ∃ t T d, vs = [.ref t, .str d.name] ∧ TreeAt K H t T ∧ d ∈ T ∧ pre T d ∧ Ret (isV (f T d)) H Q
def spRdL (K : PySem.W.Frag) (pre : List Nd → Nd → Prop) (f : List Nd → Nd → List PySem.Str) : Sp := fun vs H Q _ => ∃ t T d, vs = [.ref t, .str d.name] ∧ TreeAt K H t T ∧ d ∈ T ∧ pre T d ∧ Ret (newO H (.lst (sV (f T d)))) H Q
theorem spRd_len {K : PySem.W.Frag} {pre f} : ∀ vs H Q E, spRd K pre f vs H Q E → vs.length = 2 := fun vs H Q E ⟨t, T, d, e, _⟩ => by
  rw [e]
  rfl
theorem spRdL_len {K : PySem.W.Frag} {pre f} : ∀ vs H Q E, spRdL K pre f vs H Q E → vs.length = 2 := fun vs H Q E ⟨t, T, d, e, _⟩ => by
  rw [e]
  rfl
section
variable {X : Cx} {σ : L2.St} {B : Hp} {o e : Expr} {pos apos p : Pos} {x m : PySem.Str} {j k : Nat} {t : Addr} {T : List Nd} {d : Nd} {pre : List Nd → Nd → Prop} {f : List Nd → Nd → V} {fl : List Nd → Nd → List PySem.Str}
theorem args1 {e : Expr} {v : V} (h : Ev X e σ B (isV v)) (hs : starEach [e] X.env = (false, eval e X.env) :: starEach [] X.env := by rfl) : EvA X [e] σ B ([v].map isV) := ea_cons h ea_nil hs
theorem args2 {e e2 : Expr} {v w : V} (h : Ev X e σ B (isV v)) (h2 : Ev X e2 σ B (isV w)) (hs : starEach [e, e2] X.env = (false, eval e X.env) :: starEach [e2] X.env := by rfl) (hs2 : starEach [e2] X.env = (false, eval e2 X.env) :: starEach [] X.env := by rfl) : EvA X [e, e2] σ B ([v, w].map isV) := ea_cons h (ea_cons h2 ea_nil hs2) hs
theorem tree_ins (hT : TreeAt X.K B t T) : ∃ dx dd, B t = some (.ins (He.ga X.K "Tree") dx (treeFs dd)) := by
  obtain ⟨dx, dd, kvs, h1, _⟩ := hT
  exact ⟨dx, dd, h1⟩
/-- tree.m(name) -/
theorem ev_mrd {pl : Sem Bool} (F : Mtd X.prog X.w X.K X.mg X.base (He.ga X.K "Tree") m k ["self", "name"] (spRd X.K pre f)) (hr : Room j X.A) (hk : k ≤ j) (hT : TreeAt X.K B t T) (hd : d ∈ T) (hp : pre T d) (ho : Ev X o σ B (isV (.ref t))) (he : Ev X e σ B (isV (.str d.name)))
    (hn : ¬ m = "nodes" := by decide +kernel)
    (hst : starEach [e] X.env = (false, eval e X.env) :: starEach [] X.env := by rfl) (hpl : (backTo pos (starEach [] X.env)).any (·.1) = false := by rfl)
    (ht : eval (.Call (.Attribute o m apos) [e] [] pos) X.env = (do
      let ov ← eval o X.env
      standAt apos.atName
      let (f, first) ← holding [ov] (getMethod ov m pl)
      callWith pos f first (backTo pos (starEach [e] X.env)) (backToKw pos (keywordEach [] X.env))) := by rfl) :
    Ev X (.Call (.Attribute o m apos) [e] [] pos) σ B (isV (f T d)) := by
  obtain ⟨dx, dd, h1⟩ := tree_ins hT
  refine ev_meth F hr hk ho h1 ?_ (args1 he hst) (fun vs H d2 p2 Q q => ?_) hst hpl ht
  · have hb : (m == ("nodes" : PySem.Str)) = false := beq_eq_false_iff_ne.mpr hn
    show (match m == ("nodes" : PySem.Str) with | true => some (V.ref dd) | false => none) = none
    rw [hb]
  · rw [p2.vals]
    exact ⟨t, T, d, rfl, hT.up d2, hd, hp, q⟩
theorem ev_mrdL {pl : Sem Bool} (F : Mtd X.prog X.w X.K X.mg X.base (He.ga X.K "Tree") m k ["self", "name"] (spRdL X.K pre fl)) (hr : Room j X.A) (hk : k ≤ j) (hT : TreeAt X.K B t T) (hd : d ∈ T) (hp : pre T d) (ho : Ev X o σ B (isV (.ref t))) (he : Ev X e σ B (isV (.str d.name)))
    (hn : ¬ m = "nodes" := by decide +kernel)
    (hst : starEach [e] X.env = (false, eval e X.env) :: starEach [] X.env := by rfl) (hpl : (backTo pos (starEach [] X.env)).any (·.1) = false := by rfl)
    (ht : eval (.Call (.Attribute o m apos) [e] [] pos) X.env = (do
      let ov ← eval o X.env
      standAt apos.atName
      let (f, first) ← holding [ov] (getMethod ov m pl)
      callWith pos f first (backTo pos (starEach [e] X.env)) (backToKw pos (keywordEach [] X.env))) := by rfl) :
    Ev X (.Call (.Attribute o m apos) [e] [] pos) σ B (newO B (.lst (sV (fl T d)))) := by
  obtain ⟨dx, dd, h1⟩ := tree_ins hT
  refine ev_meth F hr hk ho h1 ?_ (args1 he hst) (fun vs H d2 p2 Q q => ?_) hst hpl ht
  · have hb : (m == ("nodes" : PySem.Str)) = false := beq_eq_false_iff_ne.mpr hn
    show (match m == ("nodes" : PySem.Str) with | true => some (V.ref dd) | false => none) = none
    rw [hb]
  · rw [p2.vals]
    exact ⟨t, T, d, rfl, hT.up d2, hd, hp, q.imp fun v H2 _ ⟨p, z, fr, h⟩ => ⟨p, z, d2.free fr, h⟩⟩
/-- f(tree, name) -/
theorem ev_crd {e2 : Expr} (F : Cal X.prog X.w X.K X.mg X.base x k ["tree", "name"] (spRd X.K pre f)) (hr : Room j X.A) (hk : k ≤ j) (hT : TreeAt X.K B t T) (hd : d ∈ T) (hp : pre T d) (ho : Ev X e σ B (isV (.ref t))) (he : Ev X e2 σ B (isV (.str d.name)))
    (hg : Gl X x := by rfl) (hdb : (x == ("__debug__" : PySem.Str)) = false := by decide) (hs : starEach [e, e2] X.env = (false, eval e X.env) :: starEach [e2] X.env := by rfl) (hs2 : starEach [e2] X.env = (false, eval e2 X.env) :: starEach [] X.env := by rfl)
    (hpl : (backTo pos (starEach [e2] X.env)).any (·.1) = false := by rfl) : Ev X (.Call (.Name x p) [e, e2] [] pos) σ B (isV (f T d)) :=
  ev_call F hr hk (args2 ho he hs hs2) (fun vs H d2 p2 Q q => by
    rw [p2.vals]
    exact ⟨t, T, d, rfl, hT.up d2, hd, hp, q⟩) hg hdb hs hpl
theorem ev_crdL {e2 : Expr} (F : Cal X.prog X.w X.K X.mg X.base x k ["tree", "name"] (spRdL X.K pre fl)) (hr : Room j X.A) (hk : k ≤ j) (hT : TreeAt X.K B t T) (hd : d ∈ T) (hp : pre T d) (ho : Ev X e σ B (isV (.ref t))) (he : Ev X e2 σ B (isV (.str d.name)))
    (hg : Gl X x := by rfl) (hdb : (x == ("__debug__" : PySem.Str)) = false := by decide) (hs : starEach [e, e2] X.env = (false, eval e X.env) :: starEach [e2] X.env := by rfl) (hs2 : starEach [e2] X.env = (false, eval e2 X.env) :: starEach [] X.env := by rfl)
    (hpl : (backTo pos (starEach [e2] X.env)).any (·.1) = false := by rfl) : Ev X (.Call (.Name x p) [e, e2] [] pos) σ B (newO B (.lst (sV (fl T d)))) :=
  ev_call F hr hk (args2 ho he hs hs2) (fun vs H d2 p2 Q q => by
    rw [p2.vals]
    exact ⟨t, T, d, rfl, hT.up d2, hd, hp, q.imp fun v H2 _ ⟨p, z, fr, h⟩ => ⟨p, z, d2.free fr, h⟩⟩) hg hdb hs hpl
end
section
variable {P : Program} {w : World} {K : PySem.W.Frag} {mg : PySem.Str → Option Value} {base : Heap}
abbrev anyT : List Nd → Nd → Prop := fun _ _ => True
abbrev wfT : List Nd → Nd → Prop := fun T _ => WF T
/-- what stands at a node of the tree -/
theorem node_of {K : PySem.W.Frag} {B : Hp} {t : Addr} {T : List Nd} {d : Nd} (hT : TreeAt K B t T) (hd : d ∈ T) : ∃ dx dd kvs a nx ch, B t = some (.ins (He.ga K "Tree") dx (treeFs dd)) ∧ B dd = some (.dK kvs) ∧ valV kvs (Sum.inr d.name) = some (.ref a) ∧
    B a = some (.ins (He.ga K "Node") nx (nodeFs d ch)) ∧ B ch = some (.lst (sV (kids T d.name))) := by
  obtain ⟨dx, dd, kvs, h1, h2, h3, h4⟩ := hT
  obtain ⟨a, h5, nx, ch, h6, h7⟩ := h4 d hd
  exact ⟨dx, dd, kvs, a, nx, ch, h1, h2, h5, h6, h7⟩
/-- self.nodes -/
theorem ev_nodes {X : Cx} (c : Says X.K X.mg X.base) {σ : L2.St} {B : Hp} {o : Expr} {apos : Pos} {t dx dd : Addr} (ho : Ev X o σ B (isV (.ref t))) (h1 : B t = some (.ins (He.ga X.K "Tree") dx (treeFs dd)))
    (hb : attributeBase o "nodes" X.env (eval o X.env) = eval o X.env := by rfl) : Ev X (.Attribute o "nodes" apos) σ B (isV (.ref dd)) := ev_fld ho h1 (cls_Tree c) (no_Tree_nodes c) rfl hb
/-- self.nodes[name] -/
theorem ev_node {X : Cx} (c : Says X.K X.mg X.base) {σ : L2.St} {B : Hp} {o e : Expr} {pos apos : Pos} {t dx dd a : Addr} {kvs : List (Key × V)} {n : PySem.Str} {j : Nat} (hr : Room j X.A) (ho : Ev X o σ B (isV (.ref t))) (he : Ev X e σ B (isV (.str n)))
    (h1 : B t = some (.ins (He.ga X.K "Tree") dx (treeFs dd))) (h2 : B dd = some (.dK kvs)) (h3 : valV kvs (Sum.inr n) = some (.ref a))
    (hb : attributeBase o "nodes" X.env (eval o X.env) = eval o X.env := by rfl) (hs : NoSl e := by intro _ _; rfl) : Ev X (.Subscript (.Attribute o "nodes" apos) e pos) σ B (isV (.ref a)) :=
  ev_dget (k := Sum.inr n) (ev_nodes c ho h1 hb) h2 he h3 (hu_of hr) hs
theorem mt_kind (c : Says K mg base) : Mtd P w K mg base (He.ga K "Tree") "kind" 1 ["self", "name"] (spRd K anyT fun _ d => .str d.kind) := by
  refine mtd_of (fn_Tree_kind c) (cls_Tree c) (me_Tree_kind c) sc_Tree_kind bi_Tree_kind spRd_len ?_
  rintro cdv A outer s H vs Q E hr ⟨t, T, d, rfl, hT, hd, _, q⟩
  obtain ⟨dx, dd, kvs, a, nx, ch, h1, h2, h3, h4, h5⟩ := node_of hT hd
  exact sx_ret (ev_fld (ev_node c hr (ev_var 0 rfl) (ev_var 1 rfl) h1 h2 h3) h4 (cls_Node c) (no_Node_kind c) (nf_kind d ch)) q

theorem mt_label (c : Says K mg base) : Mtd P w K mg base (He.ga K "Tree") "label" 1 ["self", "name"] (spRd K anyT fun _ d => .str d.label) := by
  refine mtd_of (fn_Tree_label c) (cls_Tree c) (me_Tree_label c) sc_Tree_label bi_Tree_label spRd_len ?_
  rintro cdv A outer s H vs Q E hr ⟨t, T, d, rfl, hT, hd, _, q⟩
  obtain ⟨dx, dd, kvs, a, nx, ch, h1, h2, h3, h4, h5⟩ := node_of hT hd
  exact sx_ret (ev_fld (ev_node c hr (ev_var 0 rfl) (ev_var 1 rfl) h1 h2 h3) h4 (cls_Node c) (no_Node_label c) (nf_label d ch)) q
theorem mt_is_visible (c : Says K mg base) : Mtd P w K mg base (He.ga K "Tree") "is_visible" 1 ["self", "name"] (spRd K anyT fun _ d => .bl d.vis) := by
  refine mtd_of (fn_Tree_is_visible c) (cls_Tree c) (me_Tree_is_visible c) sc_Tree_is_visible bi_Tree_is_visible spRd_len ?_
  rintro cdv A outer s H vs Q E hr ⟨t, T, d, rfl, hT, hd, _, q⟩
  obtain ⟨dx, dd, kvs, a, nx, ch, h1, h2, h3, h4, h5⟩ := node_of hT hd
  exact sx_ret (ev_fld (ev_node c hr (ev_var 0 rfl) (ev_var 1 rfl) h1 h2 h3) h4 (cls_Node c) (no_Node_visible c) (nf_visible d ch)) q
theorem mt_is_enabled (c : Says K mg base) : Mtd P w K mg base (He.ga K "Tree") "is_enabled" 1 ["self", "name"] (spRd K anyT fun _ d => .bl d.en) := by
  refine mtd_of (fn_Tree_is_enabled c) (cls_Tree c) (me_Tree_is_enabled c) sc_Tree_is_enabled bi_Tree_is_enabled spRd_len ?_
  rintro cdv A outer s H vs Q E hr ⟨t, T, d, rfl, hT, hd, _, q⟩
  obtain ⟨dx, dd, kvs, a, nx, ch, h1, h2, h3, h4, h5⟩ := node_of hT hd
  exact sx_ret (ev_fld (ev_node c hr (ev_var 0 rfl) (ev_var 1 rfl) h1 h2 h3) h4 (cls_Node c) (no_Node_enabled c) (nf_enabled d ch)) q
theorem mt_children (c : Says K mg base) : Mtd P w K mg base (He.ga K "Tree") "children" 1 ["self", "name"] (spRdL K anyT fun T d => kids T d.name) := by
  refine mtd_of (fn_Tree_children c) (cls_Tree c) (me_Tree_children c) sc_Tree_children bi_Tree_children spRdL_len ?_
  rintro cdv A outer s H vs Q E hr ⟨t, T, d, rfl, hT, hd, _, q⟩
  obtain ⟨dx, dd, kvs, a, nx, ch, h1, h2, h3, h4, h5⟩ := node_of hT hd
  exact sx_ret (ev_list (free_list c) ((ev_fld (ev_node c hr (ev_var 0 rfl) (ev_var 1 rfl) h1 h2 h3) h4 (cls_Node c) (no_Node_children c) (nf_children d ch)).qL (SqL.of h5))) q
/-- name in the tree, or not -/
def spHas (K : PySem.W.Frag) : Sp := fun vs H Q _ => ∃ t T n, vs = [.ref t, .str n] ∧ TreeAt K H t T ∧ Ret (isV (.bl (decide (n ∈ T.map (·.name))))) H Q
theorem keys_has {kvs : List (Key × V)} {T : List Nd} (h : kvs.map (·.1) = T.map (fun n => (Sum.inr n.name : Key))) (n : PySem.Str) : (valV kvs (Sum.inr n)).isSome = decide (n ∈ T.map (·.name)) := by
  rw [← valV_any, Bool.eq_iff_iff, List.any_eq_true, decide_eq_true_iff]
  have e1 : (∃ x ∈ kvs, decide (x.1 = (Sum.inr n : Key)) = true) ↔ (Sum.inr n : Key) ∈ kvs.map (·.1) := by
    rw [List.mem_map]
    exact ⟨fun ⟨x, h1, h2⟩ => ⟨x, h1, of_decide_eq_true h2⟩, fun ⟨x, h1, h2⟩ => ⟨x, h1, decide_eq_true h2⟩⟩
  rw [e1, h, List.mem_map, List.mem_map]
  exact ⟨fun ⟨x, h1, h2⟩ => ⟨x, h1, Sum.inr.inj h2⟩, fun ⟨x, h1, h2⟩ => ⟨x, h1, congrArg Sum.inr h2⟩⟩
theorem mt_has (c : Says K mg base) : Mtd P w K mg base (He.ga K "Tree") "has" 1 ["self", "name"] (spHas K) := by
  refine mtd_of (fn_Tree_has c) (cls_Tree c) (me_Tree_has c) sc_Tree_has bi_Tree_has (fun vs H Q E ⟨t, T, n, e, _⟩ => by rw [e]; rfl) ?_
  rintro cdv A outer s H vs Q E hr ⟨t, T, n, rfl, hT, q⟩
  obtain ⟨dx, dd, kvs, h1, h2, h3, h4⟩ := hT
  refine sx_ret (ev_din (k := Sum.inr n) (ev_var 1 rfl) (ev_nodes c (ev_var 0 rfl) h1) h2 (hu_of hr)) ?_
  rw [keys_has h3 n]
  exact q
def restOf (T : List Nd) : Option PySem.Str → List PySem.Str
  | none => []
  | some p => p :: anc T p
theorem restOf_anc {T : List Nd} (wf : WF T) {d : Nd} (hd : d ∈ T) : restOf T d.par = anc T d.name := by
  cases e : d.par with
  | none => rw [anc_none wf hd e]; rfl
  | some p =>
    obtain ⟨q, hq, eq, _⟩ := wf.parIn hd e
    rw [← eq] at e
    rw [anc_some wf hd hq e, ← eq]
    rfl
theorem sV_snoc (xs : List PySem.Str) (x : PySem.Str) : sV xs ++ [.str x] = sV (xs ++ [x]) := by simp [sV]
theorem mt_ancestors (c : Says K mg base) : Mtd P w K mg base (He.ga K "Tree") "ancestors" 1 ["self", "name"] (spRdL K wfT fun T d => anc T d.name) := by
  refine mtd_of (fn_Tree_ancestors c) (cls_Tree c) (me_Tree_ancestors c) sc_Tree_ancestors bi_Tree_ancestors spRdL_len ?_
  rintro cdv A outer s H vs Q E hr ⟨t, T, d, rfl, hT, hd, wf, q⟩
  have S := sc_Tree_ancestors
  refine sx_asgN 2 (ev_lst (vs := []) ea_nil (Nat.zero_le _)) fun l fl => ?_
  obtain ⟨dx, dd, kvs, a, nx, ch, h1, h2, h3, h4, h5⟩ := node_of (hT.up (Z.Ex.new (o := .lst []) fl)) hd
  refine sx_asgV 3 (ev_fld (ev_node c hr (ev_var 0 rfl) (ev_var 1 rfl) h1 h2 h3) h4 (cls_Node c) (no_Node_parent c) (nf_parent d ch)) ?_
  have al := anc_len wf d.dep hd rfl
  have low := wf.low d hd
  refine sx_while (fun m σ B => ∃ (cur : Option PySem.Str) (seen : List PySem.Str), σ = [some (.ref t), some (.str d.name), some (.ref l), some (oV cur)] ∧ seen ++ restOf T cur = anc T d.name ∧ (restOf T cur).length = m ∧ (∀ p, cur = some p → ∃ q ∈ T, q.name = p) ∧
    B l = some (.lst (sV seen)) ∧ Z.Ex H B) (restOf T d.par).length ⟨d.par, [], rfl, restOf_anc wf hd, rfl, fun p e => ?_, upd_same, Z.Ex.new fl⟩ ?_
  · obtain ⟨q2, hq2, e2, _⟩ := wf.parIn hd e
    exact ⟨q2, hq2, e2⟩
  · rintro m σ B ⟨cur, seen, rfl, hs, hm, hc, hl, hx⟩
    refine ⟨_, et_notN (ev_var 3 rfl), fun hv => ?_, fun hv => ?_⟩
    · cases cur with
      | none => exact absurd hv (by simp)
      | some p =>
        obtain ⟨q2, hq2, rfl⟩ := hc p rfl
        have len : seen.length ≤ 8 := by
          have e := congrArg List.length hs
          rw [List.length_append] at e
          omega
        refine sx_app (ev_var 2 rfl) (ev_var 3 rfl) hl (by rw [List.length_map]; omega) ?_
        rw [sV_snoc]
        have x2 : Z.Ex H (upd B l (.lst (sV (seen ++ [q2.name])))) := hx.mut fl
        obtain ⟨dx, dd, kvs, a, nx, ch, h1, h2, h3, h4, h5⟩ := node_of (hT.up x2) hq2
        refine sx_asgV 3 (ev_fld (ev_node c hr (ev_var 0 rfl) (ev_var 3 rfl) h1 h2 h3) h4 (cls_Node c) (no_Node_parent c) (nf_parent q2 ch)) ?_
        refine sx_nil fun H2 d2 => ⟨(restOf T q2.par).length, ?_, _, d2, q2.par, seen ++ [q2.name], rfl, ?_, rfl, fun p e => ?_, upd_same, x2⟩
        · rw [restOf_anc wf hq2, ← hm]
          exact Nat.lt_succ_self _
        · rw [restOf_anc wf hq2, List.append_assoc]
          exact hs
        · obtain ⟨q3, hq3, e3, _⟩ := wf.parIn hq2 e
          exact ⟨q3, hq3, e3⟩
    · cases cur with
      | some p => exact absurd hv (by simp)
      | none =>
        have hs : seen ++ [] = anc T d.name := hs
        rw [List.append_nil] at hs
        rw [hs] at hl
        exact sx_ret (ev_var 2 rfl) fun v H2 d2 p2 => q v H2 (hx.trans d2) ⟨l, p2, fl, d2.get hl⟩
end
end K24
set_option Elab.async false
set_option linter.all false
set_option maxRecDepth 100000
set_option maxHeartbeats 4000000
/-! Layers and composites of nodes. -/
namespace K24
open PySem PySem.Spec PyProof.Rows L2 Z
section
variable {P : Program} {w : World} {K : PySem.W.Frag} {mg : PySem.Str → Option Value} {base : Heap}
theorem len_of_sV (xs : List PySem.Str) : (sV xs).length = xs.length := List.length_map ..
theorem mt_depth (c : Says K mg base) : Mtd P w K mg base (He.ga K "Tree") "depth" 2 ["self", "name"] (spRd K wfT fun _ d => .int (d.dep : Int)) := by
  refine mtd_of (fn_Tree_depth c) (cls_Tree c) (me_Tree_depth c) sc_Tree_depth bi_Tree_depth spRd_len ?_
  rintro cdv A outer s H vs Q E hr ⟨t, T, d, rfl, hT, hd, wf, q⟩
  refine sx_ret (ev_lenL (free_len c) (ev_mrdL (mt_ancestors c) hr (by decide) hT hd wf (ev_var 0 rfl) (ev_var 1 rfl)).nL) ?_
  rw [len_of_sV, anc_len wf d.dep hd rfl]
  exact q
/-- the first that f holds of, as a loop finds it -/
theorem find_split {α : Type} {f : α → Bool} {xs : List α} {i : Nat} {v : α} (h0 : ∀ a ∈ xs.take i, f a = false) (h : xs[i]? = some v) (hv : f v = true) : xs.find? f = some v ∧ xs.takeWhile (fun a => !f a) = xs.take i := by
  induction i generalizing xs with
  | zero =>
    cases xs with
    | nil => cases h
    | cons a r =>
      have e : a = v := Option.some.inj h
      subst e
      refine ⟨by rw [List.find?_cons, hv], by rw [List.takeWhile_cons, hv]; rfl⟩
  | succ i ih =>
    cases xs with
    | nil => cases h
    | cons a r =>
      have ha : f a = false := h0 a List.mem_cons_self
      obtain ⟨e1, e2⟩ := ih (xs := r) (fun b hb => h0 b (List.mem_cons_of_mem _ hb)) h
      refine ⟨by rw [List.find?_cons, ha]; exact e1, ?_⟩
      rw [List.takeWhile_cons, ha, List.take_succ_cons]
      exact congrArg (a :: ·) e2
theorem find_none {α : Type} {f : α → Bool} {xs : List α} (h0 : ∀ a ∈ xs, f a = false) : xs.find? f = none ∧ xs.takeWhile (fun a => !f a) = xs :=
  ⟨List.find?_eq_none.mpr fun a ha => by rw [h0 a ha]; exact Bool.false_ne_true, by
    induction xs with
    | nil => rfl
    | cons a r ih => rw [List.takeWhile_cons, h0 a List.mem_cons_self, ih fun b hb => h0 b (List.mem_cons_of_mem _ hb)]; rfl⟩
theorem sV_at {xs : List PySem.Str} {i : Nat} {v : V} (h : (sV xs)[i]? = some v) : ∃ x, v = .str x ∧ xs[i]? = some x := by
  rw [List.getElem?_map] at h
  cases e : xs[i]? with
  | none =>
    rw [e] at h
    cases h
  | some x =>
    rw [e] at h
    exact ⟨x, (Option.some.inj h).symm, rfl⟩
theorem take_more {α : Type} {f : α → Bool} {xs : List α} {i : Nat} {v : α} (h0 : ∀ a ∈ xs.take i, f a = false) (h : xs[i]? = some v) (hv : f v = false) : ∀ a ∈ xs.take (i + 1), f a = false := by
  rw [take_snoc h]
  intro a ha
  rcases List.mem_append.mp ha with z | z
  · exact h0 a z
  · rw [List.mem_singleton.mp z]
    exact hv
/-- tree.kind(a) == 'layer' -/
theorem et_isLay {X : Cx} (c : Says X.K X.mg X.base) {σ : L2.St} {B : Hp} {t : Addr} {T : List Nd} {d : Nd} {o e : Expr} {j i : Nat} {apos p2 pos cp : Pos} (hr : Room j X.A) (h1 : 1 ≤ j) (hT : TreeAt X.K B t T) (wf : WF T) (hd : d ∈ T) (ho : Ev X o σ B (isV (.ref t))) (he : Ev X e σ B (isV (.str d.name)))
    (hst : starEach [e] X.env = (false, eval e X.env) :: starEach [] X.env := by rfl) (hpl : (backTo cp (starEach [] X.env)).any (·.1) = false := by rfl)
    {pl : Sem Bool} (ht : eval (.Call (.Attribute o "kind" apos) [e] [] cp) X.env = (do
      let ov ← eval o X.env
      standAt apos.atName
      let (f, first) ← holding [ov] (getMethod ov "kind" pl)
      callWith cp f first (backTo cp (starEach [e] X.env)) (backToKw cp (keywordEach [] X.env))) := by rfl) :
    EvT X (.Compare (.Call (.Attribute o "kind" apos) [e] [] cp) [.Eq] [.Constant (.str "layer") i p2] pos) σ B (isLay T d.name) := by
  refine (et_eqS (ev_mrd (mt_kind c) hr h1 hT hd trivial ho he (by decide +kernel) hst hpl ht) ev_str rfl).to ?_
  unfold isLay
  rw [kindOf_of wf hd]
  exact decide_eq_decide.mpr ⟨fun h => V.str.inj h, fun h => congrArg V.str h⟩
theorem fc_layer_of (c : Says K mg base) : Cal P w K mg base "layer_of" 2 ["tree", "name"] (spRd K wfT fun T d => .str (layOf T d.name)) := by
  refine cal_of (fn_layer_of c) (glo_layer_of c) sc_layer_of bi_layer_of spRd_len ?_
  rintro cdv A outer s H vs Q E hr ⟨t, T, d, rfl, hT, hd, wf, q⟩
  have S := sc_layer_of
  refine sx_forN 2 (ev_mrdL (mt_ancestors c) hr (by decide) hT hd wf (ev_var 0 rfl) (ev_var 1 rfl)).nL fun p B' d2 hp => ?_
  refine ⟨fun i σ B => Z.Ex B' B ∧ (∃ v, σ = [some (.ref t), some (.str d.name), v]) ∧ ∀ a ∈ (anc T d.name).take i, isLay T a = false, ⟨Z.Ex.refl _, ⟨none, rfl⟩, fun a ha => by cases ha⟩, fun i σ B z => z.1.seqL hp, ?_, ?_⟩
  · rintro i v σ B hi ⟨x1, ⟨v0, rfl⟩, h0⟩
    obtain ⟨a, rfl, hi2⟩ := sV_at hi
    obtain ⟨q2, hq2, rfl⟩ := anc_mem wf d.dep hd rfl a (List.mem_of_getElem? hi2)
    refine sx_if (et_isLay c hr (by decide) (hT.up (d2.trans x1)) wf hq2 (ev_var 0 rfl) (ev_var 2 rfl)) (fun hv => ?_) (fun hv => ?_)
    · refine sx_ret (ev_var 2 rfl) fun v H2 d3 p3 => q v H2 ((d2.trans x1).trans d3) ?_
      have e := (find_split h0 hi2 hv).1
      show v = .str (layOf T d.name)
      unfold layOf
      rw [e]
      exact p3
    · exact sx_skip (sx_nil fun H2 d3 => ⟨B, d3, x1, ⟨_, rfl⟩, take_more h0 hi2 hv⟩)
  · rintro σ B ⟨x1, ⟨v0, rfl⟩, h0⟩
    rw [len_of_sV, List.take_length] at h0
    refine sx_ret (ev_var 1 rfl) fun v H2 d3 p3 => q v H2 ((d2.trans x1).trans d3) ?_
    show v = .str (layOf T d.name)
    unfold layOf
    rw [(find_none h0).1]
    exact p3

theorem fc_between (c : Says K mg base) : Cal P w K mg base "between" 2 ["tree", "name"] (spRdL K wfT fun T d => betw T d.name) := by
  refine cal_of (fn_between c) (glo_between c) sc_between bi_between spRdL_len ?_
  rintro cdv A outer s H vs Q E hr ⟨t, T, d, rfl, hT, hd, wf, q⟩
  have S := sc_between
  refine sx_asgN 2 (ev_lst (vs := []) ea_nil (Nat.zero_le _)) fun l fl => ?_
  have x0 : Z.Ex H (upd H l (.lst [])) := Z.Ex.new fl
  refine sx_forNew 3 (ev_mrdL (mt_ancestors c) hr (by decide) (hT.up x0) hd wf (ev_var 0 rfl) (ev_var 1 rfl)) fun p fp => ?_
  have npl : p ≠ l := (ne_of_none (H := upd H l (.lst [])) upd_same fp).symm
  refine ⟨fun i σ B => B p = some (.lst (sV (anc T d.name))) ∧ Z.Ex H B ∧ B l = some (.lst (sV ((anc T d.name).take i))) ∧ (∃ v, σ = [some (.ref t), some (.str d.name), some (.ref l), v]) ∧ ∀ a ∈ (anc T d.name).take i, isLay T a = false,
    ⟨upd_same, x0.trans (Z.Ex.new fp), by rw [upd_ne npl.symm, upd_same]; rfl, ⟨none, rfl⟩, fun a ha => by cases ha⟩, fun i σ B z => z.1, ?_, ?_⟩
  · rintro i v σ B hi ⟨h1, x1, h2, ⟨v0, rfl⟩, h0⟩
    obtain ⟨a, rfl, hi2⟩ := sV_at hi
    obtain ⟨q2, hq2, rfl⟩ := anc_mem wf d.dep hd rfl a (List.mem_of_getElem? hi2)
    refine sx_if (et_isLay c hr (by decide) (hT.up x1) wf hq2 (ev_var 0 rfl) (ev_var 3 rfl)) (fun hv => ?_) (fun hv => sx_skip ?_)
    · refine sx_ret (ev_var 2 rfl) fun v H2 d3 p3 => q v H2 (x1.trans d3) ⟨l, p3, fl, ?_⟩
      have e := (find_split h0 hi2 hv).2
      show H2 l = some (.lst (sV (betw T d.name)))
      unfold betw
      rw [e]
      exact d3.get h2
    · have len : ((anc T d.name).take i).length ≤ 8 := by
        have e := anc_len wf d.dep hd rfl
        have lo := wf.low d hd
        rw [List.length_take]
        omega
      refine sx_app (ev_var 2 rfl) (ev_var 3 rfl) h2 (by rw [len_of_sV]; omega) (sx_nil fun H2 d3 => ⟨_, d3, by rw [upd_ne npl]; exact h1, x1.mut fl, ?_, ⟨_, rfl⟩, take_more h0 hi2 hv⟩)
      rw [upd_same, take_snoc hi2, sV_snoc]
  · rintro σ B ⟨h1, x1, h2, ⟨v0, rfl⟩, h0⟩
    rw [len_of_sV, List.take_length] at h0 h2
    refine sx_ret (ev_var 2 rfl) fun v H2 d3 p3 => q v H2 (x1.trans d3) ⟨l, p3, fl, ?_⟩
    show H2 l = some (.lst (sV (betw T d.name)))
    unfold betw
    rw [(find_none h0).2]
    exact d3.get h2
theorem fc_is_usable (c : Says K mg base) : Cal P w K mg base "is_usable" 2 ["tree", "name"] (spRd K anyT fun _ d => .bl (d.vis && d.en)) := by
  refine cal_of (fn_is_usable c) (glo_is_usable c) sc_is_usable bi_is_usable spRd_len ?_
  rintro cdv A outer s H vs Q E hr ⟨t, T, d, rfl, hT, hd, _, q⟩
  exact sx_ret (ev_and (ev_mrd (mt_is_visible c) hr (by decide) hT hd trivial (ev_var 0 rfl) (ev_var 1 rfl)) fun _ => ev_one (ev_mrd (mt_is_enabled c) hr (by decide) hT hd trivial (ev_var 0 rfl) (ev_var 1 rfl))) q
/-- tree.kind(a) in COMPOSITES -/
theorem inV_comp (k : PySem.Str) : inV (.str k) ((tv_COMPOSITES.map (He.Dv.v K))) = (decide (k = "linear") || decide (k = "circular")) := by
  show (eqV (.str "linear") (.str k) || (eqV (.str "circular") (.str k) || false)) = _
  rw [Bool.or_false]
  have e : ∀ a b : PySem.Str, eqV (.str a) (.str b) = decide (b = a) := fun a b => by
    rw [Bool.eq_iff_iff]
    show (a == b) = true ↔ _
    rw [beq_iff_eq, decide_eq_true_iff]
    exact eq_comm
  rw [e, e]
theorem et_isComp {X : Cx} (c : Says X.K X.mg X.base) {σ : L2.St} {B : Hp} {t : Addr} {T : List Nd} {d : Nd} {o e : Expr} {j : Nat} {apos p2 pos cp : Pos} (hr : Room j X.A) (h1 : 1 ≤ j) (hT : TreeAt X.K B t T) (wf : WF T) (hd : d ∈ T) (ho : Ev X o σ B (isV (.ref t))) (he : Ev X e σ B (isV (.str d.name)))
    (hst : starEach [e] X.env = (false, eval e X.env) :: starEach [] X.env := by rfl) (hpl : (backTo cp (starEach [] X.env)).any (·.1) = false := by rfl)
    {pl : Sem Bool} (ht : eval (.Call (.Attribute o "kind" apos) [e] [] cp) X.env = (do
      let ov ← eval o X.env
      standAt apos.atName
      let (f, first) ← holding [ov] (getMethod ov "kind" pl)
      callWith cp f first (backTo cp (starEach [e] X.env)) (backToKw cp (keywordEach [] X.env))) := by rfl) (hg : Gl X "COMPOSITES" := by rfl) (hm : behindInMarks .In (.Name "COMPOSITES" p2) = false := by rfl) :
    EvT X (.Compare (.Call (.Attribute o "kind" apos) [e] [] cp) [.In] [.Name "COMPOSITES" p2] pos) σ B (isComp T d.name) := by
  refine (et_inQ (ev_mrd (mt_kind c) hr h1 hT hd trivial ho he (by decide +kernel) hst hpl ht) ((ev_gref (glo_COMPOSITES c) hg).qT (tup_COMPOSITES c B)) inT_of rfl rfl hm).to ?_
  unfold isComp
  rw [kindOf_of wf hd]
  exact inV_comp d.kind
theorem ev_isComp {X : Cx} (c : Says X.K X.mg X.base) {σ : L2.St} {B : Hp} {t : Addr} {T : List Nd} {d : Nd} {o e : Expr} {j : Nat} {apos p2 pos cp : Pos} (hr : Room j X.A) (h1 : 1 ≤ j) (hT : TreeAt X.K B t T) (wf : WF T) (hd : d ∈ T) (ho : Ev X o σ B (isV (.ref t))) (he : Ev X e σ B (isV (.str d.name)))
    (hst : starEach [e] X.env = (false, eval e X.env) :: starEach [] X.env := by rfl) (hpl : (backTo cp (starEach [] X.env)).any (·.1) = false := by rfl)
    {pl : Sem Bool} (ht : eval (.Call (.Attribute o "kind" apos) [e] [] cp) X.env = (do
      let ov ← eval o X.env
      standAt apos.atName
      let (f, first) ← holding [ov] (getMethod ov "kind" pl)
      callWith cp f first (backTo cp (starEach [e] X.env)) (backToKw cp (keywordEach [] X.env))) := by rfl) (hg : Gl X "COMPOSITES" := by rfl) (hm : behindInMarks .In (.Name "COMPOSITES" p2) = false := by rfl) :
    Ev X (.Compare (.Call (.Attribute o "kind" apos) [e] [] cp) [.In] [.Name "COMPOSITES" p2] pos) σ B (isV (.bl (isComp T d.name))) := by
  have h := (ev_inQ (pos := pos) (ev_mrd (mt_kind c) hr h1 hT hd trivial ho he (by decide +kernel) hst hpl ht) ((ev_gref (glo_COMPOSITES c) hg).qT (tup_COMPOSITES c B)) inT_of rfl rfl hm)
  have z : isComp T d.name = inV (.str d.kind) (tv_COMPOSITES.map (He.Dv.v X.K)) := by
    unfold isComp
    rw [kindOf_of wf hd]
    exact (inV_comp d.kind).symm
  rw [z]
  exact h

theorem last_snoc {f : PySem.Str → Bool} (xs : List PySem.Str) (a : PySem.Str) : ((xs ++ [a]).filter f).getLast? = if f a = true then some a else (xs.filter f).getLast? := by
  rw [List.filter_append, List.filter_cons]
  by_cases h : f a = true
  · rw [if_pos h, if_pos h]
    simp
  · rw [if_neg h, if_neg h]
    simp
theorem fc_composite_of (c : Says K mg base) : Cal P w K mg base "composite_of" 3 ["tree", "name"] (spRd K wfT fun T d => oV (compOf T d.name)) := by
  refine cal_of (fn_composite_of c) (glo_composite_of c) sc_composite_of bi_composite_of spRd_len ?_
  rintro cdv A outer s H vs Q E hr ⟨t, T, d, rfl, hT, hd, wf, q⟩
  have S := sc_composite_of
  refine sx_asgV 2 ev_none ?_
  refine sx_forNew 3 (ev_crdL (fc_between c) hr (by decide) hT hd wf (ev_var 0 rfl) (ev_var 1 rfl)) fun p fp => ?_
  refine ⟨fun i σ B => B p = some (.lst (sV (betw T d.name))) ∧ Z.Ex H B ∧ ∃ v, σ = [some (.ref t), some (.str d.name), some (oV (((betw T d.name).take i).filter (isComp T)).getLast?), v],
    ⟨upd_same, Z.Ex.new fp, none, rfl⟩, fun i σ B z => z.1, ?_, ?_⟩
  · rintro i v σ B hi ⟨h1, x1, v0, rfl⟩
    obtain ⟨a, rfl, hi2⟩ := sV_at hi
    obtain ⟨q2, hq2, rfl⟩ := betw_mem wf hd a (List.mem_of_getElem? hi2)
    have e := last_snoc (f := isComp T) ((betw T d.name).take i) q2.name
    rw [← take_snoc hi2] at e
    refine sx_if (et_isComp c hr (by decide) (hT.up x1) wf hq2 (ev_var 0 rfl) (ev_var 3 rfl)) (fun hv => ?_) (fun hv => sx_skip ?_)
    · rw [hv, if_pos rfl] at e
      refine sx_asgV 2 (ev_var 3 rfl) (sx_skip (sx_nil fun H2 d3 => ⟨B, d3, h1, x1, some (.str q2.name), ?_⟩))
      rw [e]
      rfl
    · rw [hv, if_neg Bool.false_ne_true] at e
      refine sx_nil fun H2 d3 => ⟨B, d3, h1, x1, some (.str q2.name), ?_⟩
      rw [e]
      rfl
  · rintro σ B ⟨h1, x1, v0, rfl⟩
    rw [len_of_sV, List.take_length]
    exact sx_ret (ev_var 2 rfl) fun v H2 d3 p3 => q v H2 (x1.trans d3) p3
theorem fc_is_outer (c : Says K mg base) : Cal P w K mg base "is_outer" 4 ["tree", "name"] (spRd K wfT fun T d => .bl (isComp T d.name && decide (compOf T d.name = none))) := by
  refine cal_of (fn_is_outer c) (glo_is_outer c) sc_is_outer bi_is_outer spRd_len ?_
  rintro cdv A outer s H vs Q E hr ⟨t, T, d, rfl, hT, hd, wf, q⟩
  refine sx_ret (ev_and (ev_isComp c hr (by decide) hT wf hd (ev_var 0 rfl) (ev_var 1 rfl)) fun _ => ev_one (ev_isN (ev_crd (fc_composite_of c) hr (by decide) hT hd wf (ev_var 0 rfl) (ev_var 1 rfl)))) ?_
  have e : decide (oV (compOf T d.name) = V.non) = decide (compOf T d.name = none) := decide_eq_decide.mpr (by
    cases compOf T d.name with
    | none => exact ⟨fun _ => rfl, fun _ => rfl⟩
    | some x => exact ⟨fun h => (by cases h), fun h => (by cases h)⟩)
  rw [e]
  exact q
end
end K24
set_option Elab.async false
set_option linter.all false
set_option maxRecDepth 100000
set_option maxHeartbeats 4000000
/-! all(.. for x in ..) whose element calls a def: the calls at the machine's own level. -/
namespace K24
open PySem PySem.Spec PyProof.Rows L2 Z
theorem keeps_refl (s : Shared) : Keeps s s := ⟨s.heap, s.toks, rfl, fun _ _ e => e⟩
theorem keeps_tok {s s1 : Shared} (k : Keeps s s1) (t : Nat) : Keeps s { s1 with toks := t } := by
  obtain ⟨h, tk, rfl, hk⟩ := k
  exact ⟨h, t, rfl, hk⟩
theorem keeps_trans {s s1 s2 : Shared} (a : Keeps s s1) (b : Keeps s1 s2) : Keeps s s2 := by
  obtain ⟨h, tk, rfl, hk⟩ := a
  obtain ⟨h2, tk2, rfl, hk2⟩ := b
  exact ⟨h2, tk2, rfl, fun x o e => hk2 x o (hk x o e)⟩
theorem keeps_heap {s s1 : Shared} (k : Keeps s s1) : ∀ b o, s.heap.get? b = some o → s1.heap.get? b = some o := by
  obtain ⟨h, tk, rfl, hk⟩ := k
  exact hk
/-- the tree's objects at one node, as they lie -/
structure RawN (P : Program) (w : World) (K : PySem.W.Frag) (h : Heap) (t : Addr) (n : PySem.Str) (b1 b2 : Bool) : Prop where
  ex : ∃ (dx : Addr) (mT : PySem.Str → Option Value) (dd : Addr) (vs : List (Key × Value)) (a nx : Addr) (mN : PySem.Str → Option Value), ObjM h t dx (He.ga K "Tree") mT ∧ mT "nodes" = some (.ref dd) ∧ h.DictOf (mixKind P w) dd vs ∧
    valueAt vs (Sum.inr n) = some (.ref a) ∧ ObjM h a nx (He.ga K "Node") mN ∧ mN "visible" = some (.bool b1) ∧ mN "enabled" = some (.bool b2) ∧ mT "is_visible" = none ∧ mT "is_enabled" = none
theorem objM_keeps {h h' : Heap} {x dx C : Addr} {m : PySem.Str → Option Value} (o : ObjM h x dx C m) (k : ∀ b ob, h.get? b = some ob → h'.get? b = some ob) : ObjM h' x dx C m := by
  obtain ⟨a, ⟨ob, es, ep, e, r⟩, ne⟩ := o
  exact ⟨k _ _ a, ⟨ob, es, ep, k _ _ e, r⟩, ne⟩
theorem RawN.keeps {P : Program} {w : World} {K : PySem.W.Frag} {h h' : Heap} {t : Addr} {n : PySem.Str} {b1 b2 : Bool} (r : RawN P w K h t n b1 b2) (k : ∀ b o, h.get? b = some o → h'.get? b = some o) : RawN P w K h' t n b1 b2 := by
  obtain ⟨dx, mT, dd, vs, a, nx, mN, h1, h2, ⟨ob, es, ep, e, z⟩, h4, h5, h6⟩ := r.ex
  exact ⟨dx, mT, dd, vs, a, nx, mN, objM_keeps h1 k, h2, ⟨ob, es, ep, k _ _ e, z⟩, h4, objM_keeps h5 k, h6⟩
theorem raw_of {P : Program} {w : World} {K : PySem.W.Frag} {H : Hp} {h : Heap} {t : Addr} {T : List Nd} {d : Nd} (ok : HOk P w H h) (hT : TreeAt K H t T) (hd : d ∈ T) : RawN P w K h t d.name d.vis d.en := by
  obtain ⟨dx, dd, kvs, a, nx, ch, h1, h2, h3, h4, h5⟩ := node_of hT hd
  obtain ⟨mT, O1, r1, _⟩ := ins_get ok h1
  obtain ⟨mN, O2, r2, _⟩ := ins_get ok h4
  obtain ⟨_, _, vs, kv, dof⟩ := dk_of ok h2
  obtain ⟨u, hu, ru⟩ := RelO.some_of (v := .ref dd) (o := mT "nodes") (r1 "nodes")
  obtain ⟨u1, hu1, ru1⟩ := RelO.some_of (v := .bl d.vis) (o := mN "visible") (r2 "visible")
  obtain ⟨u2, hu2, ru2⟩ := RelO.some_of (v := .bl d.en) (o := mN "enabled") (r2 "enabled")
  obtain ⟨u3, hu3, ru3⟩ := RelO.some_of (v := .ref a) (o := valueAt vs (Sum.inr d.name)) (by rw [← h3]; exact kv.val _)
  cases ru
  cases ru1
  cases ru2
  cases ru3
  exact ⟨dx, mT, dd, vs, a, nx, mN, O1, hu, dof, hu3, O2, hu1, hu2, RelO.none_of (r1 "is_visible"), RelO.none_of (r1 "is_enabled")⟩
section
variable {P : Program} {w : World} {K : PySem.W.Frag} {mg : PySem.Str → Option Value} {base : Heap}
/-- self.is_visible(name), at the machine's own level -/
theorem raw_visible (c : Says K mg base) {A : Around} {s : Shared} {t : Addr} {n : PySem.Str} {tok : Tok} {b1 b2 : Bool} (hr : Room 1 A) (KX : K.In s.heap) (lim : s.heap.NoLimit) (R : RawN P w K s.heap t n b1 b2) :
    codeAny (model P w) A (.call (.ref (He.ma K (He.ga K "Tree") "is_visible")) ⟨[.ref t, .str n tok], []⟩) (fun r s' => r = .ok (.ret (.bool b1)) ∧ Keeps s s') s := by
  obtain ⟨fd, F⟩ := fn_Tree_is_visible c
  have hb := F.bindsA bi_Tree_is_visible s [.ref t, .str n tok] rfl
  obtain ⟨oc, od, dV, kV, doc, pm, an, cdv, ct, osl, rfl, lk, hcd, _, _⟩ := F.ex
  have S := sc_Tree_is_visible
  refine codeAny_call_function hr.depth (KX _ _ lk) rfl S.co S.gen rfl (PySem.W.codeRec_of KX hcd) (hb _ _ _ _ ?_)
  refine wpAny_newFunctionEnv_cells S.kind (fun y hy => ?_) fun env he s1 x => ?_
  · exact Or.inl (by
      rcases List.mem_cons.mp hy with z | z
      · rw [z]; rfl
      · rcases List.mem_cons.mp z with z | z
        · rw [z]; rfl
        · cases z)
  subst he
  refine ⟨lim.keeps x.toInCall.keep, codeAny_func ?_⟩
  obtain ⟨h1, tk, rfl, hk⟩ := x.done
  have ns := x.toInCall.ns
  obtain ⟨dx, mT, dd, vs, a, nx, mN, O1, m1, D, va, O2, m2, m3, m4, m5⟩ := (R.keeps hk).ex
  have KX1 : K.In h1 := KX.keeps hk
  refine wpAny_execs_cons (wpAny_Return_some ?_)
  refine attr_of rfl (subD_of PySem.F.slot_dict_getitem.lookup (fun _ _ => rfl) (attr_of rfl ?_))
  refine wpAny_Name (wpAny_loadName_local rfl rfl ns (show _ = some (Value.ref t) from rfl) ?_) (by decide)
  refine get_map (K := K) KX1 O1 ((cls_Tree c).get _) (cls_Tree c).hd (no_Tree_nodes c) m1 rfl ?_
  refine wpAny_Name (wpAny_loadName_local rfl rfl ns (show _ = some (Value.str n tok) from rfl) ?_) (by decide)
  refine ⟨D.typeIs, wpAny_getItem_of (k := Sum.inr n) (keyIs_str n tok) D.mapOf va ?_⟩
  exact get_map (K := K) KX1 O2 ((cls_Node c).get _) (cls_Node c).hd (no_Node_visible c) m2 rfl ⟨rfl, ⟨h1, _, rfl, hk⟩⟩
/-- self.is_enabled(name), at the machine's own level -/
theorem raw_enabled (c : Says K mg base) {A : Around} {s : Shared} {t : Addr} {n : PySem.Str} {tok : Tok} {b1 b2 : Bool} (hr : Room 1 A) (KX : K.In s.heap) (lim : s.heap.NoLimit) (R : RawN P w K s.heap t n b1 b2) :
    codeAny (model P w) A (.call (.ref (He.ma K (He.ga K "Tree") "is_enabled")) ⟨[.ref t, .str n tok], []⟩) (fun r s' => r = .ok (.ret (.bool b2)) ∧ Keeps s s') s := by
  obtain ⟨fd, F⟩ := fn_Tree_is_enabled c
  have hb := F.bindsA bi_Tree_is_enabled s [.ref t, .str n tok] rfl
  obtain ⟨oc, od, dV, kV, doc, pm, an, cdv, ct, osl, rfl, lk, hcd, _, _⟩ := F.ex
  have S := sc_Tree_is_enabled
  refine codeAny_call_function hr.depth (KX _ _ lk) rfl S.co S.gen rfl (PySem.W.codeRec_of KX hcd) (hb _ _ _ _ ?_)
  refine wpAny_newFunctionEnv_cells S.kind (fun y hy => ?_) fun env he s1 x => ?_
  · exact Or.inl (by
      rcases List.mem_cons.mp hy with z | z
      · rw [z]; rfl
      · rcases List.mem_cons.mp z with z | z
        · rw [z]; rfl
        · cases z)
  subst he
  refine ⟨lim.keeps x.toInCall.keep, codeAny_func ?_⟩
  obtain ⟨h1, tk, rfl, hk⟩ := x.done
  have ns := x.toInCall.ns
  obtain ⟨dx, mT, dd, vs, a, nx, mN, O1, m1, D, va, O2, m2, m3, m4, m5⟩ := (R.keeps hk).ex
  have KX1 : K.In h1 := KX.keeps hk
  refine wpAny_execs_cons (wpAny_Return_some ?_)
  refine attr_of rfl (subD_of PySem.F.slot_dict_getitem.lookup (fun _ _ => rfl) (attr_of rfl ?_))
  refine wpAny_Name (wpAny_loadName_local rfl rfl ns (show _ = some (Value.ref t) from rfl) ?_) (by decide)
  refine get_map (K := K) KX1 O1 ((cls_Tree c).get _) (cls_Tree c).hd (no_Tree_nodes c) m1 rfl ?_
  refine wpAny_Name (wpAny_loadName_local rfl rfl ns (show _ = some (Value.str n tok) from rfl) ?_) (by decide)
  refine ⟨D.typeIs, wpAny_getItem_of (k := Sum.inr n) (keyIs_str n tok) D.mapOf va ?_⟩
  exact get_map (K := K) KX1 O2 ((cls_Node c).get _) (cls_Node c).hd (no_Node_enabled c) m3 rfl ⟨rfl, ⟨h1, _, rfl, hk⟩⟩

/-- is_usable(tree, other), at the machine's own level -/
theorem raw_usable (c : Says K mg base) {A : Around} {s : Shared} {t : Addr} {n : PySem.Str} {tok : Tok} {b1 b2 : Bool} (hr : Room 2 A) (KX : K.In s.heap) (lim : s.heap.NoLimit) (R : RawN P w K s.heap t n b1 b2) :
    codeAny (model P w) A (.call (.ref (He.ga K "is_usable")) ⟨[.ref t, .str n tok], []⟩) (fun r s' => r = .ok (.ret (.bool (b1 && b2))) ∧ Keeps s s') s := by
  obtain ⟨fd, F⟩ := fn_is_usable c
  have hb := F.bindsA bi_is_usable s [.ref t, .str n tok] rfl
  obtain ⟨oc, od, dV, kV, doc, pm, an, cdv, ct, osl, rfl, lk, hcd, _, _⟩ := F.ex
  have S := sc_is_usable
  refine codeAny_call_function hr.depth (KX _ _ lk) rfl S.co S.gen rfl (PySem.W.codeRec_of KX hcd) (hb _ _ _ _ ?_)
  refine wpAny_newFunctionEnv_cells S.kind (fun y hy => ?_) fun env he s1 x => ?_
  · exact Or.inl (by
      rcases List.mem_cons.mp hy with z | z
      · rw [z]; rfl
      · rcases List.mem_cons.mp z with z | z
        · rw [z]; rfl
        · cases z)
  subst he
  refine ⟨lim.keeps x.toInCall.keep, codeAny_func ?_⟩
  obtain ⟨h1, tk, rfl, hk⟩ := x.done
  have ns := x.toInCall.ns
  have R1 := R.keeps hk
  have KX1 : K.In h1 := KX.keeps hk
  have lim1 : h1.NoLimit := lim.keeps hk
  obtain ⟨dx, mT, dd, vs, a, nx, mN, O1, m1, D, va, O2, m2, m3, m4, m5⟩ := R1.ex
  refine wpAny_execs_cons (wpAny_Return_some ?_)
  -- tree.is_visible(name) and ..
  refine BoolOp_and (PySem.W.methodCall_KW (wpAny_Name (wpAny_loadName_local rfl rfl ns (show _ = some (Value.ref t) from rfl) ?_) (by decide)) rfl)
  refine get_meth (K := K) KX1 O1 ((cls_Tree c).get _) (me_Tree_is_visible c).at_ (me_Tree_is_visible c).fn m4 ?_
  refine PySem.W.callWith_K (first := [.ref t]) (h₀ := h1) KX1 (me_Tree_is_visible c).kp ?_ rfl rfl
  refine Calls.spliced_cons (wpAny_Name (wpAny_loadName_local rfl rfl ns (show _ = some (Value.str n tok) from rfl) (Calls.spliced_nil ⟨KX1, ?_⟩)) (by decide))
  refine wpAny_call (codeAny_mono (raw_visible c (hr.deeper _) KX1 lim1 R1) fun r s2 h2 => ?_)
  obtain ⟨rfl, k2⟩ := h2
  have ks2 : Keeps s s2 := keeps_trans ⟨h1, tk, rfl, hk⟩ k2
  obtain ⟨h2, tk2, rfl, hk2⟩ := k2
  have ns2 := ns.keeps hk2
  have KX2 : K.In h2 := KX1.keeps hk2
  have R2 := R1.keeps hk2
  obtain ⟨dx', mT', dd', vs', a', nx', mN', O1', m1', D', va', O2', m2', m3', m4', m5'⟩ := R2.ex
  refine wpAny_truthy_bool ?_
  cases b1 with
  | false => exact ⟨rfl, ks2⟩
  | true =>
    refine BoolOp_one (PySem.W.methodCall_KW (wpAny_Name (wpAny_loadName_local rfl rfl ns2 (show _ = some (Value.ref t) from rfl) ?_) (by decide)) rfl)
    refine get_meth (K := K) KX2 O1' ((cls_Tree c).get _) (me_Tree_is_enabled c).at_ (me_Tree_is_enabled c).fn m5' ?_
    refine PySem.W.callWith_K (first := [.ref t]) (h₀ := h2) KX2 (me_Tree_is_enabled c).kp ?_ rfl rfl
    refine Calls.spliced_cons (wpAny_Name (wpAny_loadName_local rfl rfl ns2 (show _ = some (Value.str n tok) from rfl) (Calls.spliced_nil ⟨KX2, ?_⟩)) (by decide))
    refine wpAny_call (codeAny_mono (raw_enabled c (hr.deeper _) KX2 (lim1.keeps hk2) R2) fun r s3 h3 => ?_)
    obtain ⟨rfl, k3⟩ := h3
    exact ⟨rfl, keeps_trans ks2 k3⟩
end

/-! ### all(elt for x in iter): over whatever is walked -/
/-- the iterator of xv, made at s1: n items, the i-th as Pf says -/
def IterOk (X : Cx) (s1 : Shared) (xv : Value) (n : Nat) (Pf : Nat → Value → Prop) : Prop :=
  ∀ Q : Value → Shared → Prop, (∀ (o : Obj) (fp : List Addr) (St : Nat → Heap → Prop), (∀ A' : Around, A'.handled = none → Walks X.prog X.w A' s1.heap.objs.size fp [s1.heap.objs.size] n Pf St) →
    (∀ b ∈ fp, b = s1.heap.objs.size ∨ ∃ u, s1.heap.get? b = some u ∧ ∀ vs, u.data ≠ .fields vs) → St 0 (s1.heap.push o) → Q (.ref s1.heap.objs.size) { s1 with heap := s1.heap.push o }) → wpAny (model X.prog X.w) X.A (pyIter xv) Q X.xe s1
/-- what the element gives, from s1 on: everything but the table at T stands -/
def EltOk (X : Cx) (scope : Scope) (x : PySem.Str) (elt : Expr) (T : Addr) (Pf : Nat → Value → Prop) (tr : Nat → Bool) (s1 : Shared) : Prop :=
  ∀ (A' : Around) (E' : Value → Shared → Prop) (i : Nat) (v : Value) (s2 : Shared) (m2 : PySem.Str → Option Value) (C : Addr) (code : Value) (bi : Addr), A'.handled = none → A'.depth ≤ X.A.depth + 1 → A'.units ≤ X.A.units + 8 → Pf i v →
    s2.heap.Ns C m2 → m2 x = some v → (∀ b u, b ≠ T → s1.heap.get? b = some u → s2.heap.get? b = some u) →
    wpAny (model X.prog X.w) A' (eval elt (genEnv scope (cloFrom X.env.cells scope.names []) C code bi X.env)) (fun y s3 => y = .bool (tr i) ∧ Keeps s2 s3) E' s2
section
variable {X : Cx} {pins : List (Addr × Obj)} {σ : L2.St} {H : Hp} {s : Shared}
theorem gen_ready {cd T : Addr} {elt iter : Expr} {x : PySem.Str} {px gpos : Pos} {scope : Scope} {te : TE} {k : Nat} {Qf : Value → Shared → Prop} {R : Nat → (Nat → Bool) → Hp → Prop}
    (hr : Room k X.A) (TB : GxR.TabB X.base X.mg cd T) (hcode : X.env.code = .ref cd) (S : GxR.GenS X.env scope x) (hi : PE X iter te) (hs : ∀ v, genFold iter X.env v = pure v) (I : Inv X pins σ H s)
    (h : te σ H fun v H1 => GxR.TabG H1 T ∧ ∀ s1 u, Inv X pins σ H1 s1 → RelV v u → ∃ n Pf tr, IterOk X s1 u n Pf ∧ EltOk X scope x elt T Pf tr s1 ∧ R n tr H1)
    (hQ : ∀ n tr H1 g s5, R n tr H1 → (∃ (fp wr : List Addr) (G : Array GenState → Array GenState → Prop) (F : Nat → Value → Prop) (St : Nat → Shared → Prop), WalksS X.prog X.w X.A.in1 g fp wr G n F St ∧ St 0 s5 ∧ TruthOf X.prog X.w X.A.in1 F tr ∧
      ∀ s', Moved wr G s5 s' → ∃ H2, GxR.Tabbed T H1 H2 ∧ Inv X pins σ H2 s') → Qf (.ref g) s5) :
    wpAny (model X.prog X.w) X.A (eval (.GeneratorExp elt [⟨.Name x px, iter, [], 0⟩] scope gpos) X.env) Qf X.xe s := by
  have hdp := hr.dp
  refine wpAny_GeneratorExp_walksQD hr.hd S.co (closure_ok S.free) S.cell S.dot S.loc S.kind (by omega) ?_ hs
  refine thn (hi.run pins s σ H _ I h) fun xv s1 z1 => ?_
  obtain ⟨v, H1, I1, rv, ⟨ps, hT, t3⟩, q1⟩ := z1
  obtain ⟨n, Pf, tr, itOk, elOk, q1⟩ := q1 s1 xv I1 rv
  refine itOk _ fun o fp St W fpOk st0 => ?_
  have atT : s1.heap.get? T = some { cls := .none, data := .fields ps } := I1.hok T _ hT
  have ltT : T < s1.heap.objs.size := Heap.lt_size atT
  have up : ∀ b u, s1.heap.get? b = some u → (s1.heap.push o).get? b = some u := fun b u e => Heap.get?_push_of_some _ e
  have szo : (s1.heap.push o).objs.size = s1.heap.objs.size + 1 := Heap.size_push ..
  have hdcode : PySem.W.CodeHd (s1.heap.push o) cd T := TB.code.keeps fun b u e => up b u (I1.bk b u e)
  have nolim : (s1.heap.push o).NoLimit := I1.nolimit.push o
  have notT2 : ∀ b ∈ fp, b ≠ T := fun b hb z => by
    rcases fpOk b hb with y | ⟨u, e, nf⟩
    · exact Nat.ne_of_lt ltT (z.symm.trans y)
    · rw [z, atT] at e
      exact nf ps (congrArg Obj.data (Option.some.inj e)).symm
  have ltf : ∀ b ∈ fp, b < s1.heap.objs.size + 1 := fun b hb => by
    rcases fpOk b hb with y | ⟨u, e, _⟩
    · rw [y]
      exact Nat.lt_succ_self _
    · exact Nat.lt_succ_of_lt (Heap.lt_size e)
  -- behind the code object: it stood in the table, or was made
  have go : ∀ (code : Value) (h3 : Heap) (tk : Nat) (qs : Array Value), Heap.ExtBut T (s1.heap.push o) h3 → (s1.heap.push o).objs.size ≤ h3.objs.size → h3.get? T = some { cls := .none, data := .fields qs } → (∃ more, qs = ps ++ more) → TriplesOk qs.toList →
      wpAny (model X.prog X.w) X.A (builtinsFor X.env.globals X.env.builtins) (fun bi s4 =>
        ∃ Ia fq wr n0 Pg Sg pz F, Value.ref s1.heap.objs.size = .ref Ia ∧ (∀ A' : Around, A'.handled = none → Walks X.prog X.w A' Ia fq wr n0 Pg Sg) ∧ Sg 0 s4.heap ∧ (∀ b ∈ fq, b < s4.heap.objs.size) ∧ s4.heap.NoLimit ∧ cStatics ∉ wr ∧
          (∀ href : Heap, (∀ b u, s4.heap.get? b = some u → href.get? b = some u) →
            QuietGenD X.prog X.w (genEnv scope (cloFrom X.env.cells scope.names []) s4.heap.objs.size code bi X.env) x [] elt (List.range s4.heap.objs.size) wr Pg pz F href (X.A.depth + 1) (X.A.units + 8)) ∧
          (∀ a h5 tk5 gs, gs.bare = true → s4.heap.objs.size < a → h5.objs.size = a + 1 → (∀ b u, s4.heap.get? b = some u → h5.get? b = some u) →
            WalksS X.prog X.w X.A.in4 a (a :: s4.heap.objs.size :: List.range s4.heap.objs.size) (s4.heap.objs.size :: wr) (GenOnlyQ s4.gens.size) (passing pz n0 0).length
              (fun j y => ∃ i, (passing pz n0 0)[j]? = some i ∧ F i y) (GenAt X.prog X.w X.A.in4 a s4.gens.size s4.heap.objs.size (List.range s4.heap.objs.size) wr pz n0 F) →
            GenAt X.prog X.w X.A.in4 a s4.gens.size s4.heap.objs.size (List.range s4.heap.objs.size) wr pz n0 F 0 { s4 with gens := s4.gens.push gs, toks := tk5, heap := h5 } →
            Qf (.ref a) { s4 with gens := s4.gens.push gs, toks := tk5, heap := h5 })) X.xe { s1 with heap := h3, toks := tk } := by
    intro code h3 tk qs ext sz3 atT3 grown tq
    obtain ⟨bm, bo, g1, g2, g3, g4, g5, g6, g7, g8⟩ := TB.bm
    have stand : ∀ b u, b ≠ T → s1.heap.get? b = some u → h3.get? b = some u := fun b u nb e => ext b u nb (up b u e)
    have cNe : cStatics ≠ T := fun e => by
      obtain ⟨_, ⟨ob, es, ep, w1, w2, _⟩, _⟩ := I1.nolimit
      rw [e, atT] at w1
      cases w1
      cases w2
    have cLt : cStatics < s1.heap.objs.size := by
      obtain ⟨_, ns, _⟩ := I1.nolimit
      exact ns.lt
    refine wpAny_builtinsFor (m := X.mg) ?_ g1 g2 (stand _ _ g4 (I1.bk _ _ g5)) g6 g7 g8 ?_
    · rw [I1.ok.glob]
      exact ((I1.mod.glob.keeps I1.bk).push o).extBut ext TB.gP
    refine ⟨s1.heap.objs.size, fp, [s1.heap.objs.size], n, Pf, St, (fun _ => true), (fun i y => y = .bool (tr i)), rfl, W, ?_, ?_, nolim.extBut ext cNe, ?_, ?_, ?_⟩
    · exact (W X.A hr.hd).frame _ _ _ st0 fun b hb u e => ext b u (notT2 b hb) e
    · intro b hb
      have l1 := ltf b hb
      have l2 : s1.heap.objs.size + 1 ≤ h3.objs.size := by rw [← szo]; exact sz3
      exact Nat.lt_of_lt_of_le l1 l2
    · intro hm
      exact Nat.ne_of_lt cLt (List.mem_singleton.mp hm)
    · intro href hh
      have stand2 : ∀ (s2 : Shared), (∀ b ∈ List.range h3.objs.size, b ∉ [s1.heap.objs.size] → ∀ u, href.get? b = some u → s2.heap.get? b = some u) → ∀ b u, b ≠ T → s1.heap.get? b = some u → s2.heap.get? b = some u := fun s2 hk b u nb e => by
        have e3 := stand b u nb e
        exact hk b (List.mem_range.mpr (Heap.lt_size e3)) (fun hm => Nat.ne_of_lt (Heap.lt_size e) (List.mem_singleton.mp hm)) u (hh b u e3)
      constructor
      · intro A' E' i v2 s2 m2 hA hD hU hP hn hm hk
        simp only [List.forIn_nil]
        exact wpAny_pure ⟨rfl, keeps_refl s2⟩
      · intro A' E' i v2 s2 m2 hA hD hU hP hz hn hm hk
        exact elOk A' E' i v2 s2 m2 _ code _ hA hD hU hP hn hm (stand2 s2 hk)
    · intro g h5 tk5 gs bareG ltG sz5 keep5 WS gAt
      simp only [GxR.passing_true, List.length_range] at WS
      refine hQ n tr H1 g _ q1 ⟨_, _, _, _, _, WS.in4_1, gAt, ?_, fun s' mv => ?_⟩
      · intro j y sj Qj Ej hy hq
        obtain ⟨i, hij, hy⟩ := hy
        obtain ⟨hj, ej⟩ := List.getElem?_eq_some_iff.mp hij
        rw [List.getElem_range] at ej
        rw [hy, ← ej]
        exact wpAny_truthy_bool hq
      · obtain ⟨more, em⟩ := grown
        have off : ∀ b u, s1.heap.get? b = some u → b ∉ h3.objs.size :: [s1.heap.objs.size] := fun b u e hm => by
          have lb : b < s1.heap.objs.size := Heap.lt_size e
          have l2 : s1.heap.objs.size + 1 ≤ h3.objs.size := by rw [← szo]; exact sz3
          rcases List.mem_cons.mp hm with y | y
          · exact absurd y (Nat.ne_of_lt (Nat.lt_of_lt_of_le lb (Nat.le_of_succ_le l2)))
          · exact absurd (List.mem_singleton.mp y) (Nat.ne_of_lt lb)
        have atT5 : s'.heap.get? T = some { cls := .none, data := .fields (ps ++ more) } := by
          rw [← em]
          exact mv.heap T _ (off T _ atT) (keep5 T _ atT3)
        have J := GxR.inv_tab (more := more) (h' := s'.heap) (g' := s'.gens) (d' := s'.drawn) (t' := s'.toks) I1 hT (fun b u nb e => mv.heap b u (off b u e) (keep5 b u (stand b u nb e))) atT5 (AllBare.movedS (I1.bare.push bareG) mv)
        rw [GxR.sh_eta s1 s' mv.os] at J
        exact ⟨_, ⟨⟨ps ++ more, upd_same, by rw [← em]; exact tq⟩, fun b nb => upd_ne nb⟩, J⟩
  refine ⟨nolim, ?_⟩
  have atT2 := up T _ atT
  cases hf : codeAmong gpos ps.toList with
  | some cv =>
    refine wpAny_genexprCode_hit hcode (hdcode.code atT2 t3) hf ?_
    exact go cv _ s1.toks ps (Heap.ExtBut.refl _ _) (Nat.le_refl _) atT2 ⟨#[], by simp⟩ t3
  | none =>
    refine wpAny_genexprCodeX hcode (hdcode.code atT2 t3) (hdcode.tab atT2) hf fun c2 h2 tk hx hge hlt hco _ htab _ => ?_
    obtain ⟨o1, vs, f1, tf1, fl, tg, inF, tx, tt, op, _, _, _, _, _, _, _, _, _, htr, _⟩ := hco
    exact go _ h2 tk _ hx (Nat.le_trans hge (Nat.le_of_lt hlt)) htab.2 ⟨_, rfl⟩ htr
end
end K24
set_option Elab.async false
set_option linter.all false
set_option maxRecDepth 100000
set_option maxHeartbeats 4000000
/-! all(..) in the hand layer; the tests by it. -/
namespace K24
open PySem PySem.Spec PyProof.Rows L2 Z
def tst {α : Type} (f : α → Bool) : Option α → Bool
  | some n => f n
  | none => true
theorem ex_tab {T : Addr} {H H' : Hp} (g : GxR.TabG H T) (h : GxR.Tabbed T H H') : Z.Ex H H' := fun a o e => by
  obtain ⟨ps, hp, t1⟩ := g
  obtain ⟨⟨qs, hq, t2⟩, off⟩ := h
  by_cases z : a = T
  · subst z
    rw [hp] at e
    cases e
    exact Or.inr ⟨ps, qs, rfl, t1, hq, t2⟩
  · exact Or.inl (by rw [off a z]; exact e)
theorem TabG.up {T : Addr} {H H' : Hp} (e : Z.Ex H H') (h : GxR.TabG H T) : GxR.TabG H' T := by
  obtain ⟨ps, hp, t1⟩ := h
  rcases e T _ hp with h1 | ⟨a, b, e1, t2, h2, t3⟩
  · exact ⟨ps, h1, t1⟩
  · exact ⟨b, h2, t3⟩
section
variable {X : Cx} {σ : L2.St} {B : Hp}
theorem ev_all {cd T : Addr} {elt iter : Expr} {x : PySem.Str} {px p pos gpos : Pos} {scope : Scope} {k : Nat} {r : Bool} {Si : VS} (hr : Room k X.A) (TB : GxR.TabB X.base X.mg cd T) (hcode : X.env.code = .ref cd) (S : GxR.GenS X.env scope x) (hi : Ev X iter σ B Si) (hT : GxR.TabG B T)
    (kk : ∀ v H1, Z.Ex B H1 → Si.P H1 v → ∀ pins s1 u, Inv X pins σ H1 s1 → RelV v u → ∃ n Pf tr, IterOk X s1 u n Pf ∧ EltOk X scope x elt T Pf tr s1 ∧ (List.range n).all tr = r)
    (hm : X.mg "all" = none) (hb : bootBuiltins "all" = some (.builtin "all") := by decide +kernel) (hg : Gl X "all" := by rfl) (hs : ∀ v, genFold iter X.env v = pure v := by intro _; rfl)
    (he : starEach [.GeneratorExp elt [⟨.Name x px, iter, [], 0⟩] scope gpos] X.env = (false, eval (.GeneratorExp elt [⟨.Name x px, iter, [], 0⟩] scope gpos) X.env) :: starEach [] X.env := by rfl) :
    Ev X (.Call (.Name "all" p) [.GeneratorExp elt [⟨.Name x px, iter, [], 0⟩] scope gpos] [] pos) σ B (isV (.bl r)) := by
  intro H d Q q pins s I
  refine wpAny_Call_Name_kw (ld_blt I hg hm hb ?_)
  refine PyProof.Rows.callWith_builtin1 ?_ he (by rfl)
  rw [he]
  show wpAny _ _ (spliced ((false, eval (.GeneratorExp elt [⟨.Name x px, iter, [], 0⟩] scope gpos) X.env) :: backTo pos (starEach [] X.env))) _ _ s
  refine Calls.spliced_cons (gen_ready (te := sE X iter) (R := fun n tr H1 => (Z.Ex H H1 ∧ GxR.TabG H1 T) ∧ (List.range n).all tr = r) hr TB hcode S (pe_s iter) hs I ?_ fun n tr H1 g s5 hR hG => ?_)
  · refine hi H d _ fun v H1 d1 p1 => ⟨TabG.up (d.trans d1) hT, fun s1 u I1 ru => ?_⟩
    obtain ⟨n, Pf, tr, a1, a2, a3⟩ := kk v H1 (d.trans d1) p1 pins s1 u I1 ru
    exact ⟨n, Pf, tr, a1, a2, ⟨d1, TabG.up (d.trans d1) hT⟩, a3⟩
  · obtain ⟨fp, wr, G, F, St, W, hst, htr, hI⟩ := hG
    obtain ⟨⟨d1, tg⟩, e⟩ := hR
    refine Calls.spliced_nil ?_
    refine call_all_walkS (W.self 0 _ _ _ hst ⟨g, fp, wr, G, _, F, St, _, rfl, W, hst, htr, fun s' hmv => ?_⟩)
    obtain ⟨H2, hT2, J⟩ := hI s' hmv
    exact ⟨.bl r, H2, J, by rw [e]; rfl, q _ H2 (d1.trans (ex_tab tg hT2)) rfl⟩

theorem iter_list {pins : List (Addr × Obj)} {H1 : Hp} {s1 : Shared} {xs : List V} {p : Addr} {u : Value} (I : Inv X pins σ H1 s1) (hp : SqL X.K H1 p xs) (r : RelV (.ref p) u) : ∃ its : List Value, Vals xs its ∧ IterOk X s1 u xs.length (fun i v => its[i]? = some v) := by
  obtain ⟨its, rv, hl, hz⟩ := I.list hp
  refine ⟨its, rv, fun Q h => ?_⟩
  have e : u = .ref p := r
  subst e
  have hIL := hl.isList
  have lt : p < s1.heap.objs.size := by
    obtain ⟨_, z, _⟩ := _root_.id hIL
    exact Heap.lt_size z
  refine wpAny_pyIter_list hIL ?_
  have W : ∀ A' : Around, A'.handled = none → Walks X.prog X.w A' s1.heap.objs.size [s1.heap.objs.size, p] [s1.heap.objs.size] its.toArray.size (fun i v => its.toArray[i]? = some v) (fun i h => h.IsListIter s1.heap.objs.size p i ∧ h.IsList p its.toArray) :=
    fun A' hA => Walks.list hA _ _ (Nat.ne_of_lt lt) its.toArray
  have ez : its.toArray.size = xs.length := by
    rw [List.size_toArray, ← rv.length]
  rw [ez] at W
  have ef : (fun (i : Nat) (v : Value) => its.toArray[i]? = some v) = fun i v => its[i]? = some v := by
    funext i v
    rw [List.getElem?_toArray]
  rw [ef] at W
  refine h _ [s1.heap.objs.size, p] _ W (fun b hb => ?_) ⟨⟨_, Heap.get?_push_size _ rfl, rfl, rfl⟩, hIL.push _⟩
  rcases List.mem_cons.mp hb with z | z
  · exact Or.inl z
  · right
    rw [List.mem_singleton.mp z]
    obtain ⟨o, z1, z2⟩ := _root_.id hIL
    obtain ⟨z3, n, z4⟩ := z2
    refine ⟨o, z1, fun vs e => ?_⟩
    rw [z4] at e
    cases e
theorem iter_str {s1 : Shared} {a : PySem.Str} {u : Value} (r : RelV (.str a) u) : IterOk X s1 u a.cps.size (SignAt a) := fun Q h => by
  obtain ⟨t, rfl⟩ := (show ∃ t, u = Value.str a t from r)
  exact wpAny_pyIter_str fun o St W st => h o [s1.heap.objs.size] St W (fun b hb => Or.inl (List.mem_singleton.mp hb)) st
end
/-! ### elements -/
theorem RawN.but {P : Program} {w : World} {K : PySem.W.Frag} {h h' : Heap} {t T : Addr} {n : PySem.Str} {b1 b2 : Bool} {ps : Array Value} (r : RawN P w K h t n b1 b2) (hT : h.get? T = some { cls := .none, data := .fields ps }) (k : ∀ b o, b ≠ T → h.get? b = some o → h'.get? b = some o) : RawN P w K h' t n b1 b2 := by
  have ob : ∀ {x dx C : Addr} {m : PySem.Str → Option Value}, ObjM h x dx C m → ObjM h' x dx C m := fun {x dx C m} o => by
    obtain ⟨a, ⟨ob, es, ep, e, z, y⟩, ne⟩ := o
    refine ⟨k _ _ (fun q => ?_) a, ⟨ob, es, ep, k _ _ (fun q => ?_) e, z, y⟩, ne⟩
    · rw [q, hT] at a
      have := congrArg Obj.cls (Option.some.inj a)
      cases this
    · rw [q, hT] at e
      cases e
      cases z
  obtain ⟨dx, mT, dd, vs, a, nx, mN, h1, h2, ⟨o, es, ep, e, z, y⟩, h4, h5, h6⟩ := r.ex
  refine ⟨dx, mT, dd, vs, a, nx, mN, ob h1, h2, ⟨o, es, ep, k _ _ (fun q => ?_) e, z, y⟩, h4, ob h5, h6⟩
  rw [q, hT] at e
  cases e
  cases y.1
section
variable {X : Cx} {σ : L2.St}
/-- what stands under the table -/
theorem el_ns {pins : List (Addr × Obj)} {H1 : Hp} {s1 s2 : Shared} {T cd : Addr} (TB : GxR.TabB X.base X.mg cd T) (I : Inv X pins σ H1 s1) (st : ∀ b u, b ≠ T → s1.heap.get? b = some u → s2.heap.get? b = some u) : s2.heap.Ns mainGlobals X.mg := by
  obtain ⟨o, es, ep, e, z⟩ := I.mod.glob.keeps I.bk
  exact ⟨o, es, ep, st _ _ TB.gP e, z⟩
theorem el_kin {pins : List (Addr × Obj)} {H1 : Hp} {s1 s2 : Shared} {T : Addr} (out : X.K.lookup T = none) (I : Inv X pins σ H1 s1) (st : ∀ b u, b ≠ T → s1.heap.get? b = some u → s2.heap.get? b = some u) : X.K.In s2.heap := fun a o e =>
  st a o (fun z => by rw [z, out] at e; cases e) (I.kIn a o e)
theorem el_lim {pins : List (Addr × Obj)} {H1 : Hp} {s1 s2 : Shared} {T : Addr} {ps : Array Value} (I : Inv X pins σ H1 s1) (hT : H1 T = some (.tbl ps)) (st : ∀ b u, b ≠ T → s1.heap.get? b = some u → s2.heap.get? b = some u) : s2.heap.NoLimit := by
  obtain ⟨m, ⟨ob, es, ep, w1, w2, w3⟩, l⟩ := I.nolimit
  refine ⟨m, ⟨ob, es, ep, st _ _ (fun z => ?_) w1, w2, w3⟩, l⟩
  have h : s1.heap.get? T = some { cls := .none, data := .fields ps } := I.hok T _ hT
  rw [z, h] at w1
  cases w1
  cases w2
theorem el_cell {pins : List (Addr × Obj)} {H1 : Hp} {s1 s2 : Shared} {T : Addr} {ps : Array Value} {i : Nat} {x : PySem.Str} {v : V} (I : Inv X pins σ H1 s1) (hT : H1 T = some (.tbl ps)) (st : ∀ b u, b ≠ T → s1.heap.get? b = some u → s2.heap.get? b = some u)
    (hN : X.N[i]? = some x) (hv : σ[i]? = some (some v)) (hk : X.env.kindOf x = some .cell) : ∃ c u, X.env.cells.lookup x = some c ∧ RelV v u ∧ s2.heap.IsCell c (some u) := by
  obtain ⟨m, _, l⟩ := I.loc
  obtain ⟨u, r, lk⟩ := l i x v hN hv (Or.inr (Or.inl hk))
  rcases lk with ⟨z, _⟩ | ⟨_, c, hc, hC⟩
  · rw [hk] at z
    cases z
  · refine ⟨c, u, hc, r, ?_⟩
    obtain ⟨o, e, d⟩ := hC
    refine ⟨o, st c o (fun z => ?_) e, d⟩
    have h := I.freeC x c hc
    rw [z, hT] at h
    cases h
/-- is_usable(tree, other) -/
theorem elt_usable (c : Says X.K X.mg X.base) {pins : List (Addr × Obj)} {H1 : Hp} {s1 : Shared} {T cd t : Addr} {Tr : List Nd} {xs : List PySem.Str} {its : List Value} {ps : Array Value} {i : Nat} {scope : Scope} {p1 p2 p3 pos : Pos} (TB : GxR.TabB X.base X.mg cd T) (out : X.K.lookup T = none) (hr : Room 3 X.A)
    (I : Inv X pins σ H1 s1) (hT : H1 T = some (.tbl ps)) (hTr : TreeAt X.K H1 t Tr) (nd : (Tr.map (·.name)).Nodup) (hx : ∀ n ∈ xs, ∃ d ∈ Tr, d.name = n) (rv : Vals (sV xs) its) (hN : X.N[i]? = some "tree") (hv : σ[i]? = some (some (.ref t))) (hk : X.env.kindOf "tree" = some .cell) (hcl : (cloFrom X.env.cells scope.names []).lookup ("tree" : PySem.Str) = X.env.cells.lookup ("tree" : PySem.Str))
    (k1 : scope.kind = .function) (k2 : scope.names.lookup ("is_usable" : PySem.Str) = some .globalImplicit) (k3 : scope.names.lookup ("tree" : PySem.Str) = some .free) (k4 : scope.names.lookup ("other" : PySem.Str) = some .local) :
    EltOk X scope "other" (.Call (.Name "is_usable" p1) [.Name "tree" p2, .Name "other" p3] [] pos) T (fun i v => its[i]? = some v) (fun i => tst (onOf Tr) xs[i]?) s1 := by
  intro A' E' j v s2 m2 C code bi hA hD hU hP hn hm st
  have atT : s1.heap.get? T = some { cls := .none, data := .fields ps } := I.hok T _ hT
  obtain ⟨cc, u, hc, ru, isC⟩ := el_cell I hT st hN hv hk
  have ru : u = .ref t := ru
  subst ru
  have lt : j < xs.length := by
    have l := rv.length
    rw [len_of_sV] at l
    rw [l]
    exact (List.getElem?_eq_some_iff.mp hP).1
  have ej : xs[j]? = some xs[j] := List.getElem?_eq_getElem lt
  obtain ⟨d, hd, ed⟩ := hx xs[j] (List.getElem_mem lt)
  obtain ⟨u2, hu2, ru2⟩ := rv.get (i := j) (x := .str xs[j]) (by rw [List.getElem?_map, ej]; rfl)
  have hP : its[j]? = some v := hP
  rw [hP] at hu2
  cases hu2
  obtain ⟨tk, rfl⟩ := (show ∃ t, v = Value.str xs[j] t from ru2)
  simp only [ej]
  have kp : PySem.W.keepIn X.K (.ref (He.ga X.K "is_usable")) = true := by
    obtain ⟨fd, F⟩ := fn_is_usable c
    exact F.kp
  have hr2 : Room 2 A' := ⟨hA, by have := hr.dp; omega, by have := hr.un; omega⟩
  have R : RawN X.prog X.w X.K s2.heap t xs[j] d.vis d.en := by
    rw [← ed]
    exact (raw_of I.hok hTr hd).but atT st
  refine wpAny_Call_Name_kw (Calls.Name_function_global k1 k2 (Calls.loadGlobal_global (mg := X.mg) (by rw [show (genEnv scope (cloFrom X.env.cells scope.names []) C code bi X.env).globals = mainGlobals from I.ok.glob]; exact el_ns TB I st) (glo_is_usable c) ?_))
  refine PySem.W.callWith_K (first := []) (h₀ := s2.heap) (el_kin out I st) kp ?_ rfl rfl
  refine Calls.spliced_cons (wpAny_Name (wpAny_loadName_free k1 k3 (hcl.trans hc) isC ?_) (by decide))
  refine Calls.spliced_cons (wpAny_Name (wpAny_loadName_local k1 k4 hn hm (Calls.spliced_nil ⟨el_kin out I st, ?_⟩)) (by decide))
  refine wpAny_call (codeAny_mono (raw_usable c hr2 (el_kin out I st) (el_lim I hT st) R) fun r s3 h3 => ?_)
  obtain ⟨rfl, k⟩ := h3
  refine ⟨?_, k⟩
  show Value.bool (d.vis && d.en) = .bool (onOf Tr xs[j])
  rw [← ed]
  unfold onOf
  rw [look_of nd hd]
/-! ### the tables; promises that lean on them -/
def TabsOn (K : PySem.W.Frag) (H : Hp) : Prop := ∀ p ∈ tf, GxR.TabG H (He.cT K p).2
theorem TabsOn.up {K : PySem.W.Frag} {H H' : Hp} (e : Z.Ex H H') (h : TabsOn K H) : TabsOn K H' := fun p hp => TabG.up e (h p hp)
def spRdT (K : PySem.W.Frag) (pre : List Nd → Nd → Prop) (f : List Nd → Nd → V) : Sp := fun vs H Q _ => ∃ t T d, vs = [.ref t, .str d.name] ∧ TabsOn K H ∧ TreeAt K H t T ∧ d ∈ T ∧ pre T d ∧ Ret (isV (f T d)) H Q
theorem spRdT_len {K : PySem.W.Frag} {pre f} : ∀ vs H Q E, spRdT K pre f vs H Q E → vs.length = 2 := fun vs H Q E ⟨t, T, d, e, _⟩ => by
  rw [e]
  rfl
theorem ev_crdT {x : PySem.Str} {ps : List PySem.Str} {t : Addr} {T : List Nd} {d : Nd} {pre : List Nd → Nd → Prop} {f : List Nd → Nd → V} {B : Hp} {e e2 : Expr} {p pos : Pos} {j k : Nat} (F : Cal X.prog X.w X.K X.mg X.base x k ps (spRdT X.K pre f)) (hr : Room j X.A) (hk : k ≤ j) (hS : TabsOn X.K B) (hT : TreeAt X.K B t T) (hd : d ∈ T) (hp : pre T d) (ho : Ev X e σ B (isV (.ref t))) (he : Ev X e2 σ B (isV (.str d.name)))
    (hg : Gl X x := by rfl) (hdb : (x == ("__debug__" : PySem.Str)) = false := by decide) (hs : starEach [e, e2] X.env = (false, eval e X.env) :: starEach [e2] X.env := by rfl) (hs2 : starEach [e2] X.env = (false, eval e2 X.env) :: starEach [] X.env := by rfl)
    (hpl : (backTo pos (starEach [e2] X.env)).any (·.1) = false := by rfl) : Ev X (.Call (.Name x p) [e, e2] [] pos) σ B (isV (f T d)) :=
  ev_call F hr hk (args2 ho he hs hs2) (fun vs H d2 p2 Q q => by
    rw [p2.vals]
    exact ⟨t, T, d, rfl, hS.up d2, hT.up d2, hd, hp, q⟩) hg hdb hs hpl
end
section
variable {P : Program} {w : World} {K : PySem.W.Frag} {mg : PySem.Str → Option Value} {base : Heap}
theorem all_at {α : Type} (f : α → Bool) (xs : List α) : ((List.range xs.length).all fun i => tst f xs[i]?) = xs.all f := by
  rw [Bool.eq_iff_iff, List.all_eq_true, List.all_eq_true]
  constructor
  · intro h b hb
    obtain ⟨j, hj, e⟩ := List.getElem_of_mem hb
    have q := h j (List.mem_range.mpr hj)
    rw [List.getElem?_eq_getElem hj, e] at q
    exact q
  · intro h j hj
    have hj' := List.mem_range.mp hj
    rw [List.getElem?_eq_getElem hj']
    exact h _ (List.getElem_mem hj')
theorem fc_is_focusable (c : Says K mg base) : Cal P w K mg base "is_focusable" 4 ["tree", "name"] (spRdT K wfT fun T d => .bl (focB T d.name)) := by
  refine cal_ofG (fn_is_focusable c) (glo_is_focusable c) sc_is_focusable bi_is_focusable spRdT_len ?_
  rintro A outer s H vs Q E hr ⟨t, T, d, rfl, hS, hT, hd, wf, q⟩
  refine sx_if (et_neS (ev_mrd (mt_kind c) hr (by decide) hT hd trivial (ev_var 0 rfl) (ev_var 1 rfl)) ev_str rfl) (fun hv => ?_) (fun hv => sx_skip ?_)
  · refine sx_ret ev_bool fun v H2 d2 p2 => q v H2 d2 ?_
    have p2 : v = .bl false := p2
    rw [p2]
    show V.bl false = .bl (focB T d.name)
    unfold focB
    rw [kindOf_of wf hd]
    have e : ¬ d.kind = "item" := fun z => by
      rw [z] at hv
      cases hv
    rw [decide_eq_false e]
    rfl
  · have e : d.kind = "item" := by
      simpa using hv
    have hm : (("is_focusable" : PySem.Str), (none : Option PySem.Str)) ∈ tf := by decide
    have hS1 := hS _ hm
    refine sx_ret (ev_all hr (c.tab _ hm) rfl ⟨rfl, rfl, by decide, rfl, rfl, ?_⟩ (ev_cat (xs := [.str d.name]) (ev_lst (vs := [.str d.name]) (ea_cons (ev_var 1 rfl) ea_nil) (by show 1 ≤ sizeLine; decide)).nA (ev_crdL (fc_between c) hr (by decide) hT hd wf (ev_var 0 rfl) (ev_var 1 rfl)).nA ?_) hS1 (fun v H1 d1 p1 pins s1 u I ru => ?_) (free_all c)) q
    · intro y hy e
      rcases List.mem_cons.mp hy with z | hy
      · rw [z] at e; cases e
      rcases List.mem_cons.mp hy with z | hy
      · rw [z] at e; cases e
      rcases List.mem_cons.mp hy with z | hy
      · rw [z]
        exact ⟨_, rfl⟩
      rcases List.mem_cons.mp hy with z | hy
      · rw [z] at e; cases e
      · cases hy
    · have l1 := anc_len wf d.dep hd rfl
      have l2 := wf.low d hd
      have l3 : (betw T d.name).length ≤ (anc T d.name).length := (List.takeWhile_sublist _).length_le
      rw [len_of_sV]
      show 1 + (betw T d.name).length ≤ sizeLine
      have l4 : 100 ≤ sizeLine := by decide
      omega
    · obtain ⟨p, rfl, _, hp⟩ := p1
      obtain ⟨ps, hps, _⟩ := TabG.up d1 hS1
      obtain ⟨its, rv, it⟩ := iter_list (xs := sV (d.name :: betw T d.name)) I (SqL.of hp) ru
      refine ⟨_, _, _, it, elt_usable c (c.tab _ hm) (c.out _ hm) (hr.mono (by decide)) I hps (hT.up d1) wf.nd (i := 0) (xs := d.name :: betw T d.name) (fun n hn => ?_) rv rfl rfl rfl rfl rfl rfl rfl rfl, ?_⟩
      · rcases List.mem_cons.mp hn with z | z
        · exact ⟨d, hd, z.symm⟩
        · exact betw_mem wf hd n z
      · rw [len_of_sV, all_at]
        unfold focB
        rw [kindOf_of wf hd, e]
        rfl
end
end K24
set_option Elab.async false
set_option linter.all false
set_option maxRecDepth 100000
set_option maxHeartbeats 4000000
/-! Document order: trees that grow at their right spine. -/
namespace K24
open PySem PySem.Spec PyProof.Rows L2 Z
theorem fm_congr {α β : Type} {f g : α → List β} : ∀ {xs : List α}, (∀ a ∈ xs, f a = g a) → xs.flatMap f = xs.flatMap g
  | [], _ => rfl
  | a :: r, h => by
    rw [List.flatMap_cons, List.flatMap_cons, h a List.mem_cons_self, fm_congr fun b hb => h b (List.mem_cons_of_mem _ hb)]
def subF : Nat → List Nd → PySem.Str → List PySem.Str
  | 0, _, n => [n]
  | f + 1, T, n => n :: (kids T n).flatMap (subF f T)
theorem kids_snoc (T : List Nd) (d : Nd) (n : PySem.Str) : kids (T ++ [d]) n = kids T n ++ (if d.par = some n then [d.name] else []) := by
  unfold kids
  rw [List.filter_append, List.map_append]
  by_cases h : d.par = some n
  · rw [if_pos h, List.filter_cons, if_pos (by rw [decide_eq_true_iff]; exact h)]
    rfl
  · rw [if_neg h, List.filter_cons, if_neg (by rw [decide_eq_true_iff]; exact h)]
    rfl
theorem subF_self (f : Nat) (T : List Nd) (n : PySem.Str) : n ∈ subF f T n := by
  cases f with
  | zero => exact List.mem_cons_self
  | succ f => exact List.mem_cons_self
theorem subF_off {T T' : List Nd} {p : PySem.Str} (hk : ∀ y, y ≠ p → kids T' y = kids T y) : ∀ (f : Nat) (x : PySem.Str), p ∉ subF f T x → subF f T' x = subF f T x
  | 0, x, _ => rfl
  | f + 1, x, h => by
    have h1 : x ≠ p := fun e => h (e ▸ List.mem_cons_self)
    show x :: (kids T' x).flatMap (subF f T') = x :: (kids T x).flatMap (subF f T)
    rw [hk x h1]
    have h2 : ∀ y ∈ kids T x, p ∉ subF f T y := fun y hy z => h (List.mem_cons_of_mem _ (List.mem_flatMap.mpr ⟨y, hy, z⟩))
    rw [fm_congr fun y hy => subF_off hk f y (h2 y hy)]
/-- what the reading of an outline keeps: a tree, the path to its last node -/
structure Built (T : List Nd) (path : List PySem.Str) : Prop where
  wf : WF T
  root : path[0]? = some ("root" : PySem.Str)
  len : path.length ≤ 9
  dep : ∀ i n, path[i]? = some n → ∃ d ∈ T, d.name = n ∧ d.dep = i
  spine : ∀ i x y, path[i]? = some x → path[i + 1]? = some y → ∃ ks, kids T x = ks ++ [y]
  ord : subF 8 T "root" = T.map (·.name)
theorem built_root (d : Nd) (h1 : d.name = "root") (h2 : d.kind = "layer") (h3 : d.par = none) (h4 : d.dep = 0) : Built [d] ["root"] := by
  refine ⟨⟨?_, ?_, ?_⟩, rfl, by decide, ?_, ?_, ?_⟩
  · simp
  · intro d' hd
    rw [List.mem_singleton.mp hd]
    exact Or.inl ⟨h3, h4, h1, h2⟩
  · intro d' hd
    rw [List.mem_singleton.mp hd, h4]
    exact Nat.zero_le _
  · intro i n h
    cases i with
    | zero =>
      have e : ("root" : PySem.Str) = n := Option.some.inj h
      exact ⟨d, List.mem_singleton.mpr rfl, h1.trans e, h4⟩
    | succ i => cases h
  · intro i x y h h'
    cases h'
  · have e : kids [d] "root" = [] := by
      unfold kids
      rw [List.filter_cons, if_neg (by rw [h3]; simp)]
      rfl
    show ("root" : PySem.Str) :: (kids [d] "root").flatMap (subF 7 [d]) = [d.name]
    rw [e, h1]
    rfl
section
variable {T : List Nd} {path : List PySem.Str} {d : Nd} {p : PySem.Str}
/-- the node p is below all of the path above it -/
theorem Built.below (b : Built T path) {e : Nat} (hp : path[e]? = some p) : ∀ (j i : Nat) (f : Nat) (x : PySem.Str), i + j = e → j ≤ f → path[i]? = some x → p ∈ subF f T x
  | 0, i, f, x, h1, _, hx => by
    have z : i = e := h1
    rw [z, hp] at hx
    cases hx
    exact subF_self f T p
  | j + 1, i, 0, x, h1, h2, hx => absurd h2 (by omega)
  | j + 1, i, f + 1, x, h1, h2, hx => by
    have lt : i + 1 < path.length := by
      have := (List.getElem?_eq_some_iff.mp hp).1
      omega
    obtain ⟨ks, hk⟩ := b.spine i x _ hx (List.getElem?_eq_getElem lt)
    refine List.mem_cons_of_mem _ (List.mem_flatMap.mpr ⟨path[i + 1], ?_, below b hp j (i + 1) f _ (by omega) (by omega) (List.getElem?_eq_getElem lt)⟩)
    rw [hk]
    simp
theorem Built.grow (b : Built T path) {e : Nat} (hp : path[e]? = some p) (h8 : e < 8) (hd : d.par = some p) (hn : kids (T ++ [d]) d.name = []) : ∀ (j i : Nat) (x : PySem.Str), i + j = e → path[i]? = some x → (subF (8 - i) T x).Nodup →
    subF (8 - i) (T ++ [d]) x = subF (8 - i) T x ++ [d.name]
  | 0, i, x, h1, hx, nd => by
    have z : i = e := h1
    subst z
    rw [hp] at hx
    cases hx
    have off : ∀ y, y ≠ p → kids (T ++ [d]) y = kids T y := fun y hy => by
      rw [kids_snoc, if_neg (by rw [hd]; exact fun z => hy (Option.some.inj z).symm), List.append_nil]
    obtain ⟨f, hf⟩ : ∃ f, 8 - i = f + 1 := ⟨7 - i, by omega⟩
    rw [hf] at nd ⊢
    have nd1 : (p :: (kids T p).flatMap (subF f T)).Nodup := nd
    have n1 := (List.nodup_cons.mp nd1).1
    show p :: (kids (T ++ [d]) p).flatMap (subF f (T ++ [d])) = (p :: (kids T p).flatMap (subF f T)) ++ [d.name]
    rw [kids_snoc, if_pos hd, List.flatMap_append, fm_congr fun y hy => subF_off off f y fun z => n1 (List.mem_flatMap.mpr ⟨y, hy, z⟩)]
    have e1 : [d.name].flatMap (subF f (T ++ [d])) = [d.name] := by
      cases f with
      | zero => rfl
      | succ f =>
        show (d.name :: (kids (T ++ [d]) d.name).flatMap (subF f (T ++ [d]))) ++ [] = [d.name]
        rw [hn]
        rfl
    rw [e1]
    rfl
  | j + 1, i, x, h1, hx, nd => by
    have off : ∀ y, y ≠ p → kids (T ++ [d]) y = kids T y := fun y hy => by
      rw [kids_snoc, if_neg (by rw [hd]; exact fun z => hy (Option.some.inj z).symm), List.append_nil]
    have lt : i + 1 < path.length := by
      have := (List.getElem?_eq_some_iff.mp hp).1
      omega
    have hy := List.getElem?_eq_getElem lt
    generalize path[i + 1] = y at hy
    obtain ⟨ks, hk⟩ := b.spine i x _ hx hy
    obtain ⟨f, hf⟩ : ∃ f, 8 - i = f + 1 := ⟨7 - i, by omega⟩
    have hf2 : 8 - (i + 1) = f := by omega
    rw [hf] at nd ⊢
    have nd1 : (x :: (kids T x).flatMap (subF f T)).Nodup := nd
    have pin : p ∈ subF f T y := b.below hp j (i + 1) f y (by omega) (by omega) hy
    have nd2 := List.nodup_cons.mp nd1
    have xp : x ≠ p := fun z => nd2.1 (by
      rw [z]
      refine List.mem_flatMap.mpr ⟨y, ?_, pin⟩
      rw [← z, hk]
      simp)
    have fe : (kids T x).flatMap (subF f T) = ks.flatMap (subF f T) ++ subF f T y := by
      rw [hk, List.flatMap_append]
      simp
    rw [fe] at nd2
    have nd3 := List.nodup_append.mp nd2.2
    have ih := grow b hp h8 hd hn j (i + 1) y (by omega) hy (by rw [hf2]; exact nd3.2.1)
    rw [hf2] at ih
    show x :: (kids (T ++ [d]) x).flatMap (subF f (T ++ [d])) = (x :: (kids T x).flatMap (subF f T)) ++ [d.name]
    rw [off x xp, fe, hk, List.flatMap_append, fm_congr fun z hz => subF_off off f z fun q => nd3.2.2 p (List.mem_flatMap.mpr ⟨z, hz, q⟩) p pin rfl]
    have e1 : [y].flatMap (subF f (T ++ [d])) = subF f T y ++ [d.name] := by
      rw [← ih]
      simp
    rw [e1, List.cons_append, List.append_assoc]
theorem Built.mem (b : Built T path) {e : Nat} (hp : path[e]? = some p) : ∃ q ∈ T, q.name = p ∧ q.dep = e := b.dep e p hp
theorem Built.snoc (b : Built T path) {e : Nat} (he : d.dep = e + 1) (h8 : e < 8) (hp : path[e]? = some p) (hd : d.par = some p) (hn : d.name ∉ T.map (·.name)) : Built (T ++ [d]) (path.take (e + 1) ++ [d.name]) := by
  obtain ⟨q, hq, eq, dq⟩ := b.mem hp
  have lt : e < path.length := (List.getElem?_eq_some_iff.mp hp).1
  have nd : ((T ++ [d]).map (·.name)).Nodup := by
    rw [List.map_append]
    refine List.nodup_append.mpr ⟨b.wf.nd, by simp, ?_⟩
    intro a ha c hc z
    rw [List.mem_singleton.mp hc] at z
    rw [z] at ha
    exact hn ha
  have wf : WF (T ++ [d]) := by
    refine ⟨nd, fun x hx => ?_, fun x hx => ?_⟩
    · rcases List.mem_append.mp hx with z | z
      · rcases b.wf.up x z with y | ⟨q2, h1, h2, h3⟩
        · exact Or.inl y
        · exact Or.inr ⟨q2, List.mem_append_left _ h1, h2, h3⟩
      · rw [List.mem_singleton.mp z]
        exact Or.inr ⟨q, List.mem_append_left _ hq, by rw [eq]; exact hd, by rw [he, dq]⟩
    · rcases List.mem_append.mp hx with z | z
      · exact b.wf.low x z
      · rw [List.mem_singleton.mp z]
        omega
  have kd : kids (T ++ [d]) d.name = [] := by
    rw [kids_snoc]
    have e1 : kids T d.name = [] := by
      unfold kids
      rw [List.filter_eq_nil_iff.mpr]
      · rfl
      · intro a ha z
        rcases b.wf.up a ha with ⟨y, _⟩ | ⟨q2, h1, h2, _⟩
        · rw [y] at z
          simp at z
        · rw [h2, decide_eq_true_iff] at z
          exact hn (List.mem_map.mpr ⟨q2, h1, Option.some.inj z⟩)
    have e2 : ¬ d.par = some d.name := by
      rw [hd, ← eq]
      intro z
      exact hn (List.mem_map.mpr ⟨q, hq, Option.some.inj z⟩)
    rw [e1, if_neg e2]
    rfl
  have tk : ∀ i, i ≤ e → (path.take (e + 1) ++ [d.name])[i]? = path[i]? := fun i hi => by
    rw [List.getElem?_append_left (by rw [List.length_take]; omega), List.getElem?_take, if_pos (by omega)]
  have ln : (path.take (e + 1)).length = e + 1 := by
    rw [List.length_take]
    omega
  have tl : (path.take (e + 1) ++ [d.name])[e + 1]? = some d.name := by
    rw [List.getElem?_append_right (by omega), ln, Nat.sub_self]
    rfl
  have tg : ∀ i, e + 1 < i → (path.take (e + 1) ++ [d.name])[i]? = none := fun i hi => by
    rw [List.getElem?_eq_none]
    rw [List.length_append, ln]
    exact hi
  refine ⟨wf, (tk 0 (Nat.zero_le _)).trans b.root, ?_, ?_, ?_, ?_⟩
  · rw [List.length_append, ln]
    show e + 1 + 1 ≤ 9
    omega
  · intro i n h
    rcases Nat.lt_trichotomy i (e + 1) with z | z | z
    · rw [tk i (by omega)] at h
      obtain ⟨q2, h1, h2, h3⟩ := b.dep i n h
      exact ⟨q2, List.mem_append_left _ h1, h2, h3⟩
    · rw [z, tl] at h
      exact ⟨d, List.mem_append_right _ (List.mem_singleton.mpr rfl), Option.some.inj h, by rw [he, z]⟩
    · rw [tg i z] at h
      cases h
  · intro i x y hx hy
    rcases Nat.lt_trichotomy i e with z | z | z
    · rw [tk i (by omega)] at hx
      rw [tk (i + 1) (by omega)] at hy
      obtain ⟨ks, hk⟩ := b.spine i x y hx hy
      obtain ⟨q2, h1, h2, h3⟩ := b.dep i x hx
      refine ⟨ks, ?_⟩
      rw [kids_snoc, if_neg, List.append_nil, hk]
      rw [hd]
      intro w
      have := mem_inj b.wf.nd h1 hq (by rw [h2, eq]; exact (Option.some.inj w).symm)
      rw [this, dq] at h3
      omega
    · subst z
      rw [tk i (Nat.le_refl _), hp] at hx
      rw [tl] at hy
      cases hx
      cases hy
      exact ⟨kids T p, by rw [kids_snoc, if_pos hd]⟩
    · rw [tg (i + 1) (by omega)] at hy
      cases hy
  · have g := b.grow hp h8 hd kd e 0 "root" (by omega) b.root (by
      rw [show 8 - 0 = 8 from rfl, b.ord]
      exact b.wf.nd)
    rw [show 8 - 0 = 8 from rfl, b.ord] at g
    rw [g, List.map_append]
    rfl
end
end K24
set_option Elab.async false
set_option linter.all false
set_option maxRecDepth 100000
set_option maxHeartbeats 4000000
/-! More rules of the layer. -/
namespace Z
open PySem PySem.Spec PyProof.Rows L2
section
variable {X : Cx} {σ : L2.St} {B B' : Hp} {S S' Sa : VS} {a c e : Expr} {es : List Expr} {Ss : List VS} {pos p2 : Pos} {D : Ends} {rest body : List Stmt} {st : Stmt}
/-- o.m(e, ..) as a statement, m of a built-in type -/
theorem sx_bm {T id : String} {name : Str} {apos cpos : Pos} {o : Expr} {l : Addr} {r : V → List V → Hp → VK → Prop} (pa : PlainAttrs T) (slot : Slot T name id) (hty : typeOf (.builtin id) = pure (.type "method_descriptor")) (hm : MtR X id r) (ho : Ev X o σ B (isV (.ref l))) (ha : EvA X (e :: es) σ B Ss)
    (ht : ∀ H, Ex B H → tyV X.K T (.ref l) H) (k : ∀ vs H, Ex B H → AllS Ss H vs → r (.ref l) vs H fun _ H2 => sS X rest D σ H2)
    (hbase : attributeBase o name X.env (eval o X.env) = eval o X.env := by rfl)
    (hfew : ((backTo cpos (starEach (e :: es) X.env)).all (fun x => !x.1) && (backToKw cpos (keywordEach [] X.env)).all (fun x => x.1.isSome)
      && decide ((e :: es).length + ([] : List Keyword).length + (if ([] : List Keyword).isEmpty then 0 else 1) < 30)) = true := by rfl)
    (hline : (apos.endLine == cpos.line) = true := by rfl) (hs : starEach (e :: es) X.env = (false, eval e X.env) :: starEach es X.env := by rfl) (hplain : (backTo cpos (starEach es X.env)).any (·.1) = false := by rfl)
    (hsw : swapsWith (.Call (.Attribute o name apos) (e :: es) [] cpos) none pos.line X.env = pure false := by rfl) :
    SX X (.Expr (.Call (.Attribute o name apos) (e :: es) [] cpos) pos :: rest) D σ B :=
  sx_step (ps_expr (pe_bm pa slot hty hm (pe_s o) (pa_s _) hbase hfew hline hs hplain) hsw) fun H d => ho H d _ fun u H2 d2 p2 => by
    have p2 : u = .ref l := p2
    subst p2
    exact ⟨ht H2 (d.trans d2), ha H2 (d.trans d2) _ fun vs H3 d3 p3 => k vs H3 ((d.trans d2).trans d3) p3⟩
theorem ty_list {l : Addr} {xs : List V} (h : B l = some (.lst xs)) : ∀ H, Ex B H → tyV X.K "list" (.ref l) H := fun H d => Or.inl ⟨rfl, xs, SqL.of (d.get h)⟩
/-- xs.extend(e), e a new list -/
theorem sx_ext {o : Expr} {l : Addr} {xs ys : List V} {apos cpos : Pos} (ho : Ev X o σ B (isV (.ref l))) (he : Ev X e σ B (newO B (.lst ys))) (hl : B l = some (.lst xs)) (hz : xs.length + ys.length ≤ sizeLine) (k : SX X rest D σ (upd B l (.lst (xs ++ ys))))
    (hbase : attributeBase o "extend" X.env (eval o X.env) = eval o X.env := by rfl)
    (hfew : ((backTo cpos (starEach [e] X.env)).all (fun x => !x.1) && (backToKw cpos (keywordEach [] X.env)).all (fun x => x.1.isSome)
      && decide ([e].length + ([] : List Keyword).length + (if ([] : List Keyword).isEmpty then 0 else 1) < 30)) = true := by rfl)
    (hline : (apos.endLine == cpos.line) = true := by rfl) (hs : starEach [e] X.env = (false, eval e X.env) :: starEach [] X.env := by rfl) (hplain : (backTo cpos (starEach [] X.env)).any (·.1) = false := by rfl)
    (hsw : swapsWith (.Call (.Attribute o "extend" apos) [e] [] cpos) none pos.line X.env = pure false := by rfl) :
    SX X (.Expr (.Call (.Attribute o "extend" apos) [e] [] cpos) pos :: rest) D σ B :=
  sx_bm PySem.F.plainAttrs_list PySem.F.slot_list_extend PySem.F.type_list_extend mt_extend ho (ea_cons he ea_nil hs) (ty_list hl) (fun vs H d p3 => by
    obtain ⟨v, r, rfl, ⟨q, rfl, fr, h⟩, rfl⟩ := p3
    have ne : l ≠ q := ne_of_none hl fr
    exact ⟨l, q, xs, ys, rfl, rfl, d.get hl, h, hz, k _ d.both⟩) hbase hfew hline hs hplain hsw
/-- xs.index(e), found at j first -/
theorem ev_index {xs : List V} {v : V} {j : Nat} {apos : Pos} (ha : Ev X a σ B (seqL X.K xs)) (he : Ev X e σ B (isV v)) (fv : flatV v = true) (fx : xs.all flatV = true) {z : V} (hj : xs[j]? = some z) (hz : eqV z v = true) (hno : ∀ (m : Nat) (z' : V), m < j → xs[m]? = some z' → eqV z' v = false)
    (hbase : attributeBase a "index" X.env (eval a X.env) = eval a X.env := by rfl)
    (hfew : ((backTo pos (starEach [e] X.env)).all (fun x => !x.1) && (backToKw pos (keywordEach [] X.env)).all (fun x => x.1.isSome)
      && decide ([e].length + ([] : List Keyword).length + (if ([] : List Keyword).isEmpty then 0 else 1) < 30)) = true := by rfl)
    (hline : (apos.endLine == pos.line) = true := by rfl) (hs : starEach [e] X.env = (false, eval e X.env) :: starEach [] X.env := by rfl) (hplain : (backTo pos (starEach [] X.env)).any (·.1) = false := by rfl) :
    Ev X (.Call (.Attribute a "index" apos) [e] [] pos) σ B (isV (.int (j : Nat))) :=
  ev_bm PySem.F.plainAttrs_list PySem.F.slot_list_index PySem.F.type_list_index mt_index ha (ea_cons he ea_nil hs) (fun u H d ⟨p, z, h⟩ => by
    rw [z]
    exact Or.inl ⟨rfl, xs, h⟩) (fun u vs H d p1 p2 Q q => by
    obtain ⟨p, rfl, h⟩ := p1
    obtain ⟨w, r, rfl, p3, rfl⟩ := p2
    have p3 : w = v := p3
    subst p3
    exact ⟨p, xs, w, j, z, rfl, rfl, h, fv, fx, hj, hz, hno, ev_ret q⟩) hbase hfew hline hs hplain
/-- over the list at p -/
theorem sx_forAt (j : Nat) {x : Str} {xs : List V} {p : Addr} (hl : Ev X e σ B (isV (.ref p))) (W : Nat → L2.St → Hp → Prop) (w0 : W 0 σ B) (wl : ∀ i σ B, W i σ B → SqL X.K B p xs)
    (ws : ∀ i v σ B, xs[i]? = some v → W i σ B → SX X body (Turned X D rest (Up (W (i + 1)))) (σ.set j (some v)) B) (wd : ∀ σ B, W xs.length σ B → SX X rest D σ B)
    (hN : X.N.Nodup := by exact FnScope.nd (by assumption)) (hi : X.N[j]? = some x := by rfl) (hx : Loc X.env.scope x := by first | exact Or.inl rfl | exact Or.inr rfl) (hf : X.fn x = true ∨ X.env.scope.names.lookup x = some .local := by first | exact .inl rfl | exact .inr rfl)
    (hp : PassesOwn (model X.prog X.w) X.A X.env X.xe := by exact PassesOwn.never) (hc : X.calm = true := by rfl) (hs : ∀ x, foldedSetIterable e X.env x = pure x := by intro _; rfl) : SX X (.For (.Name x p2) e body [] pos :: rest) D σ B :=
  sx_step (ps_for hp hc (pi_list (pe_s e)) (pg_name hN hi hx hf) (ps_s body) hs) fun H d => hl H d _ fun u H2 d2 z => by
    have z : u = .ref p := z
    subst z
    exact ⟨p, rfl, ⟨xs, (d.trans d2).seqL (wl 0 σ B w0)⟩, for_list (xs := xs) (fun i σ H => Up (W i) σ H) ⟨B, d.trans d2, w0⟩ (fun i σ H _ ⟨B1, x1, w1⟩ => x1.seqL (wl i σ B1 w1)) (fun i v σ H hi ⟨B1, x1, w1⟩ => ws i v σ B1 hi w1 H x1) (fun σ H ⟨B1, x1, w1⟩ => wd σ B1 w1 H x1)⟩
end
end Z
set_option Elab.async false
set_option linter.all false
set_option maxRecDepth 100000
set_option maxHeartbeats 4000000
/-! Subtrees, names, the focusable items, composites and members. -/
namespace K24
open PySem PySem.Spec PyProof.Rows L2 Z
section
variable {P : Program} {w : World} {K : PySem.W.Frag} {mg : PySem.Str → Option Value} {base : Heap}
theorem fm_at {α : Type} {g : α → List PySem.Str} {xs : List α} {i : Nat} {c : α} (h : xs[i]? = some c) : (xs.take (i + 1)).flatMap g = (xs.take i).flatMap g ++ g c ∧ ((xs.take i).flatMap g).length + (g c).length ≤ (xs.flatMap g).length := by
  have e : (xs.take (i + 1)).flatMap g = (xs.take i).flatMap g ++ g c := by
    rw [take_snoc h, List.flatMap_append]
    simp
  refine ⟨e, ?_⟩
  have z := congrArg List.length e
  rw [List.length_append] at z
  rw [← z]
  have y : xs.flatMap g = (xs.take (i + 1)).flatMap g ++ (xs.drop (i + 1)).flatMap g := by
    rw [← List.flatMap_append, List.take_append_drop]
  rw [y, List.length_append]
  omega
theorem kid_of {T : List Nd} (wf : WF T) {d : Nd} (hd : d ∈ T) {x : PySem.Str} (h : x ∈ kids T d.name) : ∃ q ∈ T, q.name = x ∧ q.dep = d.dep + 1 := by
  obtain ⟨q, hq, e⟩ := List.mem_map.mp h
  obtain ⟨h1, h2⟩ := List.mem_filter.mp hq
  obtain ⟨p, hp, e1, e2⟩ := wf.parIn h1 (of_decide_eq_true h2)
  refine ⟨q, h1, e, ?_⟩
  rw [e2, mem_inj wf.nd hp hd e1]
abbrev subT (k : Nat) : List Nd → Nd → Prop := fun T d => d ∈ T ∧ WF T ∧ 8 ≤ d.dep + k ∧ (subF k T d.name).length ≤ 1000
theorem mt_subtree (c : Says K mg base) : ∀ k, Mtd P w K mg base (He.ga K "Tree") "subtree" (k + 1) ["self", "name"] (spRdL K (subT k) fun T d => subF k T d.name) := by
  intro k
  -- the loop: what a child's subtree is, if there is a child
  have go : ∀ k, (∀ T d, subT k T d → kids T d.name = [] ∧ subF k T d.name = [d.name] ∨ ∃ j, k = j + 1 ∧ Mtd P w K mg base (He.ga K "Tree") "subtree" k ["self", "name"] (spRdL K (subT j) fun T d => subF j T d.name)) →
      Mtd P w K mg base (He.ga K "Tree") "subtree" (k + 1) ["self", "name"] (spRdL K (subT k) fun T d => subF k T d.name) := by
    intro k hk
    refine mtd_of (fn_Tree_subtree c) (cls_Tree c) (me_Tree_subtree c) sc_Tree_subtree bi_Tree_subtree spRdL_len ?_
    rintro cdv A outer s H vs Q E hr ⟨t, T, d, rfl, hT, hd, hp, q⟩
    have hk := hk T d hp
    obtain ⟨_, wf, h8, hz⟩ := hp
    have S := sc_Tree_subtree
    refine sx_asgN 2 (ev_lst (vs := [.str d.name]) (ea_cons (ev_var 1 rfl) ea_nil) (by show 1 ≤ sizeLine; decide)) fun l fl => ?_
    have x0 : Z.Ex H (upd H l (.lst [.str d.name])) := Z.Ex.new fl
    obtain ⟨dx, dd, kvs, a, nx, ch, h1, h2, h3, h4, h5⟩ := node_of hT hd
    refine sx_forAt 3 (ev_fld (ev_node c hr (ev_var 0 rfl) (ev_var 1 rfl) (x0.get h1) (x0.get h2) h3) (x0.get h4) (cls_Node c) (no_Node_children c) (nf_children d ch))
      (fun i σ B => Z.Ex H B ∧ (∃ v, σ = [some (.ref t), some (.str d.name), some (.ref l), v]) ∧ B l = some (.lst (sV (d.name :: ((kids T d.name).take i).flatMap (subF (k - 1) T))))) ⟨x0, ⟨none, rfl⟩, upd_same⟩ (fun i σ B z => SqL.of (z.1.get h5)) ?_ ?_
    · rintro i v σ B hi ⟨x1, ⟨v0, rfl⟩, hl⟩
      obtain ⟨x, rfl, hi2⟩ := sV_at hi
      rcases hk with ⟨hk, _⟩ | ⟨j, rfl, M⟩
      · rw [hk] at hi2
        cases hi2
      · have hz : (d.name :: (kids T d.name).flatMap (subF j T)).length ≤ 1000 := hz
        rw [List.length_cons] at hz
        have hl : B l = some (.lst (sV (d.name :: ((kids T d.name).take i).flatMap (subF j T)))) := hl
        obtain ⟨q2, hq2, rfl, e3⟩ := kid_of wf hd (List.mem_of_getElem? hi2)
        obtain ⟨f1, f2⟩ := fm_at (g := subF j T) hi2
        have hp2 : subT j T q2 := ⟨hq2, wf, by omega, by omega⟩
        refine sx_ext (ev_var 2 rfl) (ev_mrdL M hr (Nat.le_refl _) (hT.up x1) hq2 hp2 (ev_var 0 rfl) (ev_var 3 rfl)) hl ?_ (sx_nil fun H2 d3 => ⟨_, d3, x1.mut fl, ⟨_, rfl⟩, ?_⟩)
        · rw [len_of_sV, len_of_sV, List.length_cons]
          have l4 : 2000 ≤ sizeLine := by decide
          omega
        · show upd B l _ l = some (.lst (sV (d.name :: ((kids T d.name).take (i + 1)).flatMap (subF j T))))
          rw [upd_same, f1, ← List.map_append]
          rfl
    · rintro σ B ⟨x1, ⟨v0, rfl⟩, hl⟩
      refine sx_ret (ev_var 2 rfl) fun v H2 d3 p3 => q v H2 (x1.trans d3) ⟨l, p3, fl, ?_⟩
      rw [len_of_sV, List.take_length] at hl
      have e : d.name :: (kids T d.name).flatMap (subF (k - 1) T) = subF k T d.name := by
        rcases hk with ⟨h1, h2⟩ | ⟨j, rfl, M⟩
        · rw [h1, h2]
          rfl
        · rfl
      rw [e] at hl
      exact d3.get hl
  induction k with
  | zero =>
    refine go 0 fun T d hp => Or.inl ⟨?_, rfl⟩
    cases e : kids T d.name with
    | nil => rfl
    | cons x r =>
      obtain ⟨hd, wf, h8, _⟩ := hp
      obtain ⟨q2, hq2, _, e3⟩ := kid_of wf hd (x := x) (by rw [e]; exact List.mem_cons_self)
      have := wf.low q2 hq2
      omega
  | succ k ih => exact go (k + 1) fun T d hp => Or.inr ⟨k, rfl, ih⟩
/-! ### the whole tree -/
/-- the tree of the nodes T, as the reading leaves it -/
structure Tr (K : PySem.W.Frag) (H : Hp) (t : Addr) (T : List Nd) : Prop where
  tabs : TabsOn K H
  at_ : TreeAt K H t T
  bt : ∃ path, Built T path
  len : T.length ≤ 60
theorem Tr.up {H H' : Hp} {t : Addr} {T : List Nd} (e : Z.Ex H H') (h : Tr K H t T) : Tr K H' t T := ⟨h.tabs.up e, h.at_.up e, h.bt, h.len⟩
theorem Tr.wf {H : Hp} {t : Addr} {T : List Nd} (h : Tr K H t T) : WF T := h.bt.elim fun _ b => b.wf
abbrev namesOf (T : List Nd) : List PySem.Str := T.map (·.name)
def spNames (K : PySem.W.Frag) : Sp := fun vs H Q _ => ∃ t T, vs = [.ref t] ∧ Tr K H t T ∧ Ret (newO H (.lst (sV (namesOf T)))) H Q
theorem mt_names (c : Says K mg base) : Mtd P w K mg base (He.ga K "Tree") "names" 10 ["self"] (spNames K) := by
  refine mtd_of (fn_Tree_names c) (cls_Tree c) (me_Tree_names c) sc_Tree_names bi_Tree_names (fun vs H Q E ⟨t, T, e, _⟩ => by rw [e]; rfl) ?_
  rintro cdv A outer s H vs Q E hr ⟨t, T, rfl, hT, q⟩
  obtain ⟨path, b⟩ := hT.bt
  obtain ⟨d, hd, e, e0⟩ := b.dep 0 _ b.root
  have o : subF 8 T d.name = namesOf T := by rw [e]; exact b.ord
  have hp : subT 8 T d := ⟨hd, b.wf, by omega, by rw [o]; show (T.map (·.name)).length ≤ 1000; rw [List.length_map]; have := hT.len; omega⟩
  refine sx_ret (ev_mrdL (mt_subtree c 8) hr (Nat.le_refl _) hT.at_ hd hp (ev_var 0 rfl) (by rw [e]; exact ev_gstr (str_ROOT_tree c))) ?_
  show Ret (newO H (.lst (sV (subF 8 T d.name)))) H Q
  rw [o]
  exact q
theorem ev_names {X : Cx} (c : Says X.K X.mg X.base) {σ : L2.St} {B : Hp} {o : Expr} {t : Addr} {T : List Nd} {j : Nat} {apos pos : Pos} {pl : Sem Bool} (hr : Room j X.A) (hk : 10 ≤ j) (ho : Ev X o σ B (isV (.ref t))) (hT : Tr X.K B t T)
    (ht : eval (.Call (.Attribute o "names" apos) [] [] pos) X.env = (do
      let ov ← eval o X.env
      standAt apos.atName
      let (f, first) ← holding [ov] (getMethod ov "names" pl)
      callWith pos f first (backTo pos (starEach [] X.env)) (backToKw pos (keywordEach [] X.env))) := by rfl) :
    Ev X (.Call (.Attribute o "names" apos) [] [] pos) σ B (newO B (.lst (sV (namesOf T)))) := by
  obtain ⟨dx, dd, h1⟩ := tree_ins hT.at_
  exact ev_meth0 (mt_names c) hr hk ho h1 rfl (fun H d2 Q q => ⟨t, T, rfl, hT.up d2, q.imp fun v H2 _ ⟨p, z, fr, h⟩ => ⟨p, z, d2.free fr, h⟩⟩) ht
/-! ### comprehensions over names -/
def onS (p : PySem.Str → Bool) : V → Bool
  | .str n => p n
  | _ => false
theorem keepF_names (p : PySem.Str → Bool) : ∀ xs : List PySem.Str, keepF (onS p) (fun v => v) (sV xs) = sV (xs.filter p)
  | [] => rfl
  | a :: r => by
    have ih := keepF_names p r
    unfold keepF at ih ⊢
    show List.map (fun v => v) (List.filter (onS p) (V.str a :: sV r)) = _
    rw [List.filter_cons, List.filter_cons]
    by_cases h : p a = true
    · rw [if_pos h, if_pos (show onS p (.str a) = true from h), List.map_cons, ih]
      rfl
    · rw [if_neg h, if_neg (show ¬ onS p (.str a) = true from h), ih]
theorem name_in {T : List Nd} {v : V} (h : v ∈ sV (namesOf T)) : ∃ d ∈ T, v = .str d.name := by
  obtain ⟨n, hn, e⟩ := List.mem_map.mp h
  obtain ⟨d, hd, e2⟩ := List.mem_map.mp hn
  exact ⟨d, hd, by rw [← e, ← e2]⟩
theorem names_len {T : List Nd} (h : T.length ≤ 60) : (sV (namesOf T)).length ≤ 100000 := by
  rw [len_of_sV, List.length_map]
  omega
/-- items of a layer; outer composites; members: of the tree at t -/
def spTL (K : PySem.W.Frag) (pre : List Nd → PySem.Str → Prop) (f : List Nd → PySem.Str → List PySem.Str) : Sp := fun vs H Q _ => ∃ t T n, vs = [.ref t, .str n] ∧ Tr K H t T ∧ pre T n ∧ Ret (newO H (.lst (sV (f T n)))) H Q
theorem spTL_len {pre : List Nd → PySem.Str → Prop} {f : List Nd → PySem.Str → List PySem.Str} : ∀ vs H Q E, spTL K pre f vs H Q E → vs.length = 2 := fun vs H Q E ⟨t, T, n, e, _⟩ => by
  rw [e]
  rfl
theorem ev_ctl {X : Cx} {σ : L2.St} {B : Hp} {x : PySem.Str} {ps : List PySem.Str} {t : Addr} {T : List Nd} {n : PySem.Str} {pre : List Nd → PySem.Str → Prop} {f : List Nd → PySem.Str → List PySem.Str} {e e2 : Expr} {p pos : Pos} {j k : Nat} (F : Cal X.prog X.w X.K X.mg X.base x k ps (spTL X.K pre f)) (hr : Room j X.A) (hk : k ≤ j) (hT : Tr X.K B t T) (hp : pre T n) (ho : Ev X e σ B (isV (.ref t))) (he : Ev X e2 σ B (isV (.str n)))
    (hg : Gl X x := by rfl) (hdb : (x == ("__debug__" : PySem.Str)) = false := by decide) (hs : starEach [e, e2] X.env = (false, eval e X.env) :: starEach [e2] X.env := by rfl) (hs2 : starEach [e2] X.env = (false, eval e2 X.env) :: starEach [] X.env := by rfl)
    (hpl : (backTo pos (starEach [e2] X.env)).any (·.1) = false := by rfl) : Ev X (.Call (.Name x p) [e, e2] [] pos) σ B (newO B (.lst (sV (f T n)))) :=
  ev_call F hr hk (args2 ho he hs hs2) (fun vs H d2 p2 Q q => by
    rw [p2.vals]
    exact ⟨t, T, n, rfl, hT.up d2, hp, q.imp fun v H2 _ ⟨p, z, fr, h⟩ => ⟨p, z, d2.free fr, h⟩⟩) hg hdb hs hpl
abbrev anyN : List Nd → PySem.Str → Prop := fun _ _ => True
theorem fc_focusable_items (c : Says K mg base) : Cal P w K mg base "focusable_items" 11 ["tree", "layer"] (spTL K anyN itemsOf) := by
  refine cal_of (fn_focusable_items c) (glo_focusable_items c) sc_focusable_items bi_focusable_items spTL_len ?_
  rintro cdv A outer s H vs Q E hr ⟨t, T, L, rfl, hT, _, q⟩
  have S := sc_focusable_items
  have e : itemsOf T L = (namesOf T).filter fun n => focB T n && decide (layOf T n = L) := rfl
  rw [e, ← keepF_names] at q
  refine sx_ret (ev_lcIf (j := 2) (ev_names c hr (by decide) (ev_var 0 rfl) hT).nL (names_len hT.len) rfl (fun v => rfl) (fun s H C cl fp v hv B1 x1 => ?_) (fun s H C cl fp v hv _ B1 x1 => ev_var 2 rfl) rfl) q
  obtain ⟨d, hd, rfl⟩ := name_in hv
  have hT1 := hT.up x1
  refine (ew_and (et_val (ev_crdT (fc_is_focusable c) hr (by decide) hT1.tabs hT1.at_ hd hT.wf (ev_var 0 rfl) (ev_var 2 rfl))) fun _ => ew_and1 (et_eqS (ev_crd (fc_layer_of c) hr (by decide) hT1.at_ hd hT.wf (ev_var 0 rfl) (ev_var 2 rfl)) (ev_var 1 rfl) rfl)).t.to ?_
  show (focB T d.name && decide (V.str (layOf T d.name) = .str L)) = (focB T d.name && decide (layOf T d.name = L))
  congr 1
  exact decide_eq_decide.mpr ⟨fun h => V.str.inj h, fun h => congrArg V.str h⟩
theorem oV_str (o : Option PySem.Str) (n : PySem.Str) : decide (oV o = V.str n) = decide (o = some n) := decide_eq_decide.mpr (by
  cases o with
  | none => exact ⟨fun h => (by cases h), fun h => (by cases h)⟩
  | some x => exact ⟨fun h => by rw [V.str.inj h], fun h => by rw [Option.some.inj h]⟩)
theorem oV_non (o : Option PySem.Str) : decide (oV o = V.non) = decide (o = none) := decide_eq_decide.mpr (by
  cases o with
  | none => exact ⟨fun _ => rfl, fun _ => rfl⟩
  | some x => exact ⟨fun h => (by cases h), fun h => (by cases h)⟩)
def spOuts (K : PySem.W.Frag) : Sp := fun vs H Q _ => ∃ t T, vs = [.ref t] ∧ Tr K H t T ∧ Ret (newO H (.lst (sV (outsOf T)))) H Q
theorem fc_outer_composites (c : Says K mg base) : Cal P w K mg base "outer_composites" 11 ["tree"] (spOuts K) := by
  refine cal_of (fn_outer_composites c) (glo_outer_composites c) sc_outer_composites bi_outer_composites (fun vs H Q E ⟨t, T, e, _⟩ => by rw [e]; rfl) ?_
  rintro cdv A outer s H vs Q E hr ⟨t, T, rfl, hT, q⟩
  have S := sc_outer_composites
  have e : outsOf T = (namesOf T).filter fun n => isComp T n && decide (compOf T n = none) := rfl
  rw [e, ← keepF_names] at q
  refine sx_ret (ev_lcIf (j := 1) (ev_names c hr (by decide) (ev_var 0 rfl) hT).nL (names_len hT.len) rfl (fun v => rfl) (fun s H C cl fp v hv B1 x1 => ?_) (fun s H C cl fp v hv _ B1 x1 => ev_var 1 rfl) rfl) q
  obtain ⟨d, hd, rfl⟩ := name_in hv
  have hT1 := hT.up x1
  exact et_val (ev_crd (fc_is_outer c) hr (by decide) hT1.at_ hd hT.wf (ev_var 0 rfl) (ev_var 1 rfl))
abbrev nodeN : List Nd → PySem.Str → Prop := fun T n => ∃ d ∈ T, d.name = n
theorem items_in {T : List Nd} {L : PySem.Str} {v : V} (h : v ∈ sV (itemsOf T L)) : ∃ d ∈ T, v = .str d.name := by
  obtain ⟨n, hn, e⟩ := List.mem_map.mp h
  obtain ⟨d, hd, e2⟩ := List.mem_map.mp (List.mem_filter.mp hn).1
  exact ⟨d, hd, by rw [← e, ← e2]⟩
theorem items_len {T : List Nd} {L : PySem.Str} (h : T.length ≤ 60) : (itemsOf T L).length ≤ 60 := by
  have l : (itemsOf T L).length ≤ (T.map (·.name)).length := List.length_filter_le _ _
  rw [List.length_map] at l
  omega
theorem membs_len {T : List Nd} {L : PySem.Str} (h : T.length ≤ 60) : (membs T L).length ≤ 60 := Nat.le_trans (List.length_filter_le _ _) (items_len h)
theorem membs_in {T : List Nd} {L n : PySem.Str} (h : n ∈ membs T L) : ∃ d ∈ T, d.name = n := by
  obtain ⟨d, hd, e2⟩ := List.mem_map.mp (List.mem_filter.mp (List.mem_filter.mp h).1).1
  exact ⟨d, hd, e2⟩
theorem fc_members (c : Says K mg base) : Cal P w K mg base "members" 12 ["tree", "composite"] (spTL K nodeN membs) := by
  refine cal_of (fn_members c) (glo_members c) sc_members bi_members spTL_len ?_
  rintro cdv A outer s H vs Q E hr ⟨t, T, L, rfl, hT, ⟨d, hd, rfl⟩, q⟩
  have S := sc_members
  refine sx_asgN 2 (ev_ctl (fc_focusable_items c) hr (by decide) hT trivial (ev_var 0 rfl) (ev_crd (fc_layer_of c) hr (by decide) hT.at_ hd hT.wf (ev_var 0 rfl) (ev_var 1 rfl))) fun l fl => ?_
  have x0 : Z.Ex H (upd H l (.lst (sV (itemsOf T (layOf T d.name))))) := Z.Ex.new fl
  have e : membs T d.name = (itemsOf T (layOf T d.name)).filter fun n => decide (compOf T n = some d.name) := rfl
  rw [e, ← keepF_names] at q
  refine sx_ret (ev_lcIf (j := 3) ((ev_var 2 rfl).qL (SqL.of upd_same)) (by rw [len_of_sV]; exact Nat.le_trans (items_len hT.len) (by decide)) rfl (fun v => rfl) (fun s H C cl fp v hv B1 x1 => ?_) (fun s H C cl fp v hv _ B1 x1 => ev_var 3 rfl) rfl) fun v H2 d2 ⟨p, z, fr, h⟩ => q v H2 (x0.trans d2) ⟨p, z, x0.free fr, h⟩
  obtain ⟨d2, hd2, rfl⟩ := items_in hv
  have hT1 := hT.up (x0.trans x1)
  refine (et_eqS (ev_crd (fc_composite_of c) hr (by decide) hT1.at_ hd2 hT.wf (ev_var 0 rfl) (ev_var 3 rfl)) (ev_var 1 rfl) ?_).to (oV_str _ _)
  cases compOf T d2.name with
  | none => rfl
  | some x => rfl
/-! ### places -/
def ix : List PySem.Str → PySem.Str → Nat
  | [], _ => 0
  | a :: r, n => if a = n then 0 else ix r n + 1
theorem ix_at {n : PySem.Str} : ∀ {xs : List PySem.Str}, n ∈ xs → xs[ix xs n]? = some n
  | [], h => by cases h
  | a :: r, h => by
    by_cases e : a = n
    · rw [e]
      unfold ix
      rw [if_pos rfl]
      rfl
    · have h2 : n ∈ r := by
        rcases List.mem_cons.mp h with z | z
        · exact absurd z.symm e
        · exact z
      unfold ix
      rw [if_neg e]
      exact ix_at h2
theorem ix_no {n : PySem.Str} : ∀ {xs : List PySem.Str} {m : Nat} {z : PySem.Str}, m < ix xs n → xs[m]? = some z → z ≠ n
  | [], m, z, h, _ => absurd h (Nat.not_lt_zero _)
  | a :: r, m, z, h, hz => by
    unfold ix at h
    by_cases e : a = n
    · rw [if_pos e] at h
      exact absurd h (Nat.not_lt_zero _)
    · rw [if_neg e] at h
      cases m with
      | zero =>
        have : a = z := Option.some.inj hz
        rw [← this]
        exact e
      | succ m => exact ix_no (xs := r) (Nat.lt_of_succ_lt_succ h) hz
theorem eqV_str (a b : PySem.Str) : eqV (.str a) (.str b) = decide (b = a) := by
  rw [Bool.eq_iff_iff]
  show (a == b) = true ↔ _
  rw [beq_iff_eq, decide_eq_true_iff]
  exact eq_comm
theorem sV_flat (xs : List PySem.Str) : (sV xs).all flatV = true := List.all_eq_true.mpr fun v hv => by
  obtain ⟨x, _, e⟩ := List.mem_map.mp hv
  rw [← e]
  rfl
theorem inV_sV (n : PySem.Str) : ∀ xs : List PySem.Str, inV (.str n) (sV xs) = decide (n ∈ xs)
  | [] => rfl
  | a :: r => by
    have ih := inV_sV n r
    show (eqV (.str a) (.str n) || inV (.str n) (sV r)) = _
    rw [ih, eqV_str, Bool.eq_iff_iff, Bool.or_eq_true, decide_eq_true_iff, decide_eq_true_iff, decide_eq_true_iff, List.mem_cons]
theorem ev_indexS {X : Cx} {σ : L2.St} {B : Hp} {a e : Expr} {pos apos : Pos} {xs : List PySem.Str} {n : PySem.Str} (ha : Ev X a σ B (seqL X.K (sV xs))) (he : Ev X e σ B (isV (.str n))) (hn : n ∈ xs)
    (hbase : attributeBase a "index" X.env (eval a X.env) = eval a X.env := by rfl)
    (hfew : ((backTo pos (starEach [e] X.env)).all (fun x => !x.1) && (backToKw pos (keywordEach [] X.env)).all (fun x => x.1.isSome)
      && decide ([e].length + ([] : List Keyword).length + (if ([] : List Keyword).isEmpty then 0 else 1) < 30)) = true := by rfl)
    (hline : (apos.endLine == pos.line) = true := by rfl) (hs : starEach [e] X.env = (false, eval e X.env) :: starEach [] X.env := by rfl) (hplain : (backTo pos (starEach [] X.env)).any (·.1) = false := by rfl) :
    Ev X (.Call (.Attribute a "index" apos) [e] [] pos) σ B (isV (.int (ix xs n : Nat))) :=
  ev_index ha he rfl (sV_flat xs) (z := .str n) (by rw [List.getElem?_map, ix_at hn]; rfl) (by rw [eqV_str]; simp) (fun m z' hm hz => by
    obtain ⟨z, rfl, hz2⟩ := sV_at hz
    rw [eqV_str]
    exact decide_eq_false fun w => ix_no hm hz2 w.symm) hbase hfew hline hs hplain
def place (T : List Nd) (n : PySem.Str) : Int × Int := match compOf T n with
  | none => (0, 0)
  | some cc => if n ∈ membs T cc then ((ix (membs T cc) n : Int) + 1, ((membs T cc).length : Int)) else (0, 0)
abbrev placeV (T : List Nd) (n : PySem.Str) : List V := [.int (place T n).1, .int (place T n).2]
theorem comp_node {T : List Nd} (wf : WF T) {d : Nd} (hd : d ∈ T) {x : PySem.Str} (h : compOf T d.name = some x) : ∃ q ∈ T, q.name = x := by
  unfold compOf at h
  exact betw_mem wf hd x (List.mem_filter.mp (List.mem_of_getLast? h)).1
def spPlace (K : PySem.W.Frag) : Sp := fun vs H Q _ => ∃ t T d, vs = [.ref t, .str d.name] ∧ Tr K H t T ∧ d ∈ T ∧ Ret (newO H (.tup (placeV T d.name))) H Q
theorem fc_place_of (c : Says K mg base) : Cal P w K mg base "place_of" 13 ["tree", "item"] (spPlace K) := by
  refine cal_of (fn_place_of c) (glo_place_of c) sc_place_of bi_place_of (fun vs H Q E ⟨t, T, d, e, _⟩ => by rw [e]; rfl) ?_
  rintro cdv A outer s H vs Q E hr ⟨t, T, d, rfl, hT, hd, q⟩
  have S := sc_place_of
  have two : 2 ≤ sizeLine := by decide
  refine sx_asgV 2 (ev_crd (fc_composite_of c) hr (by decide) hT.at_ hd hT.wf (ev_var 0 rfl) (ev_var 1 rfl)) ?_
  cases hc : compOf T d.name with
  | none =>
    have e : placeV T d.name = [.int 0, .int 0] := by
      unfold placeV place
      rw [hc]
    rw [e] at q
    refine sx_yes ((et_isN (ev_var 2 rfl)).to rfl) (sx_ret (ev_tup (vs := [.int 0, .int 0]) (ea_cons ev_int (ea_cons ev_int ea_nil)) two) q)
  | some cc =>
    refine sx_no ((et_isN (ev_var 2 rfl)).to rfl) ?_
    obtain ⟨q2, hq2, e2⟩ := comp_node hT.wf hd hc
    refine sx_asgN 3 (ev_ctl (fc_members c) hr (by decide) hT ⟨q2, hq2, e2⟩ (ev_var 0 rfl) (ev_var 2 rfl)) fun l fl => ?_
    have x0 : Z.Ex H (upd H l (.lst (sV (membs T cc)))) := Z.Ex.new fl
    refine sx_ret (S := newO H (.tup (placeV T d.name))) (ev_if ((et_inQ (ev_var 1 rfl) ((ev_var 3 rfl).qL (SqL.of upd_same)) inL_of rfl (sV_flat _)).to (inV_sV _ _)) (fun hv => ?_) (fun hv => ?_)) fun v H2 d2 p2 => q v H2 (x0.trans d2) p2
    · have hm := of_decide_eq_true hv
      have e : placeV T d.name = [.int ((ix (membs T cc) d.name : Int) + 1), .int ((membs T cc).length : Int)] := by
        unfold placeV place
        rw [hc]
        simp only [if_pos hm]
      rw [e]
      refine (ev_tup (vs := [.int ((ix (membs T cc) d.name : Int) + 1), .int ((membs T cc).length : Int)]) (ea_cons (ev_add (ev_indexS ((ev_var 3 rfl).qL (SqL.of upd_same)) (ev_var 1 rfl) hm) ev_int) (ea_cons ((ev_lenL (free_len c) ((ev_var 3 rfl).qL (SqL.of upd_same))).to fun v H d z => z.trans (by rw [len_of_sV])) ea_nil)) two).to fun v H2 d2 ⟨p, z, fr, h⟩ => ⟨p, z, x0.free fr, h⟩
    · have hm := of_decide_eq_false hv
      have e : placeV T d.name = [.int 0, .int 0] := by
        unfold placeV place
        rw [hc]
        simp only [if_neg hm]
      rw [e]
      exact (ev_tup (vs := [.int 0, .int 0]) (ea_cons ev_int (ea_cons ev_int ea_nil)) two).to fun v H2 d2 ⟨p, z, fr, h⟩ => ⟨p, z, x0.free fr, h⟩
end
end K24
set_option Elab.async false
set_option linter.all false
set_option maxRecDepth 100000
set_option maxHeartbeats 4000000
/-! Texts: the lines of an outline, taken apart again. -/
namespace K24
open PySem PySem.Spec PyProof.Rows L2 Z
abbrev mk (l : List Nat) : PySem.Str := ⟨l.toArray⟩
theorem mk_tl (x : PySem.Str) : mk x.cps.toList = x := by
  cases x
  rfl
theorem mk_len (l : List Nat) : (mk l).length = l.length := by simp [mk, Str.length]
theorem mk_app (a b : List Nat) : mk a ++ mk b = mk (a ++ b) := by
  apply Str.ext'
  show a.toArray ++ b.toArray = (a ++ b).toArray
  simp
theorem sub_mid (A B R : List Nat) : Builtin.Str.strSub (mk (A ++ B ++ R)) A.length (A.length + B.length) = mk B := by
  apply Str.ext'
  apply Array.toList_inj.mp
  rw [StrLaws.strSub_toList]
  simp
open StrLaws Builtin.Str in
theorem occ_skip (s sub : PySem.Str) (hi limit : Nat) (rest : List Nat) : ∀ (m cur : Nat) (st : Array Nat × Nat), (∀ i, cur ≤ i → i < cur + m → ¬ (st.1.size < limit ∧ At s sub hi i)) →
    forIn (List.range' cur m ++ rest) st (occBody s sub hi limit) = forIn rest st (occBody s sub hi limit)
  | 0, cur, st, _ => rfl
  | m + 1, cur, st, h => by
    rw [List.range'_succ, List.cons_append, List.forIn_cons]
    unfold occBody
    rw [if_neg fun z => h cur (Nat.le_refl _) (by omega) ⟨z.1.1.1, z.1.2, z.2⟩]
    exact occ_skip s sub hi limit rest m (cur + 1) st fun i h1 h2 => h i (by omega) (by omega)
open StrLaws Builtin.Str in
theorem occ_hit (s sub : PySem.Str) (hi limit : Nat) (rest : List Nat) (i : Nat) (st : Array Nat × Nat) (h1 : st.1.size < limit) (h2 : st.2 ≤ i) (h3 : At s sub hi i) :
    forIn (i :: rest) st (occBody s sub hi limit) = forIn rest (st.1.push i, i + sub.length) (occBody s sub hi limit) := by
  rw [List.forIn_cons]
  show (occBody s sub hi limit i st >>= _) = _
  have e : occBody s sub hi limit i st = pure (ForInStep.yield (st.fst.push i, i + sub.length)) := by
    unfold occBody
    rw [if_pos ⟨⟨⟨h1, h2⟩, h3.1⟩, h3.2⟩]
  rw [e]
  rfl
theorem at_first {A B R : List Nat} {i : Nat} (h : i < A.length) : (A ++ [32] ++ B ++ [32] ++ R)[i]? = A[i]? := by
  have e : A ++ [32] ++ B ++ [32] ++ R = A ++ (32 :: (B ++ (32 :: R))) := by simp
  rw [e, List.getElem?_append_left h]
theorem at_second {A B R : List Nat} {i : Nat} (h1 : A.length + 1 ≤ i) (h2 : i < A.length + 1 + B.length) : (A ++ [32] ++ B ++ [32] ++ R)[i]? = B[i - (A.length + 1)]? := by
  have e : A ++ [32] ++ B ++ [32] ++ R = (A ++ [32]) ++ (B ++ (32 :: R)) := by simp
  have l : (A ++ [32]).length = A.length + 1 := by simp
  rw [e, List.getElem?_append_right (by omega), l, List.getElem?_append_left (by omega)]
theorem at_gap (A B R : List Nat) : (A ++ [32] ++ B ++ [32] ++ R)[A.length]? = some 32 := by
  have e : A ++ [32] ++ B ++ [32] ++ R = A ++ (32 :: (B ++ (32 :: R))) := by simp
  rw [e, List.getElem?_append_right (Nat.le_refl _), Nat.sub_self]
  rfl
theorem at_gap2 (A B R : List Nat) : (A ++ [32] ++ B ++ [32] ++ R)[A.length + 1 + B.length]? = some 32 := by
  have e : A ++ [32] ++ B ++ [32] ++ R = (A ++ [32] ++ B) ++ (32 :: R) := by simp
  have l : (A ++ [32] ++ B).length = A.length + 1 + B.length := by simp; omega
  rw [e, List.getElem?_append_right (by omega), l, Nat.sub_self]
  rfl
open StrLaws Builtin.Str in
theorem occ_two (A B R : List Nat) (hA : 32 ∉ A) (hB : 32 ∉ B) : occurrences (mk (A ++ [32] ++ B ++ [32] ++ R)) (mk [32]) 0 (mk (A ++ [32] ++ B ++ [32] ++ R)).length 2 = [A.length, A.length + 1 + B.length] := by
  rw [occ_eq]
  have at_ : ∀ i, At (mk (A ++ [32] ++ B ++ [32] ++ R)) (mk [32]) (mk (A ++ [32] ++ B ++ [32] ++ R)).length i ↔ (A ++ [32] ++ B ++ [32] ++ R)[i]? = some 32 := fun i => subAt_one _ 32 i
  have ln : (mk (A ++ [32] ++ B ++ [32] ++ R)).length = A.length + 1 + B.length + 1 + R.length := by
    rw [mk_len]
    simp
    omega
  generalize hs : mk (A ++ [32] ++ B ++ [32] ++ R) = s at at_ ln ⊢
  have e2 : ∀ c m : Nat, List.range' c (m + 1) = c :: List.range' (c + 1) m := fun c m => List.range'_succ
  have er : List.range' 0 (s.length + 1 - 0) = List.range' 0 A.length ++ (A.length :: (List.range' (A.length + 1) B.length ++ ((A.length + 1 + B.length) :: (List.range' (A.length + 1 + B.length + 1) (R.length + 1) ++ [])))) := by
    rw [ln, List.append_nil, ← e2 (A.length + 1 + B.length), List.range'_append_1, ← e2 A.length]
    have z := List.range'_append_1 (s := 0) (m := A.length) (n := B.length + (R.length + 1 + 1) + 1)
    rw [Nat.zero_add] at z
    rw [z]
    congr 1
    omega
  rw [er]
  rw [occ_skip]
  · rw [occ_hit _ _ _ _ _ _ _ (by simp) (Nat.zero_le _) ((at_ _).mpr (at_gap A B R))]
    rw [occ_skip]
    · rw [occ_hit _ _ _ _ _ _ _ (by simp) (by show A.length + 1 ≤ _; omega) ((at_ _).mpr (at_gap2 A B R))]
      rw [occ_skip]
      · rfl
      · intro i _ _ h
        exact absurd h.1 (by simp)
    · intro i h1 h2 h
      have z := (at_ i).mp h.2
      rw [at_second h1 h2] at z
      exact hB (List.mem_of_getElem? z)
  · intro i h1 h2 h
    have z := (at_ i).mp h.2
    rw [at_first (by omega)] at z
    exact hA (List.mem_of_getElem? z)
theorem kind_le (l : List Nat) : ¬ Builtin.Str.strKind (mk l) < Builtin.Str.strKind (mk [32]) := TL.kind_ok (by decide +kernel)
/-- split(' ', 2): three words, the last with what spaces it has -/
theorem split3 (A B R : List Nat) (hA : 32 ∉ A) (hB : 32 ∉ B) : Txt.splitMax (mk (A ++ [32] ++ B ++ [32] ++ R)) (mk [32]) 2 = [mk A, mk B, mk R] := by
  unfold Txt.splitMax
  have l1 : ¬ (decide ((mk (A ++ [32] ++ B ++ [32] ++ R)).length < (mk [32]).length) || decide (Builtin.Str.strKind (mk (A ++ [32] ++ B ++ [32] ++ R)) < Builtin.Str.strKind (mk [32]))) = true := by
    rw [Bool.or_eq_true, decide_eq_true_iff, decide_eq_true_iff]
    rintro (h | h)
    · rw [mk_len, mk_len] at h
      simp at h
    · exact kind_le _ h
  rw [if_neg l1, show limitOf (mk (A ++ [32] ++ B ++ [32] ++ R)) 2 = 2 from rfl, occ_two A B R hA hB, if_neg (by simp), StrLaws.partsBetween_eq]
  have p1 : Builtin.Str.strSub (mk (A ++ [32] ++ B ++ [32] ++ R)) 0 A.length = mk A := by
    have z := sub_mid [] A ([32] ++ B ++ [32] ++ R)
    simpa using z
  have p2 : Builtin.Str.strSub (mk (A ++ [32] ++ B ++ [32] ++ R)) (A.length + 1) (A.length + 1 + B.length) = mk B := by
    have z := sub_mid (A ++ [32]) B ([32] ++ R)
    simpa using z
  have p3 : Builtin.Str.strSub (mk (A ++ [32] ++ B ++ [32] ++ R)) (A.length + 1 + B.length + 1) (mk (A ++ [32] ++ B ++ [32] ++ R)).length = mk R := by
    have z := sub_mid (A ++ [32] ++ B ++ [32]) R []
    have l : (A ++ [32] ++ B ++ [32]).length = A.length + 1 + B.length + 1 := by simp; omega
    rw [List.append_nil, l] at z
    rw [mk_len, List.length_append, l]
    exact z
  show [_, _, _] = _
  rw [p1, show (mk [32]).length = 1 from rfl, p2, p3]
theorem lstrip_sp (n : Nat) (c : Nat) (R : List Nat) (hc : c ≠ 32) : Txt.lstripChars (mk (List.replicate n 32 ++ c :: R)) (mk [32]) = mk (c :: R) := by
  unfold Txt.lstripChars
  rw [stripBy_eq]
  have e : stripLo (mk [32]).cps.contains true (mk (List.replicate n 32 ++ c :: R)) = n := by
    show ((List.replicate n 32 ++ c :: R).takeWhile (mk [32]).cps.contains).length = n
    induction n with
    | zero =>
      show ((c :: R).takeWhile _).length = 0
      rw [List.takeWhile_cons]
      have : (mk [32]).cps.contains c = false := by
        simp
        exact hc
      rw [this]
      rfl
    | succ n ih =>
      rw [List.replicate_succ, List.cons_append, List.takeWhile_cons]
      have : (mk [32]).cps.contains 32 = true := by simp
      rw [this]
      simp only [if_true, List.length_cons]
      rw [ih]
  rw [e]
  show Builtin.Str.strSub _ n (mk (List.replicate n 32 ++ c :: R)).length = _
  have z := sub_mid (List.replicate n 32) (c :: R) []
  rw [List.append_nil, List.length_replicate] at z
  rw [mk_len, List.length_append, List.length_replicate]
  exact z
theorem pre10 (c : Nat) (r : List Nat) : TL.pre [10] (c :: r) = decide (c = 10) := by
  show ([c] == [10]) = _
  rw [Bool.eq_iff_iff, beq_iff_eq, decide_eq_true_iff]
  exact ⟨fun h => (List.cons.inj h).1, fun h => by rw [h]⟩
theorem spl_word (w : List Nat) (hw : 10 ∉ w) (rest : List Nat) : ∀ acc, TL.spl [10] 0 acc (w ++ rest) = TL.spl [10] 0 (acc ++ w) rest := by
  induction w with
  | nil =>
    intro acc
    rw [List.append_nil]
    rfl
  | cons c w ih =>
    intro acc
    have hc : c ≠ 10 := fun e => hw (e ▸ List.mem_cons_self)
    rw [List.cons_append, TL.spl_miss (by rw [pre10]; exact decide_eq_false hc), ih (fun h => hw (List.mem_cons_of_mem _ h))]
    simp
theorem spl_join : ∀ (ws : List (List Nat)), ws ≠ [] → (∀ w ∈ ws, 10 ∉ w) → TL.spl [10] 0 [] (TL.joinL [10] ws) = ws
  | [], h, _ => absurd rfl h
  | [w], _, h => by
    show TL.spl [10] 0 [] w = [w]
    have z := spl_word w (h w List.mem_cons_self) [] []
    rw [List.append_nil] at z
    rw [z, TL.spl_nil]
    rfl
  | w :: v :: r, _, h => by
    show TL.spl [10] 0 [] (w ++ ([10] ++ TL.joinL [10] (v :: r))) = _
    rw [spl_word w (h w List.mem_cons_self)]
    rw [show [10] ++ TL.joinL [10] (v :: r) = 10 :: TL.joinL [10] (v :: r) from rfl, TL.spl_hit (by rw [pre10]; rfl)]
    show _ :: TL.spl [10] 0 [] (TL.joinL [10] (v :: r)) = _
    rw [spl_join (v :: r) (by simp) fun x hx => h x (List.mem_cons_of_mem _ hx)]
    rfl
theorem split_lines (ws : List (List Nat)) (h0 : ws ≠ []) (h : ∀ w ∈ ws, 10 ∉ w) : Txt.split (Txt.join (mk [10]) (ws.map mk)) (mk [10]) = ws.map mk := by
  have e : Txt.join (mk [10]) (ws.map mk) = mk (TL.joinL [10] ws) := SX.join_S [10] ws
  rw [e]
  have z := SX.split_S (a := TL.joinL [10] ws) (b := [10]) (by simp) (by decide)
  rw [spl_join ws h0 h] at z
  exact z
end K24
set_option Elab.async false
set_option linter.all false
set_option maxRecDepth 100000
set_option maxHeartbeats 4000000
/-! The reading of one line: is_name, is_label, unquoted, cut_off, info_of. -/
namespace Z
open PySem PySem.Spec PyProof.Rows L2
section
variable {X : Cx} {σ : L2.St} {B : Hp} {S Sa : VS} {a e : Expr} {pos p : Pos}
theorem ev_ty {x : Str} {T : String} (hm : X.mg x = none) (hv : bootBuiltins x = some (.type T)) (hg : Gl X x := by rfl) (hn : x ≠ "__name__" := by decide) (hd : (x == ("__debug__" : Str)) = false := by decide) : Ev X (.Name x pos) σ B (isV (.ty T)) :=
  fun H d Q q pins s I => ld_blt I hg hm hv ⟨.ty T, H, I, rfl, q _ H (Ex.refl H) rfl⟩ hn hd
/-- isinstance(x, str), x a text -/
theorem ev_isStr {x : Str} {e2 : Expr} (hm : X.mg "isinstance" = none) (ha : Ev X a σ B (isV (.str x))) (hb : Ev X e2 σ B (isV (.ty "str"))) (hg : Gl X "isinstance" := by rfl) (hs : starEach [a, e2] X.env = (false, eval a X.env) :: starEach [e2] X.env := by rfl) (hs2 : starEach [e2] X.env = (false, eval e2 X.env) :: starEach [] X.env := by rfl)
    (hpl : (backTo pos (starEach [e2] X.env)).any (·.1) = false := by rfl) : Ev X (.Call (.Name "isinstance" p) [a, e2] [] pos) σ B (isV (.bl true)) :=
  ev_bfn call_isi hm PyProof.Rows.boot_isinstance (ea_cons ha (ea_cons hb ea_nil hs2) hs) (fun vs H d p2 Q q => by
    obtain ⟨v, r, rfl, rfl, w, r2, rfl, rfl, rfl⟩ := p2
    exact ⟨_, _, _, _, true, rfl, .ty "str", .base (.str x), rfl, ev_ret q⟩) hg (by decide) (by decide) hs hpl
theorem ev_negc {i : Int} {j : Nat} : Ev X (.UnaryOp .USub (.Constant (.int i) j p) pos) σ B (isV (.int (-i))) := ev_of (pe_un un_neg pe_int) fun H _ Q q => ⟨i, rfl, q _ H (Ex.refl H) rfl⟩
end
end Z
namespace K24
open PySem PySem.Spec PyProof.Rows L2 Z
section
variable {X : Cx} {σ : L2.St}
/-- sign in NAME_SIGNS -/
theorem elt_sign (c : Says X.K X.mg X.base) {pins : List (Addr × Obj)} {H1 : Hp} {s1 : Shared} {T cd : Addr} {a : PySem.Str} {scope : Scope} {p1 p2 pos : Pos} (TB : GxR.TabB X.base X.mg cd T) (I : Inv X pins σ H1 s1)
    (k1 : scope.kind = .function) (k2 : scope.names.lookup ("NAME_SIGNS" : PySem.Str) = some .globalImplicit) (k4 : scope.names.lookup ("sign" : PySem.Str) = some .local) :
    EltOk X scope "sign" (.Compare (.Name "sign" p1) [.In] [.Name "NAME_SIGNS" p2] pos) T (SignAt a) (fun i => tst (fun x => decide (x ∈ ("abcdefghijklmnopqrstuvwxyz0123456789._-" : PySem.Str).cps.toList)) a.cps.toList[i]?) s1 := by
  intro A' E' j v s2 m2 C code bi hA hD hU hP hn hm st
  obtain ⟨x, u, hx, rfl⟩ := hP
  obtain ⟨t, ht⟩ := str_NAME_SIGNS c
  refine wpAny_Compare1 ?_ rfl
  refine wpAny_Name (wpAny_loadName_local k1 k4 hn hm ?_) (by decide)
  refine Calls.Name_function_global k1 k2 (Calls.loadGlobal_global (mg := X.mg) (by rw [show (genEnv scope (cloFrom X.env.cells scope.names []) C code bi X.env).globals = mainGlobals from I.ok.glob]; exact el_ns TB I st) ht ?_)
  refine PySem.P.in_str ⟨?_, keeps_refl s2⟩
  show Value.bool _ = Value.bool (tst _ a.cps.toList[j]?)
  rw [StrLaws.found_one, show a.cps.toList[j]? = some x by rw [Array.getElem?_toList]; exact hx]
  rfl
/-- ' ' <= sign <= '~' -/
theorem elt_print {s1 : Shared} {T : Addr} {a : PySem.Str} {scope : Scope} {j1 j2 : Nat} {p1 p2 p3 pos : Pos} (k1 : scope.kind = .function) (k4 : scope.names.lookup ("sign" : PySem.Str) = some .local) :
    EltOk X scope "sign" (.Compare (.Constant (.str " ") j1 p1) [.LtE, .LtE] [.Name "sign" p2, .Constant (.str "~") j2 p3] pos) T (SignAt a) (fun i => tst (fun x => !(decide (([x] : List Nat) < [32])) && !(decide (([126] : List Nat) < [x]))) a.cps.toList[i]?) s1 := by
  intro A' E' j v s2 m2 C code bi hA hD hU hP hn hm st
  obtain ⟨x, u, hx, rfl⟩ := hP
  have e : a.cps.toList[j]? = some x := by rw [Array.getElem?_toList]; exact hx
  simp only [e]
  refine Compare_chain (Calls.Constant_str (chain_link ?_)) (by with_unfolding_all rfl)
  have hn1 : ({ s2 with toks := s2.toks + 1 } : Shared).heap.Ns C m2 := hn
  refine wpAny_Name (wpAny_loadName_local k1 k4 hn1 hm ?_) (by decide)
  have b1 : (" " : PySem.Str).cps.toList = [32] := by decide +kernel
  have b2 : ("~" : PySem.Str).cps.toList = [126] := by decide +kernel
  have b0 : ∀ z : Nat, (⟨#[z]⟩ : PySem.Str).cps.toList = [z] := fun _ => rfl
  refine PySem.P.le_str (wpAny_truthy_bool ?_)
  rw [b1, b0]
  by_cases h : ([x] : List Nat) < [32]
  · rw [if_neg (by simp [h])]
    refine ⟨?_, keeps_tok (keeps_refl s2) _⟩
    show Value.bool _ = Value.bool (tst _ (some x))
    unfold tst
    simp [h]
  · rw [if_pos (by simp [h])]
    refine chain_last (Calls.Constant_str (PySem.P.le_str ⟨?_, keeps_tok (keeps_refl s2) _⟩))
    rw [b2, b0]
    show Value.bool _ = Value.bool (tst _ (some x))
    unfold tst
    simp [h]
end
section
variable {P : Program} {w : World} {K : PySem.W.Frag} {mg : PySem.Str → Option Value} {base : Heap}
/-- a test of a text that holds -/
def spYes (K : PySem.W.Frag) (pre : PySem.Str → Prop) : Sp := fun vs H Q _ => ∃ x, vs = [.str x] ∧ TabsOn K H ∧ pre x ∧ Ret (isV (.bl true)) H Q
theorem spYes_len {pre : PySem.Str → Prop} : ∀ vs H Q E, spYes K pre vs H Q E → vs.length = 1 := fun vs H Q E ⟨x, e, _⟩ => by
  rw [e]
  rfl
theorem tst_all (f : Nat → Bool) (a : PySem.Str) (h : ∀ x ∈ a.cps.toList, f x = true) : ((List.range a.cps.size).all fun i => tst f a.cps.toList[i]?) = true := by
  have e : a.cps.size = a.cps.toList.length := by simp
  rw [e, all_at, List.all_eq_true]
  exact h
abbrev nameP (x : PySem.Str) : Prop := 1 ≤ x.length ∧ x.length ≤ 8 ∧ ∀ z ∈ x.cps.toList, z ∈ ("abcdefghijklmnopqrstuvwxyz0123456789._-" : PySem.Str).cps.toList
theorem fc_is_name (c : Says K mg base) : Cal P w K mg base "is_name" 2 ["thing"] (spYes K nameP) := by
  refine cal_ofG (fn_is_name c) (glo_is_name c) sc_is_name bi_is_name spYes_len ?_
  rintro A outer s H vs Q E hr ⟨x, rfl, hS, ⟨l1, l2, hx⟩, q⟩
  have hm : (("is_name" : PySem.Str), (none : Option PySem.Str)) ∈ tf := by decide
  have b8 : 8 ≤ sizeLine := by decide
  have z : Ret (isV (.bl (true && ((decide ((1 : Int) ≤ (x.length : Int)) && decide ((x.length : Int) ≤ 8)) && true)))) H Q := by
    rw [decide_eq_true (by omega : (1 : Int) ≤ (x.length : Int)), decide_eq_true (by omega : (x.length : Int) ≤ 8)]
    exact q
  refine sx_ret (ev_and (ev_isStr (free_isinstance c) (ev_var 0 rfl) (ev_ty (free_str c) PyProof.Rows.boot_str)) fun _ => ev_and (ev_chain op_le op_le ev_int (ev_lenS (free_len c) (ev_var 0 rfl) (by omega)) (ev_gint (int_NAME_MOST c))
    (fun a b H2 d2 p1 p2 Q2 q2 => ⟨_, _, p1, p2, ev_ret q2⟩) (fun _ a b H2 d2 p1 p2 Q2 q2 => ⟨_, _, p1, p2, ev_ret q2⟩)) fun _ => ev_one (ev_all hr (c.tab _ hm) rfl ⟨rfl, rfl, by decide, rfl, rfl, fun y hy e => ?_⟩ (ev_var 0 rfl) (hS _ hm) (fun v H1 d1 p1 pins s1 u I ru => ?_) (free_all c))) z
  · rcases List.mem_cons.mp hy with z | hy
    · rw [z] at e; cases e
    rcases List.mem_cons.mp hy with z | hy
    · rw [z] at e; cases e
    rcases List.mem_cons.mp hy with z | hy
    · rw [z] at e; cases e
    · cases hy
  · have p1 : v = .str x := p1
    subst p1
    exact ⟨_, _, _, iter_str ru, elt_sign c (c.tab _ hm) I rfl rfl rfl, tst_all _ x fun z hz => decide_eq_true (hx z hz)⟩
abbrev labelP (x : PySem.Str) : Prop := x.length ≤ 40 ∧ ∀ z ∈ x.cps.toList, 32 ≤ z ∧ z ≤ 126
theorem lt_one (a b : Nat) : ([a] : List Nat) < [b] ↔ a < b := by
  constructor
  · intro h
    cases h with
    | rel h => exact h
    | cons h => cases h
  · exact fun h => .rel h
theorem fc_is_label (c : Says K mg base) : Cal P w K mg base "is_label" 2 ["thing"] (spYes K labelP) := by
  refine cal_ofG (fn_is_label c) (glo_is_label c) sc_is_label bi_is_label spYes_len ?_
  rintro A outer s H vs Q E hr ⟨x, rfl, hS, ⟨l2, hx⟩, q⟩
  have hm : (("is_label" : PySem.Str), (none : Option PySem.Str)) ∈ tf := by decide
  have b8 : 40 ≤ sizeLine := by decide
  have z : Ret (isV (.bl (true && (decide ((x.length : Int) ≤ 40) && true)))) H Q := by
    rw [decide_eq_true (by omega : (x.length : Int) ≤ 40)]
    exact q
  refine sx_ret (ev_and (ev_isStr (free_isinstance c) (ev_var 0 rfl) (ev_ty (free_str c) PyProof.Rows.boot_str)) fun _ => ev_and (ev_cmp op_le (ev_lenS (free_len c) (ev_var 0 rfl) (by omega)) (ev_gint (int_LABEL_MOST c))
    (fun a b H2 d2 p1 p2 Q2 q2 => ⟨_, _, p1, p2, ev_ret q2⟩)) fun _ => ev_one (ev_all hr (c.tab _ hm) rfl ⟨rfl, rfl, by decide, rfl, rfl, fun y hy e => ?_⟩ (ev_var 0 rfl) (hS _ hm) (fun v H1 d1 p1 pins s1 u I ru => ?_) (free_all c))) z
  · rcases List.mem_cons.mp hy with z | hy
    · rw [z] at e; cases e
    rcases List.mem_cons.mp hy with z | hy
    · rw [z] at e; cases e
    · cases hy
  · have p1 : v = .str x := p1
    subst p1
    refine ⟨_, _, _, iter_str ru, elt_print rfl rfl, tst_all _ x fun z hz => ?_⟩
    have := hx z hz
    rw [decide_eq_false (by rw [lt_one]; omega), decide_eq_false (by rw [lt_one]; omega)]
    rfl
end
end K24
set_option Elab.async false
set_option linter.all false
set_option maxRecDepth 100000
set_option maxHeartbeats 4000000
/-! unquoted, cut_off, info_of. -/
namespace Z
open PySem PySem.Spec PyProof.Rows L2
section
variable {X : Cx} {σ : L2.St} {B : Hp} {S Sa : VS} {a e : Expr} {pos p : Pos} {D : Ends} {rest : List Stmt}
/-- a, b, .. = e, e a tuple -/
theorem sx_tup {tg e : Expr} {n : Nat} {t : TGs} {xs : List V} (he : Ev X e σ B (seqT X.K xs)) (hg : PG X tg (gTup X.K n t)) (hn : xs.length = n) (k : ∀ H, Ex B H → t xs σ H fun σ2 H2 => sS X rest D σ2 H2)
    (hs : swapsWithSole [tg] e pos.line X.env = pure false := by rfl) (hw : swappedStores [tg] e X.env = pure none := by rfl)
    (h1 : (assignEach [tg] X.env).map (·.2) = [assign tg X.env] := by rfl) : SX X (.Assign [tg] e pos :: rest) D σ B :=
  sx_step (ps_asg (pe_s e) hg hs hw h1) fun H d => he H d _ fun u H2 d2 ⟨q, z, h⟩ => ⟨q, xs, z, h, hn, k H2 (d.trans d2)⟩
end
end Z
namespace K24
open PySem PySem.Spec PyProof.Rows L2 Z
section
variable {P : Program} {w : World} {K : PySem.W.Frag} {mg : PySem.Str → Option Value} {base : Heap}
theorem chr_eq (k c : Nat) : decide (V.str (⟨#[k]⟩ : PySem.Str) = .str ⟨#[c]⟩) = decide (k = c) := decide_eq_decide.mpr ⟨fun h => by
  have h1 := congrArg (fun x : PySem.Str => x.cps.toList) (V.str.inj h)
  exact (List.cons.inj (show [k] = [c] from h1)).1, fun h => by rw [h]⟩
abbrev plainL (l : List Nat) : Prop := l.length ≤ 40 ∧ ∀ z ∈ l, 32 ≤ z ∧ z ≤ 126 ∧ z ≠ 34 ∧ z ≠ 92
abbrev quoL (l : List Nat) : List Nat := 34 :: (l ++ [34])
theorem quo_at {l : List Nat} {i : Nat} (h : i < l.length) : atI (mk (quoL l)).cps.toList ((i : Int) + 1) = some l[i] := by
  have e : (quoL l)[i + 1]? = some l[i] := by
    show (l ++ [34])[i]? = _
    rw [List.getElem?_append_left h, List.getElem?_eq_getElem h]
  exact atI_nat (xs := quoL l) (j := i + 1) e
def spUnq (K : PySem.W.Frag) : Sp := fun vs H Q _ => ∃ l, vs = [.str (mk (quoL l))] ∧ TabsOn K H ∧ plainL l ∧ Ret (isV (.str (mk l))) H Q
theorem fc_unquoted (c : Says K mg base) : Cal P w K mg base "unquoted" 3 ["text"] (spUnq K) := by
  refine cal_of (fn_unquoted c) (glo_unquoted c) sc_unquoted bi_unquoted (fun vs H Q E ⟨l, e, _⟩ => by rw [e]; rfl) ?_
  rintro cdv A outer s H vs Q E hr ⟨l, rfl, hS, ⟨hl, hp⟩, q⟩
  have S := sc_unquoted
  have big : 100 ≤ sizeLine := by decide
  have ln : (mk (quoL l)).length = l.length + 2 := by
    rw [mk_len]
    simp
  have lz : (mk (quoL l)).length ≤ sizeLine := by omega
  have cq : ("\"" : PySem.Str) = ⟨#[34]⟩ := by decide +kernel
  have cb : ("\\" : PySem.Str) = ⟨#[92]⟩ := by decide +kernel
  have a0 : atI (mk (quoL l)).cps.toList 0 = some 34 := atI_nat (xs := quoL l) (j := 0) rfl
  have a1 : atI (mk (quoL l)).cps.toList (-1) = some 34 := atI_last (34 :: l) 34
  have l2 : ∀ {B : Hp} (v : V) (H : Hp), Z.Ex B H → (isV (.int ((mk (quoL l)).length : Int))).P H v → (isV (.int ((l.length : Int) + 2))).P H v := fun v H d z => z.trans (by rw [ln]; rfl)
  refine sx_no (((ew_or (et_lt ((ev_lenS (free_len c) (ev_var 0 rfl) lz).to l2) ev_int) fun _ => ew_or (et_neS (ev_ixS (ev_var 0 rfl) ev_int lz a0) ev_str rfl) fun _ => ew_or1 (et_neS (ev_ixS (ev_var 0 rfl) ev_negc lz a1) ev_str rfl)).t).to ?_) ?_
  · rw [cq, chr_eq]
    simp
    omega
  refine sx_asgV 1 ev_str (sx_asgV 2 ev_int ?_)
  refine sx_while (fun m σ B => ∃ i, i ≤ l.length ∧ m = l.length - i ∧ Z.Ex H B ∧ σ = [some (.str (mk (quoL l))), some (.str (mk (l.take i))), some (.int ((i : Int) + 1))]) l.length ⟨0, Nat.zero_le _, rfl, Z.Ex.refl H, rfl⟩ ?_
  rintro m σ B ⟨i, hi, rfl, x1, rfl⟩
  refine ⟨_, et_lt (ev_var 2 rfl) (ev_sub ((ev_lenS (free_len c) (ev_var 0 rfl) lz).to l2) ev_int), fun hv => ?_, fun hv => ?_⟩
  · have lt : i < l.length := by
      have := of_decide_eq_true hv
      omega
    have at_ := quo_at lt
    obtain ⟨p1, p2, p3, p4⟩ := hp l[i] (List.getElem_mem lt)
    refine sx_noE ((et_eqS (ev_ixS (ev_var 0 rfl) (ev_var 2 rfl) lz at_) ev_str rfl).to (by rw [cb, chr_eq]; exact decide_eq_false p4)) (sx_no ((et_eqS (ev_ixS (ev_var 0 rfl) (ev_var 2 rfl) lz at_) ev_str rfl).to (by rw [cq, chr_eq]; exact decide_eq_false p3)) (sx_skip ?_))
    have e : mk (l.take i) ++ (⟨#[l[i]]⟩ : PySem.Str) = mk (l.take (i + 1)) := by
      rw [show (⟨#[l[i]]⟩ : PySem.Str) = mk [l[i]] from rfl, mk_app, take_snoc (List.getElem?_eq_getElem lt)]
    refine sx_asgV 1 ((ev_addS (ev_var 1 rfl) (ev_ixS (ev_var 0 rfl) (ev_var 2 rfl) lz at_) (by rw [mk_len, List.length_take]; show _ + 1 ≤ _; omega)).to fun v H d z => z.trans (by rw [e])) (sx_asgV 2 (ev_add (ev_var 2 rfl) ev_int) (sx_nil fun H2 d2 => ⟨l.length - (i + 1), by omega, B, d2, i + 1, lt, rfl, x1, ?_⟩))
    rfl
  · have ge : i = l.length := by
      have := of_decide_eq_false hv
      omega
    subst ge
    rw [List.take_length]
    have hpl : labelP (mk l) := ⟨by rw [mk_len]; exact hl, fun z hz => ⟨(hp z hz).1, (hp z hz).2.1⟩⟩
    refine sx_ret (ev_if (et_val (ev_call (S := isV (.bl true)) (fc_is_label c) hr (by decide) (args1 (ev_var 1 rfl)) fun vs H2 d2 p2 Q2 q2 => ?_)) (fun _ => ev_var 1 rfl) fun z => by cases z) fun v H2 d2 p2 => q v H2 (x1.trans d2) p2
    rw [p2.vals]
    exact ⟨_, rfl, hS.up (x1.trans d2), hpl, q2⟩
end
end K24
set_option Elab.async false
set_option linter.all false
set_option maxRecDepth 100000
set_option maxHeartbeats 4000000
/-! A line of an outline, and what it tells. -/
namespace K24
open PySem PySem.Spec PyProof.Rows L2 Z
def kindsL : List PySem.Str := ["item", "container", "linear", "circular", "layer"]
def namesL : List PySem.Str := ["root", "a", "b", "c", "d", "e", "f", "g", "h", "i", "j", "k", "l", "m", "n", "o", "p", "q", "r", "s", "t"]
def labelsL : List PySem.Str := ["Ab", "ba", "A", "pear", "Pea", "", "b b", "ab-1", "Top"]
abbrev tlS (x : PySem.Str) : List Nat := x.cps.toList
def flagL (v e : Bool) : List Nat := (if v then [] else [32, 104, 105, 100, 100, 101, 110]) ++ (if e then [] else [32, 100, 105, 115, 97, 98, 108, 101, 100])
def tailL (l : PySem.Str) (v e : Bool) : List Nat := quoL (tlS l) ++ flagL v e
def lineL (d : Nd) : List Nat := List.replicate (2 * d.dep) 32 ++ (tlS d.kind ++ [32] ++ tlS d.name ++ [32] ++ tailL d.label d.vis d.en)
def cutOff (x e : PySem.Str) : PySem.Str × Bool := if Txt.endswith x e = true then (cutS x none (some ((x.length : Int) - (e.length : Int))), true) else (x, false)
structure OkRow (d : Nd) : Prop where
  kind : d.kind ∈ kindsL
  name : d.name ∈ namesL
  label : d.label ∈ labelsL
  dep : d.dep ≤ 8
theorem kind_facts : ∀ k ∈ kindsL, 32 ∉ tlS k ∧ 10 ∉ tlS k ∧ (tlS k).head? ≠ none ∧ (tlS k).head? ≠ some 32 ∧ (tlS k).length ≤ 9 := by decide +kernel
theorem name_facts : ∀ n ∈ namesL, 32 ∉ tlS n ∧ 10 ∉ tlS n ∧ (tlS n).length ≤ 4 ∧ nameP n := by decide +kernel
theorem label_facts : ∀ l ∈ labelsL, plainL (tlS l) ∧ (tlS l).length ≤ 4 ∧ 10 ∉ tlS l := by decide +kernel
theorem cut1_facts : ∀ l ∈ labelsL, ∀ v e : Bool, cutOff (mk (tailL l v e)) " disabled" = (mk (tailL l v true), !e) := by decide +kernel
theorem cut2_facts : ∀ l ∈ labelsL, ∀ v : Bool, cutOff (mk (tailL l v true)) " hidden" = (mk (quoL (tlS l)), !v) := by decide +kernel
section
variable {P : Program} {w : World} {K : PySem.W.Frag} {mg : PySem.Str → Option Value} {base : Heap}
def spCut (K : PySem.W.Frag) : Sp := fun vs H Q _ => ∃ x e, vs = [.str x, .str e] ∧ x.length ≤ 1000 ∧ e.length ≤ 1000 ∧ Ret (newO H (.tup [.str (cutOff x e).1, .bl (cutOff x e).2])) H Q
theorem fc_cut_off (c : Says K mg base) : Cal P w K mg base "cut_off" 1 ["text", "end"] (spCut K) := by
  refine cal_of (fn_cut_off c) (glo_cut_off c) sc_cut_off bi_cut_off (fun vs H Q E ⟨x, e, z, _⟩ => by rw [z]; rfl) ?_
  rintro cdv A outer s H vs Q E hr ⟨x, e, rfl, lx, le, q⟩
  have big : 2000 ≤ sizeLine := by decide
  refine sx_if (et_val (ev_bm (S := isV (.bl (Txt.endswith x e))) PySem.F.plainAttrs_str PySem.F.slot_str_endswith PySem.F.type_str_endswith mt_endswith (ev_var 0 rfl) (args1 (ev_var 1 rfl)) (fun u H2 d2 p2 => by
    have p2 : u = .str x := p2
    rw [p2]
    rfl) (fun u vs H2 d2 p2 p3 Q2 q2 => by
    have p2 : u = .str x := p2
    rw [p2, p3.vals]
    exact ⟨x, e, rfl, rfl, ev_ret q2⟩))) (fun hv => ?_) (fun hv => sx_skip ?_)
  · have z : cutOff x e = (cutS x none (some ((x.length : Int) - (e.length : Int))), true) := by
      unfold cutOff
      rw [if_pos hv]
    rw [z] at q
    exact sx_ret (ev_tup (vs := [.str (cutS x none (some ((x.length : Int) - (e.length : Int)))), .bl true]) (ea_cons (ev_cutS (ev_var 0 rfl) eo_none (eo_some (ev_sub (ev_lenS (free_len c) (ev_var 0 rfl) (by omega)) (ev_lenS (free_len c) (ev_var 1 rfl) (by omega)))) (by omega)) (ea_cons ev_bool ea_nil)) (by show 2 ≤ sizeLine; omega)) q
  · have z : cutOff x e = (x, false) := by
      unfold cutOff
      rw [if_neg (by rw [hv]; exact Bool.false_ne_true)]
    rw [z] at q
    exact sx_ret (ev_tup (vs := [.str x, .bl false]) (ea_cons (ev_var 0 rfl) (ea_cons ev_bool ea_nil)) (by show 2 ≤ sizeLine; omega)) q
abbrev infoV (d : Nd) : List V := [.str d.name, .str d.kind, .str d.label, .bl d.vis, .bl d.en, .int (d.dep : Int)]
def spInfo (K : PySem.W.Frag) : Sp := fun vs H Q _ => ∃ d, vs = [.str (mk (lineL d))] ∧ TabsOn K H ∧ OkRow d ∧ Ret (newO H (.tup (infoV d))) H Q
theorem tail_len (d : Nd) (ok : OkRow d) : (tailL d.label d.vis d.en).length ≤ 30 := by
  obtain ⟨_, l, _⟩ := label_facts d.label ok.label
  unfold tailL flagL
  have e1 : (if d.vis = true then ([] : List Nat) else [32, 104, 105, 100, 100, 101, 110]).length ≤ 7 := by cases d.vis <;> decide
  have e2 : (if d.en = true then ([] : List Nat) else [32, 100, 105, 115, 97, 98, 108, 101, 100]).length ≤ 9 := by cases d.en <;> decide
  simp only [List.length_append, List.length_cons, List.length_nil]
  omega
theorem fc_info_of (c : Says K mg base) : Cal P w K mg base "info_of" 4 ["line"] (spInfo K) := by
  refine cal_of (fn_info_of c) (glo_info_of c) sc_info_of bi_info_of (fun vs H Q E ⟨d, e, _⟩ => by rw [e]; rfl) ?_
  rintro cdv A outer s H vs Q E hr ⟨d, rfl, hS, ok, q⟩
  have S := sc_info_of
  have big : 2000 ≤ sizeLine := by decide
  obtain ⟨k1, k2, k3, k4, k5⟩ := kind_facts d.kind ok.kind
  obtain ⟨n1, n2, n3, n4⟩ := name_facts d.name ok.name
  obtain ⟨b1, b2, b3⟩ := label_facts d.label ok.label
  have tl := tail_len d ok
  have dd := ok.dep
  have sp : (" " : PySem.Str) = mk [32] := by decide +kernel
  have le : (mk (lineL d)).length ≤ 100 := by
    rw [mk_len]
    unfold lineL
    simp only [List.length_append, List.length_replicate, List.length_cons, List.length_nil]
    omega
  obtain ⟨c0, r0, e0⟩ : ∃ c0 r0, tlS d.kind = c0 :: r0 := by
    cases h : tlS d.kind with
    | nil =>
      rw [h] at k3
      exact absurd rfl k3
    | cons a r => exact ⟨a, r, rfl⟩
  have hc0 : c0 ≠ 32 := fun z => k4 (by rw [e0, z]; rfl)
  have est : Txt.lstripChars (mk (lineL d)) (mk [32]) = mk (tlS d.kind ++ [32] ++ tlS d.name ++ [32] ++ tailL d.label d.vis d.en) := by
    unfold lineL
    rw [e0]
    exact lstrip_sp (2 * d.dep) c0 _ hc0
  refine sx_asgV 1 (v := .str (mk (tlS d.kind ++ [32] ++ tlS d.name ++ [32] ++ tailL d.label d.vis d.en))) (ev_bm PySem.F.plainAttrs_str PySem.F.slot_str_lstrip PySem.F.type_str_lstrip mt_lstripChars (ev_var 0 rfl) (args1 ev_str) (fun u H2 d2 p2 => by
    have p2 : u = .str (mk (lineL d)) := p2
    rw [p2]
    rfl) (fun u vs H2 d2 p2 p3 Q2 q2 => by
    have p2 : u = .str (mk (lineL d)) := p2
    rw [p2, p3.vals, sp]
    refine ⟨_, _, rfl, rfl, by omega, ?_⟩
    rw [est]
    exact ev_ret q2)) ?_
  have lt : (mk (tlS d.kind ++ [32] ++ tlS d.name ++ [32] ++ tailL d.label d.vis d.en)).length + 2 * d.dep = (mk (lineL d)).length := by
    rw [mk_len, mk_len]
    unfold lineL
    rw [List.length_append (as := List.replicate _ _), List.length_replicate]
    omega
  refine sx_asgV 2 (v := .int (2 * (d.dep : Int))) ((ev_sub (ev_lenS (free_len c) (ev_var 0 rfl) (by omega)) (ev_lenS (free_len c) (ev_var 1 rfl) (by omega))).to fun v H2 d2 z => z.trans (congrArg V.int (by omega))) ?_
  refine sx_asgN 3 (o := .lst [.str d.kind, .str d.name, .str (mk (tailL d.label d.vis d.en))]) (n := rfl) (ev_bm PySem.F.plainAttrs_str PySem.F.slot_str_split PySem.F.type_str_split mt_splitMax (ev_var 1 rfl) (args2 ev_str ev_int) (fun u H2 d2 p2 => by
    have p2 : u = .str _ := p2
    rw [p2]
    rfl) (fun u vs H2 d2 p2 p3 Q2 q2 => by
    have p2 : u = .str _ := p2
    rw [p2, p3.vals, sp]
    refine ⟨_, _, _, rfl, rfl, rfl, by decide, by decide, by omega, ?_⟩
    rw [split3 _ _ _ k1 n1]
    intro p hp
    have z := q2.put d2 p hp
    rw [mk_tl, mk_tl]
    exact z)) fun wl fw => ?_
  have x0 : Z.Ex H (upd H wl (.lst [.str d.kind, .str d.name, .str (mk (tailL d.label d.vis d.en))])) := Z.Ex.new fw
  have hw : (upd H wl (.lst [.str d.kind, .str d.name, .str (mk (tailL d.label d.vis d.en))])) wl = some (.lst [.str d.kind, .str d.name, .str (mk (tailL d.label d.vis d.en))]) := upd_same
  generalize upd H wl (.lst [.str d.kind, .str d.name, .str (mk (tailL d.label d.vis d.en))]) = B at x0 hw
  have w0 : ∀ {X : Cx} {σ : L2.St} {e : Expr} {j : Nat} {p pos : Pos}, Ev X e σ B (isV (.ref wl)) → Ev X (.Subscript e (.Constant (.int 0) j p) pos) σ B (isV (.str d.kind)) := fun h => ev_ixL (h.qL (SqL.of hw)) ev_int (atI_nat (j := 0) rfl)
  have w1 : ∀ {X : Cx} {σ : L2.St} {e : Expr} {j : Nat} {p pos : Pos}, Ev X e σ B (isV (.ref wl)) → Ev X (.Subscript e (.Constant (.int 1) j p) pos) σ B (isV (.str d.name)) := fun h => ev_ixL (h.qL (SqL.of hw)) ev_int (atI_nat (j := 1) rfl)
  have w2 : ∀ {X : Cx} {σ : L2.St} {e : Expr} {j : Nat} {p pos : Pos}, Ev X e σ B (isV (.ref wl)) → Ev X (.Subscript e (.Constant (.int 2) j p) pos) σ B (isV (.str (mk (tailL d.label d.vis d.en)))) := fun h => ev_ixL (h.qL (SqL.of hw)) ev_int (atI_nat (j := 2) rfl)
  have kin : inV (.str d.kind) (sV kindsL) = true := by
    rw [inV_sV]
    exact decide_eq_true ok.kind
  refine sx_no (((ew_or (et_lt (ev_lenL (free_len c) ((ev_var 3 rfl).qL (SqL.of hw))) ev_int) fun _ => ew_or (et_notInQ (w0 (ev_var 3 rfl)) ((ev_gref (glo_KINDS c)).qT (tup_KINDS c B)) inT_of rfl rfl) fun _ => ew_or (et_not (et_val (ev_call (S := isV (.bl true)) (fc_is_name c) hr (by decide) (args1 (w1 (ev_var 3 rfl))) fun vs H2 d2 p2 Q2 q2 => by
      rw [p2.vals]
      exact ⟨_, rfl, hS.up (x0.trans d2), n4, q2⟩))) fun _ => ew_or1 (et_neS (ev_mod (ev_var 2 rfl) ev_int (by decide)) ev_int rfl)).t).to ?_) ?_
  · have e1 : inV (.str d.kind) (tv_KINDS.map (He.Dv.v K)) = true := kin
    rw [show (inV (.str d.kind) (tv_KINDS.map (He.Dv.v _)) : Bool) = true from e1, dec_int, show (2 * (d.dep : Int)) % 2 = 0 by omega]
    rfl
  have hq1 := cut1_facts d.label ok.label d.vis d.en
  have hq2 := cut2_facts d.label ok.label d.vis
  have tv : ∀ (v e : Bool), (tailL d.label v e).length ≤ 30 := fun v e => tail_len { d with vis := v, en := e } ⟨ok.kind, ok.name, ok.label, ok.dep⟩
  have tq : (mk (quoL (tlS d.label))).length ≤ 30 := by
    have z := tv true true
    have e : tailL d.label true true = quoL (tlS d.label) := by
      unfold tailL flagL
      simp
    rw [e] at z
    rw [mk_len]
    exact z
  refine sx_tup (n := 2) (xs := [.str (mk (tailL d.label d.vis true)), .bl (!d.en)]) ((ev_call (S := newO B (.tup [.str (mk (tailL d.label d.vis true)), .bl (!d.en)])) (fc_cut_off c) hr (by decide) (args2 (w2 (ev_var 3 rfl)) (ev_gstr (str_DISABLED c))) (fun vs H2 d2 p2 Q2 q2 => by
    rw [p2.vals]
    refine ⟨_, _, rfl, by rw [mk_len]; omega, by decide, ?_⟩
    rw [hq1]
    exact q2.imp fun v H3 _ ⟨p, z, fr, h⟩ => ⟨p, z, d2.free fr, h⟩)).nT) (pg_tup rfl (pgs_cons (pg_name S.nd (i := 4) rfl (Or.inl rfl)) (pgs_cons (pg_name S.nd (i := 5) rfl (Or.inl rfl)) pgs_nil))) rfl
    fun H2 d2 => ⟨_, _, rfl, _, _, rfl, rfl, ?_⟩
  revert H2
  show SX _ _ _ _ B
  refine sx_tup (n := 2) (xs := [.str (mk (quoL (tlS d.label))), .bl (!d.vis)]) ((ev_call (S := newO B (.tup [.str (mk (quoL (tlS d.label))), .bl (!d.vis)])) (fc_cut_off c) hr (by decide) (args2 (ev_var 4 rfl) (ev_gstr (str_HIDDEN c))) (fun vs H2 d2 p2 Q2 q2 => by
    rw [p2.vals]
    refine ⟨_, _, rfl, by rw [mk_len]; have := tv d.vis true; omega, by decide, ?_⟩
    rw [hq2]
    exact q2.imp fun v H3 _ ⟨p, z, fr, h⟩ => ⟨p, z, d2.free fr, h⟩)).nT) (pg_tup rfl (pgs_cons (pg_name S.nd (i := 4) rfl (Or.inl rfl)) (pgs_cons (pg_name S.nd (i := 6) rfl (Or.inl rfl)) pgs_nil))) rfl
    fun H2 d2 => ⟨_, _, rfl, _, _, rfl, rfl, ?_⟩
  revert H2
  show SX _ _ _ _ B
  refine sx_asgV 7 (v := .str d.label) (ev_call (fc_unquoted c) hr (by decide) (args1 (ev_var 4 rfl)) (fun vs H2 d2 p2 Q2 q2 => by
    rw [p2.vals]
    refine ⟨tlS d.label, rfl, hS.up (x0.trans d2), b1, ?_⟩
    rw [mk_tl]
    exact q2)) ?_
  refine sx_ret (S := newO B (.tup (infoV d))) (ev_if ((et_isN (ev_var 7 rfl)).to rfl) (fun z => by cases z) fun _ => ?_) fun v H2 d2 ⟨p, z, fr, h⟩ => q v H2 (x0.trans d2) ⟨p, z, x0.free fr, h⟩
  have nn : ∀ b : Bool, V.bl (!(!b)) = .bl b := fun b => by cases b <;> rfl
  refine (ev_tup (vs := [.str d.name, .str d.kind, .str d.label, .bl (!(!d.vis)), .bl (!(!d.en)), .int (2 * (d.dep : Int) / 2)]) (ea_cons (w1 (ev_var 3 rfl)) (ea_cons (w0 (ev_var 3 rfl)) (ea_cons (ev_var 7 rfl) (ea_cons (ev_not (ev_var 6 rfl)) (ea_cons (ev_not (ev_var 5 rfl)) (ea_cons (ev_fdiv (ev_var 2 rfl) ev_int ⟨by decide, by decide⟩) ea_nil)))))) (by show 6 ≤ sizeLine; omega)).to fun v H2 d2 h => ?_
  rw [nn, nn, show 2 * (d.dep : Int) / 2 = (d.dep : Int) by omega] at h
  exact h
end
end K24
set_option Elab.async false
set_option linter.all false
set_option maxRecDepth 100000
set_option maxHeartbeats 4000000
/-! Building a tree. -/
namespace Z
open PySem PySem.Spec PyProof.Rows L2
section
variable {X : Cx} {σ : L2.St} {B : Hp} {S Sa : VS} {a e c : Expr} {pos p p2 p3 : Pos} {D : Ends} {rest body : List Stmt}
/-- for j1, j2 in enumerate(e), e a list made for it -/
theorem sx_enum (j1 j2 : Nat) {x1 x2 : Str} {kk : Nat} {tpos ep q1 q2 : Pos} {xs : List V} (hm : X.mg "enumerate" = none) (hl : Ev X e σ B (newO B (.lst xs)))
    (k : ∀ p, B p = none → ∃ W : Nat → L2.St → Hp → Prop, W 0 σ (upd B p (.lst xs)) ∧ (∀ i σ B, W i σ B → B p = some (.lst xs)) ∧
      (∀ i v σ B, xs[i]? = some v → W i σ B → SX X body (Turned X D rest (Up (W (i + 1)))) ((σ.set j1 (some (.int (i : Nat)))).set j2 (some v)) B) ∧ (∀ σ B, W xs.length σ B → SX X rest D σ B))
    (hN : X.N.Nodup := by exact FnScope.nd (by assumption)) (hi1 : X.N[j1]? = some x1 := by rfl) (hi2 : X.N[j2]? = some x2 := by rfl) (hx1 : Loc X.env.scope x1 := by first | exact Or.inl rfl | exact Or.inr rfl) (hx2 : Loc X.env.scope x2 := by first | exact Or.inl rfl | exact Or.inr rfl)
    (hf1 : X.fn x1 = true ∨ X.env.scope.names.lookup x1 = some .local := by first | exact .inl rfl | exact .inr rfl) (hf2 : X.fn x2 = true ∨ X.env.scope.names.lookup x2 = some .local := by first | exact .inl rfl | exact .inr rfl)
    (hp : PassesOwn (model X.prog X.w) X.A X.env X.xe := by exact PassesOwn.never) (hc : X.calm = true := by rfl) (hg : Gl X "enumerate" := by rfl) (hst : starEach [e] X.env = [(false, eval e X.env)] := by rfl)
    (hn : (assignEach [.Name x1 q1, .Name x2 q2] X.env).length = 2 := by rfl) (hsi : (assignEach [.Name x1 q1, .Name x2 q2] X.env).findIdx? (·.1) = none := by rfl)
    (ha1 : (assignEach [.Name x1 q1, .Name x2 q2] X.env).map (·.2) = assign (.Name x1 q1) X.env :: (assignEach [.Name x2 q2] X.env).map (·.2) := by rfl) (ha2 : (assignEach [.Name x2 q2] X.env).map (·.2) = assign (.Name x2 q2) X.env :: (assignEach [] X.env).map (·.2) := by rfl)
    (hs : ∀ x, foldedSetIterable (.Call (.Name "enumerate" ep) [e] [] p3) X.env x = pure x := by intro _; rfl) : SX X (.For (.Tuple [.Name x1 q1, .Name x2 q2] kk tpos) (.Call (.Name "enumerate" ep) [e] [] p3) body [] pos :: rest) D σ B :=
  sx_step (ps_for hp hc (pi_enum hg hm (pa_cons (pe_s e) pa_nil hst) hst) (pg_tup (n := 2) hc (pgs_cons (pg_name hN hi1 hx1 hf1) (pgs_cons (pg_name hN hi2 hx2 hf2) pgs_nil ha2) ha1) hn hsi) (ps_s body) hs) fun H d => hl H d _ fun u H2 d2 ⟨p, z, fr, hq⟩ => by
    obtain ⟨W, w0, wl, ws, wd⟩ := k p fr
    rw [z]
    refine ⟨p, xs, rfl, SqL.of hq, fun i m σ H => m = xs.length - i ∧ i ≤ xs.length ∧ Up (W i) σ H, ⟨xs.length, by omega, Nat.zero_le _, _, (d.trans d2).put hq, w0⟩, ?_⟩
    rintro i m σ H ⟨rfl, hle, B1, x1, w1⟩
    have hq1 : H p = some (.lst xs) := x1.get (wl i σ B1 w1)
    by_cases hlt : i < xs.length
    · refine Or.inr ⟨⟨xs, xs[i], SqL.of hq1, List.getElem?_eq_getElem hlt⟩, Up (W (i + 1)), fun σ' H' n => ⟨xs.length - (i + 1), by omega, rfl, hlt, n⟩, ?_⟩
      rintro v H' ⟨T, x, rfl, fT, rfl, hx⟩
      have e1 := hx xs (SqL.of hq1)
      exact ⟨T, [.int (i : Nat), x], rfl, SqT.of upd_same, rfl, _, _, rfl, _, _, rfl, rfl, ws i x σ B1 e1 w1 _ (x1.trans (Ex.new fT))⟩
    · have e1 : i = xs.length := by omega
      subst e1
      exact Or.inl ⟨⟨xs, SqL.of hq1, Nat.le_refl _⟩, wd σ B1 w1 H x1⟩
/-- not e, whatever e does, as a test -/
theorem sT_not {H : Hp} {Q : Bool → Hp → Prop} (h : sE X e σ H fun v H2 => ∃ b, v = .bl b ∧ Q (!b) H2) (he : ∀ whole, isTrue e X.env whole = (do let v ← whole; standAt e.pos; holding [v] (truthy v)) := by intro _; rfl) : sT X (.UnaryOp .Not e pos) σ H Q := fun pins s I =>
  (pt_not (pt_val (pe_s e) he)).run pins s σ H Q I h
/-- the test does something -/
theorem sx_ifE {s1 s2 : List Stmt} (k : ∀ H, Ex B H → sT X c σ H fun b H2 => if b = true then sS X s1 { D with nx := sS X rest D } σ H2 else sS X s2 { D with nx := sS X rest D } σ H2) : SX X (.If c s1 s2 pos :: rest) D σ B :=
  sx_step (ps_if (pt_s c) (ps_s s1) (ps_s s2)) k
/-- d[k] = e, e by a spec -/
theorem sx_dputS {o i : Expr} {p : Addr} {kvs : List (L2.Key × V)} {key : L2.Key} (he : Ev X e σ B S) (ho : Ev X o σ B (isV (.ref p))) (hi : Ev X i σ B (isV (kV key))) (hp : B p = some (.dK kvs)) (hl : kvs.length < sizeLine) (hu : X.A.units + 1 < cLine)
    (k : ∀ v B', Ex B B' → S.P B' v → SX X rest D σ (upd B' p (.dK (putK kvs key v)))) (hs : swapsWith e (some (.Subscript o i p2)) pos.line X.env = pure false := by rfl) : SX X (.Assign [.Subscript o i p2] e pos :: rest) D σ B :=
  sx_step (ps_dput hu (pe_s o) (pe_s i) (pe_s e) hs) fun H d => he H d _ fun u H2 d2 p2 => ho H2 (d.trans d2) _ fun w H3 d3 p3 => hi H3 ((d.trans d2).trans d3) _ fun y H4 d4 p4 => by
    have p4 : y = kV key := p4
    subst p4
    exact ⟨p, _, p3, DPut.k ((((d.trans d2).trans d3).trans d4).get hp) hl, k u H2 (d.trans d2) p2 _ (d3.trans d4).both⟩
/-- o.f = e, e by a spec -/
theorem sx_fldS {o : Expr} {f : Str} {p C dx : Addr} {fs : List (Str × V)} (he : Ev X e σ B S) (ho : Ev X o σ B (isV (.ref p))) (hp : B p = some (.ins C dx fs)) (cl : Cls X.K C) (n : NoAttr X.K C f) (hl : fs.length < 1000)
    (k : ∀ v B', Ex B B' → S.P B' v → SX X rest D σ (upd B' p (.ins C dx (putF f v fs)))) (hs : swapsWith e (some (.Attribute o f p2)) pos.line X.env = pure false := by rfl) : SX X (.Assign [.Attribute o f p2] e pos :: rest) D σ B :=
  sx_step (ps_fld (pe_s o) (pe_s e) hs) fun H d => he H d _ fun u H2 d2 p2 => ho H2 (d.trans d2) _ fun w H3 d3 p3 => ⟨p, C, dx, fs, p3, ((d.trans d2).trans d3).get hp, cl, n, hl, k u H2 (d.trans d2) p2 _ d3.both⟩
end
theorem upd_comm {H : Hp} {p q : Addr} {o o' : HO} (ne : p ≠ q) : upd (upd H p o) q o' = upd (upd H q o') p o := by
  funext a
  by_cases h : a = p
  · rw [h, upd_ne ne, upd_same, upd_same]
  · by_cases h2 : a = q
    · rw [h2, upd_same, upd_ne (Ne.symm ne), upd_same]
    · rw [upd_ne h2, upd_ne h, upd_ne h, upd_ne h2]
/-! what a call may change -/
/-- all that H tells stands, but what F names -/
def Exc (F : Addr → Prop) (H H' : Hp) : Prop := ∀ a o, H a = some o → ¬ F a → H' a = some o ∨ Grown o (H' a)
section
variable {F G : Addr → Prop} {H H1 H2 : Hp}
theorem Ex.exc (e : Ex H H1) : Exc F H H1 := fun a o h _ => e a o h
theorem Exc.wide (e : Exc F H H1) (s : ∀ a, F a → G a) : Exc G H H1 := fun a o h n => e a o h fun f => n (s a f)
theorem Exc.get {a : Addr} {o : HO} (e : Exc F H H1) (h : H a = some o) (f : ¬ F a) (n : notT o = true := by rfl) : H1 a = some o := by
  rcases e a o h f with h1 | ⟨ps, qs, eo, _⟩
  · exact h1
  · rw [eo] at n
    cases n
theorem Exc.trans (e : Exc F H H1) (d : Exc F H1 H2) : Exc F H H2 := fun a o h n => by
  rcases e a o h n with h1 | ⟨ps, qs, eo, t1, h1, t2⟩
  · exact d a o h1 n
  · rcases d a _ h1 n with h2 | ⟨ps', qs', eo', t1', h2, t2'⟩
    · exact Or.inr ⟨ps, qs, eo, t1, h2, t2⟩
    · exact Or.inr ⟨ps, qs', eo, t1, h2, t2'⟩
theorem Exc.put {p : Addr} {o : HO} (e : Exc F H H1) (f : F p) : Exc F H (upd H1 p o) := fun a u h n => by
  have ne : a ≠ p := fun z => n (by rw [z]; exact f)
  rw [upd_ne ne]
  exact e a u h n
/-- for who knows nothing of F -/
theorem Exc.low {H0 : Hp} (x : Ex H0 H) (e : Exc F H H1) (f : ∀ a, F a → H0 a = none) : Ex H0 H1 := fun a o h => by
  have nf : ¬ F a := fun z => by
    rw [f a z] at h
    cases h
  rcases x a o h with h1 | ⟨ps, qs, eo, t1, h1, t2⟩
  · exact e a o h1 nf
  · rcases e a _ h1 nf with h2 | ⟨ps', qs', eo', t1', h2, t2'⟩
    · exact Or.inr ⟨ps, qs, eo, t1, h2, t2⟩
    · exact Or.inr ⟨ps, qs', eo, t1, h2, t2'⟩
end
end Z

namespace K24
open PySem PySem.Spec PyProof.Rows L2 Z
abbrev Cell : Type := Nd × Addr × Addr
abbrev ndsOf (L : List Cell) : List Nd := L.map (·.1)
abbrev kvsOf (L : List Cell) : List (L2.Key × V) := L.map fun x => ((Sum.inr x.1.name : L2.Key), V.ref x.2.1)
/-- the tree object at t, its dict at dd, the nodes' objects -/
structure BuildAt (K : PySem.W.Frag) (H : Hp) (t dd : Addr) (L : List Cell) : Prop where
  tr : ∃ dx, H t = some (.ins (He.ga K "Tree") dx (treeFs dd))
  di : H dd = some (.dK (kvsOf L))
  nd : ∀ x ∈ L, ∃ nx, H x.2.1 = some (.ins (He.ga K "Node") nx (nodeFs x.1 x.2.2)) ∧ H x.2.2 = some (.lst (sV (kids (ndsOf L) x.1.name)))
  ap : ∀ x ∈ L, ∀ y ∈ L, x.2.2 = y.2.2 → x = y
def Fp (t dd : Addr) (L : List Cell) (p : Addr) : Prop := p = t ∨ p = dd ∨ ∃ x ∈ L, p = x.2.1 ∨ p = x.2.2
section
variable {K : PySem.W.Frag} {H H' : Hp} {t dd : Addr} {L : List Cell}
theorem BuildAt.up (e : Z.Ex H H') (h : BuildAt K H t dd L) : BuildAt K H' t dd L := by
  obtain ⟨⟨dx, h1⟩, h2, h3, h4⟩ := h
  refine ⟨⟨dx, e.get h1⟩, e.get h2, fun x hx => ?_, h4⟩
  obtain ⟨nx, h5, h6⟩ := h3 x hx
  exact ⟨nx, e.get h5, e.get h6⟩
theorem valV_kvs : ∀ {L : List Cell} {x : Cell}, ((ndsOf L).map (·.name)).Nodup → x ∈ L → valV (kvsOf L) (Sum.inr x.1.name : L2.Key) = some (.ref x.2.1)
  | [], x, _, h => by cases h
  | a :: r, x, nd, h => by
    have nd2 := List.nodup_cons.mp (show (a.1.name :: (ndsOf r).map (·.name)).Nodup from nd)
    rcases List.mem_cons.mp h with z | z
    · rw [z]
      exact valV_pos rfl
    · have ne : ¬ (Sum.inr a.1.name : L2.Key) = Sum.inr x.1.name := fun e => nd2.1 (by
        rw [Sum.inr.inj e]
        exact List.mem_map.mpr ⟨x.1, List.mem_map.mpr ⟨x, z, rfl⟩, rfl⟩)
      show valV (((Sum.inr a.1.name : L2.Key), V.ref a.2.1) :: kvsOf r) _ = _
      rw [valV_neg ne]
      exact valV_kvs nd2.2 z
theorem valV_kvs_none : ∀ {L : List Cell} {n : PySem.Str}, n ∉ (ndsOf L).map (·.name) → valV (kvsOf L) (Sum.inr n : L2.Key) = none
  | [], n, _ => rfl
  | a :: r, n, h => by
    have ne : ¬ (Sum.inr a.1.name : L2.Key) = Sum.inr n := fun e => h (by
      rw [← Sum.inr.inj e]
      exact List.mem_cons_self)
    show valV (((Sum.inr a.1.name : L2.Key), V.ref a.2.1) :: kvsOf r) _ = _
    rw [valV_neg ne]
    exact valV_kvs_none fun z => h (List.mem_cons_of_mem _ z)
theorem BuildAt.tree (h : BuildAt K H t dd L) (nd : ((ndsOf L).map (·.name)).Nodup) : TreeAt K H t (ndsOf L) := by
  obtain ⟨⟨dx, h1⟩, h2, h3, h4⟩ := h
  refine ⟨dx, dd, kvsOf L, h1, h2, ?_, fun n hn => ?_⟩
  · unfold kvsOf ndsOf
    rw [List.map_map, List.map_map]
    rfl
  · obtain ⟨x, hx, rfl⟩ := List.mem_map.mp hn
    obtain ⟨nx, h5, h6⟩ := h3 x hx
    exact ⟨x.2.1, valV_kvs nd hx, nx, x.2.2, h5, h6⟩
theorem BuildAt.apA (h : BuildAt K H t dd L) {x y : Cell} (hx : x ∈ L) (hy : y ∈ L) (e : x.2.1 = y.2.1) : x = y := by
  obtain ⟨nx, h5, _⟩ := h.nd x hx
  obtain ⟨ny, h6, _⟩ := h.nd y hy
  rw [e, h6] at h5
  injection h5 with h5
  injection h5 with _ _ h7
  have h8 := congrArg (fun fs => fs.lookup ("children" : PySem.Str)) h7
  have h8 : (nodeFs y.1 y.2.2).lookup ("children" : PySem.Str) = (nodeFs x.1 x.2.2).lookup ("children" : PySem.Str) := h8
  rw [nf_children, nf_children] at h8
  injection h8 with h8
  injection h8 with h8
  exact h.ap x hx y hy h8.symm
theorem BuildAt.ne1 (h : BuildAt K H t dd L) {x : Cell} (hx : x ∈ L) : t ≠ dd ∧ x.2.1 ≠ t ∧ x.2.1 ≠ dd ∧ x.2.2 ≠ t ∧ x.2.2 ≠ dd := by
  obtain ⟨dx, h1⟩ := h.tr
  obtain ⟨nx, h5, h6⟩ := h.nd x hx
  have h2 := h.di
  refine ⟨fun e => ?_, fun e => ?_, fun e => ?_, fun e => ?_, fun e => ?_⟩
  · rw [e, h2] at h1; cases h1
  · rw [e, h1] at h5
    injection h5 with h5
    injection h5 with _ _ h7
    cases h7
  · rw [e, h2] at h5; cases h5
  · rw [e, h1] at h6; cases h6
  · rw [e, h2] at h6; cases h6
theorem BuildAt.ne2 (h : BuildAt K H t dd L) {x y : Cell} (hx : x ∈ L) (hy : y ∈ L) : x.2.1 ≠ y.2.2 := fun e => by
  obtain ⟨nx, h5, _⟩ := h.nd x hx
  obtain ⟨_, _, h6⟩ := h.nd y hy
  rw [e, h6] at h5
  cases h5
/-- what the tree's objects are at, is known -/
theorem BuildAt.known (h : BuildAt K H t dd L) {p : Addr} (f : Fp t dd L p) : H p ≠ none := by
  rcases f with z | z | ⟨x, hx, z | z⟩
  · obtain ⟨dx, h1⟩ := h.tr
    rw [z, h1]
    simp
  · rw [z, h.di]
    simp
  · obtain ⟨nx, h5, _⟩ := h.nd x hx
    rw [z, h5]
    simp
  · obtain ⟨_, _, h6⟩ := h.nd x hx
    rw [z, h6]
    simp
/-- a node more, at the end -/
theorem BuildAt.grow (h : BuildAt K H t dd L) {d : Nd} {a ch nx : Addr} {x0 : Cell} {B' : Hp} (hx : x0 ∈ L) (hp : d.par = some x0.1.name) (nd : ((ndsOf L ++ [d]).map (·.name)).Nodup) (hk : kids (ndsOf L ++ [d]) d.name = []) (x : Z.Ex H B') (fa : H a = none) (fc : H ch = none)
    (b1 : B' a = some (.ins (He.ga K "Node") nx (nodeFs d ch))) (b2 : B' ch = some (.lst [])) :
    BuildAt K (upd (upd B' dd (.dK (kvsOf L ++ [((Sum.inr d.name : L2.Key), .ref a)]))) x0.2.2 (.lst (sV (kids (ndsOf L) x0.1.name) ++ [.str d.name]))) t dd (L ++ [(d, a, ch)]) ∧
    Exc (Fp t dd L) H (upd (upd B' dd (.dK (kvsOf L ++ [((Sum.inr d.name : L2.Key), .ref a)]))) x0.2.2 (.lst (sV (kids (ndsOf L) x0.1.name) ++ [.str d.name]))) := by
  obtain ⟨n1, n2, n3, n4, n5⟩ := h.ne1 hx
  have nds : ndsOf (L ++ [(d, a, ch)]) = ndsOf L ++ [d] := List.map_append
  have kn : ∀ {p}, H p = none → p ≠ dd ∧ p ≠ x0.2.2 := fun {p} e => ⟨fun z => h.known (Or.inr (Or.inl z)) e, fun z => h.known (Or.inr (Or.inr ⟨x0, hx, Or.inr z⟩)) e⟩
  obtain ⟨a1, a2⟩ := kn fa
  obtain ⟨c1, c2⟩ := kn fc
  refine ⟨⟨?_, ?_, ?_, ?_⟩, (x.exc.put (Or.inr (Or.inl rfl))).put (Or.inr (Or.inr ⟨x0, hx, Or.inr rfl⟩))⟩
  · obtain ⟨dx, h1⟩ := h.tr
    exact ⟨dx, by rw [upd_ne (Ne.symm n4), upd_ne n1]; exact x.get h1⟩
  · rw [upd_ne (Ne.symm n5), upd_same]
    unfold kvsOf
    rw [List.map_append]
    rfl
  · intro y hy
    rw [nds]
    rcases List.mem_append.mp hy with hy | hy
    · obtain ⟨m1, m2, m3, m4, m5⟩ := h.ne1 hy
      obtain ⟨ny, h5, h6⟩ := h.nd y hy
      refine ⟨ny, by rw [upd_ne (h.ne2 hy hx), upd_ne m3]; exact x.get h5, ?_⟩
      rw [kids_snoc, hp]
      by_cases e : y.2.2 = x0.2.2
      · have e2 := h.ap y hy x0 hx e
        rw [e, upd_same, e2, if_pos rfl, ← List.map_singleton, ← List.map_append]
      · rw [upd_ne e, upd_ne m5, if_neg, List.append_nil]
        · exact x.get h6
        · intro z
          have nd2 : ((ndsOf L).map (·.name)).Nodup := by
            rw [List.map_append] at nd
            exact (List.nodup_append.mp nd).1
          have z2 := mem_inj nd2 (List.mem_map.mpr ⟨x0, hx, rfl⟩) (List.mem_map.mpr ⟨y, hy, rfl⟩) (Option.some.inj z)
          have v1 := valV_kvs nd2 hx
          have v2 := valV_kvs nd2 hy
          rw [z2, v2] at v1
          injection v1 with v1
          injection v1 with v1
          exact e (by rw [h.apA hy hx v1])
    · rw [List.mem_singleton.mp hy]
      refine ⟨nx, by rw [upd_ne a2, upd_ne a1]; exact b1, ?_⟩
      rw [hk, upd_ne c2, upd_ne c1]
      exact b2
  · intro y hy z hz e
    have kc : ∀ {y : Cell}, y ∈ L → y.2.2 ≠ ch := fun {y} hy z => h.known (Or.inr (Or.inr ⟨y, hy, Or.inr rfl⟩)) (by rw [z]; exact fc)
    rcases List.mem_append.mp hy with hy | hy
    · rcases List.mem_append.mp hz with hz | hz
      · exact h.ap y hy z hz e
      · rw [List.mem_singleton.mp hz] at e
        exact absurd e (kc hy)
    · rcases List.mem_append.mp hz with hz | hz
      · rw [List.mem_singleton.mp hy] at e
        exact absurd e.symm (kc hz)
      · rw [List.mem_singleton.mp hy, List.mem_singleton.mp hz]
/-- a node's flags changed, the last one's -/
theorem BuildAt.flag {A : List Cell} {d d' : Nd} {a ch : Addr} (h : BuildAt K H t dd (A ++ [(d, a, ch)])) (nd : ((ndsOf (A ++ [(d, a, ch)])).map (·.name)).Nodup) (hn : d'.name = d.name) (hp : d'.par = d.par) {nx : Addr} (hc : H a = some (.ins (He.ga K "Node") nx (nodeFs d ch))) :
    BuildAt K (upd H a (.ins (He.ga K "Node") nx (nodeFs d' ch))) t dd (A ++ [(d', a, ch)]) ∧ Exc (Fp t dd (A ++ [(d, a, ch)])) H (upd H a (.ins (He.ga K "Node") nx (nodeFs d' ch))) := by
  have hx : (d, a, ch) ∈ A ++ [(d, a, ch)] := List.mem_append_right _ (List.mem_singleton.mpr rfl)
  obtain ⟨n1, n2, n3, n4, n5⟩ := h.ne1 hx
  have notA : ∀ y ∈ A, y ≠ (d, a, ch) := fun y hy z => by
    rw [z] at hy
    have e2 : (ndsOf (A ++ [(d, a, ch)])).map (·.name) = (ndsOf A).map (·.name) ++ [d.name] := by
      unfold ndsOf
      rw [List.map_append, List.map_append]
      rfl
    rw [e2] at nd
    exact (List.nodup_append.mp nd).2.2 d.name (List.mem_map.mpr ⟨d, List.mem_map.mpr ⟨_, hy, rfl⟩, rfl⟩) d.name (List.mem_singleton.mpr rfl) rfl
  have kd : ∀ n, kids (ndsOf (A ++ [(d', a, ch)])) n = kids (ndsOf (A ++ [(d, a, ch)])) n := fun n => by
    have e1 : ndsOf (A ++ [(d', a, ch)]) = ndsOf A ++ [d'] := List.map_append
    have e2 : ndsOf (A ++ [(d, a, ch)]) = ndsOf A ++ [d] := List.map_append
    rw [e1, e2, kids_snoc, kids_snoc, hn, hp]
  have kv : kvsOf (A ++ [(d', a, ch)]) = kvsOf (A ++ [(d, a, ch)]) := by
    unfold kvsOf
    rw [List.map_append, List.map_append]
    show _ ++ [((Sum.inr d'.name : L2.Key), V.ref a)] = _ ++ [((Sum.inr d.name : L2.Key), V.ref a)]
    rw [hn]
  refine ⟨⟨?_, ?_, ?_, ?_⟩, (Z.Ex.refl H).exc.put (Or.inr (Or.inr ⟨_, hx, Or.inl rfl⟩))⟩
  · obtain ⟨dx, h1⟩ := h.tr
    exact ⟨dx, by rw [upd_ne (Ne.symm n2)]; exact h1⟩
  · rw [upd_ne (Ne.symm n3), kv]
    exact h.di
  · intro y hy
    rw [kd]
    rcases List.mem_append.mp hy with hy2 | hy2
    · have hy3 : y ∈ A ++ [(d, a, ch)] := List.mem_append_left _ hy2
      obtain ⟨ny, h5, h6⟩ := h.nd y hy3
      by_cases e : y.2.1 = a
      · exact absurd (h.apA hy3 hx e) (notA y hy2)
      · refine ⟨ny, by rw [upd_ne e]; exact h5, ?_⟩
        rw [upd_ne (Ne.symm (h.ne2 hx hy3))]
        exact h6
    · rw [List.mem_singleton.mp hy2]
      refine ⟨nx, upd_same, ?_⟩
      obtain ⟨_, _, h6⟩ := h.nd _ hx
      rw [upd_ne (Ne.symm (h.ne2 hx hx)), hn]
      exact h6
  · intro y hy z hz e
    rcases List.mem_append.mp hy with hy2 | hy2
    · rcases List.mem_append.mp hz with hz2 | hz2
      · exact h.ap y (List.mem_append_left _ hy2) z (List.mem_append_left _ hz2) e
      · rw [List.mem_singleton.mp hz2] at e
        exact absurd (h.ap y (List.mem_append_left _ hy2) _ hx e) (notA y hy2)
    · rcases List.mem_append.mp hz with hz2 | hz2
      · rw [List.mem_singleton.mp hy2] at e
        exact absurd (h.ap z (List.mem_append_left _ hz2) _ hx e.symm) (notA z hz2)
      · rw [List.mem_singleton.mp hy2, List.mem_singleton.mp hz2]
end
end K24
set_option Elab.async false
set_option linter.all false
set_option maxRecDepth 100000
set_option maxHeartbeats 4000000
/-! Node, Tree, new_tree; insert, set_flag. -/
namespace Z
open PySem PySem.Spec PyProof.Rows L2
section
variable {X : Cx} {σ : L2.St} {B : Hp} {S Sa : VS} {a e kx : Expr} {es : List Expr} {Ss : List VS} {pos p : Pos}
/-- C(e, ..) by a spec -/
theorem ev_make {x : Str} {C : Addr} {j k : Nat} {ps : List Str} {sp : Sp} (F : Mak X.prog X.w X.K X.mg X.base x C k ps sp) (hr : Room j X.A) (hk : k + 1 ≤ j) (ha : EvA X (e :: es) σ B Ss)
    (h : ∀ vs H, Ex B H → AllS Ss H vs → ∀ b dx, H b = none → H dx = none → dx ≠ b → ∀ Q : VK, Ret S H Q → sp (.ref b :: vs) (upd (upd H dx (.own b)) b (.ins C dx [])) (fun v H3 => v = .non ∧ Q (.ref b) H3) E0)
    (hg : Gl X x := by rfl) (hdb : (x == ("__debug__" : Str)) = false := by decide) (he : starEach (e :: es) X.env = (false, eval e X.env) :: starEach es X.env := by rfl) (hpl : (backTo pos (starEach es X.env)).any (·.1) = false := by rfl) :
    Ev X (.Call (.Name x p) (e :: es) [] pos) σ B S := fun H d Q q => sE_make F hr hk ha d (fun vs H2 d2 p2 b dx n1 n2 n3 => h vs H2 (d.trans d2) p2 b dx n1 n2 n3 Q (q.step d2)) hg hdb he hpl
/-- {k: e} -/
def dispS (B : Hp) (S : VS) (key : L2.Key) : VS := ⟨fun H x => ∃ (p : Addr) (v : V) (B' : Hp), x = .ref p ∧ B p = none ∧ B' p = some (.dK []) ∧ Ex B B' ∧ S.P B' v ∧ Ex (upd B' p (.dK [(key, v)])) H, fun e ⟨p, v, B', h1, h2, h3, h4, h5, h6⟩ => ⟨p, v, B', h1, h2, h3, h4, h5, h6.trans e⟩⟩
theorem ev_disp1 {key : L2.Key} (hk : Ev X kx σ B (isV (kV key))) (he : Ev X e σ B S) : Ev X (.Dict [some kx] [e] pos) σ B (dispS B S key) :=
  ev_of (pe_disp (pps_cons (pe_s kx) (pe_s e) pps_nil) rfl rfl (by simp) (by simp)) fun H d Q q p hp => hk _ (d.trans (Ex.new hp)) _ fun x H1 d1 p1 => he H1 ((d.trans (Ex.new hp)).trans d1) _ fun y H2 d2 p2 => by
    have p1 : x = kV key := p1
    subst p1
    have x2 : Ex H H2 := (Ex.new hp).trans (d1.trans d2)
    exact ⟨(d1.trans d2).get upd_same, [(key, y)], rfl, by simp, q _ _ (x2.mut hp) ⟨p, y, H2, rfl, d.free hp, (d1.trans d2).get upd_same, d.trans x2, p2, Ex.refl _⟩⟩
/-- a call for nothing -/
theorem sx_call {D : Ends} {rest : List Stmt} {pos2 : Pos} (h : Ev X e σ B S) (k : SX X rest D σ B) (hs : swapsWith e none pos2.line X.env = pure false := by rfl) : SX X (.Expr e pos2 :: rest) D σ B :=
  sx_drop (fun H d => h H d _ fun v H2 d2 _ => k H2 (d.trans d2)) hs
theorem call_lenD : CallR X (.builtin "len") (fun xs H Q => ∃ (d : Addr) (kvs : List (L2.Key × V)), xs = [.ref d] ∧ H d = some (.dK kvs) ∧ Q (.int (kvs.length : Nat)) H) := by
  intro pins s σ H xs us Q I r h
  obtain ⟨d, kvs, rfl, hd, q⟩ := h
  obtain ⟨u, rfl, r1⟩ := vals1 r
  cases r1
  exact d_len I (.inl hd) fun t s' I' => ⟨.int _, H, I', ⟨t, rfl⟩, q⟩
/-- len(d) -/
theorem ev_lenD {d : Addr} {kvs : List (L2.Key × V)} (hm : X.mg "len" = none) (ha : Ev X a σ B (isV (.ref d))) (hd : B d = some (.dK kvs)) (hg : Gl X "len" := by rfl) (he : starEach [a] X.env = (false, eval a X.env) :: starEach [] X.env := by rfl) (hpl : (backTo pos (starEach [] X.env)).any (·.1) = false := by rfl) :
    Ev X (.Call (.Name "len" p) [a] [] pos) σ B (isV (.int (kvs.length : Int))) :=
  ev_bfn call_lenD hm boot_len (ea_cons ha ea_nil he) (fun vs H x p2 Q q => by
    obtain ⟨v, r, rfl, rfl, rfl⟩ := p2
    exact ⟨d, kvs, rfl, x.get hd, ev_ret q⟩) hg (by decide) (by decide) he hpl
end
end Z
namespace K24
open PySem PySem.Spec PyProof.Rows L2 Z
section
variable {P : Program} {w : World} {K : PySem.W.Frag} {mg : PySem.Str → Option Value} {base : Heap}
/-- a node as it is made -/
abbrev rawNd (kd lb : PySem.Str) (par : Option PySem.Str) : Nd := ⟨Str.empty, kd, lb, true, true, par, 0⟩
def spNodeI (K : PySem.W.Frag) : Sp := fun vs H Q _ => ∃ b dx kd lb par, vs = [.ref b, .str kd, .str lb, oV par] ∧ H b = some (.ins (He.ga K "Node") dx []) ∧
  ∀ ch H2, H ch = none → ch ≠ b → Z.Ex (upd (upd H ch (.lst [])) b (.ins (He.ga K "Node") dx (nodeFs (rawNd kd lb par) ch))) H2 → Q .non H2
theorem mk_Node (c : Says K mg base) : Mak P w K mg base "Node" (He.ga K "Node") 1 ["self", "kind", "label", "parent"] (spNodeI K) := by
  refine mak_of (fn_Node_init c) (glo_Node c) (mkr_Node c) sc_Node_init bi_Node_init (fun vs H Q E ⟨b, dx, kd, lb, par, e, _⟩ => by rw [e]; rfl) ?_
  rintro cdv A outer s H vs Q E hr ⟨b, dx, kd, lb, par, rfl, hb, q⟩
  refine sx_fld (ev_var 1 rfl) (ev_var 0 rfl) hb (cls_Node c) (no_Node_kind c) (show (0 : Nat) < 1000 by decide) ?_
  refine sx_fld (ev_var 2 rfl) (ev_var 0 rfl) upd_same (cls_Node c) (no_Node_label c) (show (1 : Nat) < 1000 by decide) ?_
  refine sx_fld ev_bool (ev_var 0 rfl) upd_same (cls_Node c) (no_Node_visible c) (show (2 : Nat) < 1000 by decide) ?_
  refine sx_fld ev_bool (ev_var 0 rfl) upd_same (cls_Node c) (no_Node_enabled c) (show (3 : Nat) < 1000 by decide) ?_
  refine sx_fld (ev_var 3 rfl) (ev_var 0 rfl) upd_same (cls_Node c) (no_Node_parent c) (show (4 : Nat) < 1000 by decide) ?_
  refine sx_fldN (ev_lst (vs := []) ea_nil (Nat.zero_le _)) (ev_var 0 rfl) upd_same (cls_Node c) (no_Node_children c) (show (5 : Nat) < 1000 by decide) fun ch fr => sx_nil fun H2 d2 => ?_
  rw [upd_upd, upd_upd, upd_upd, upd_upd] at fr d2
  have ne : ch ≠ b := fun z => by
    rw [z, upd_same] at fr
    cases fr
  rw [upd_ne ne] at fr
  rw [upd_comm (Ne.symm ne), upd_upd] at d2
  exact q ch H2 fr ne d2
def spTreeI (K : PySem.W.Frag) : Sp := fun vs H Q _ => ∃ b dx dd, vs = [.ref b, .ref dd] ∧ H b = some (.ins (He.ga K "Tree") dx []) ∧ ∀ H2, Z.Ex (upd H b (.ins (He.ga K "Tree") dx (treeFs dd))) H2 → Q .non H2
theorem mk_Tree (c : Says K mg base) : Mak P w K mg base "Tree" (He.ga K "Tree") 1 ["self", "nodes"] (spTreeI K) := by
  refine mak_of (fn_Tree_init c) (glo_Tree c) (mkr_Tree c) sc_Tree_init bi_Tree_init (fun vs H Q E ⟨b, dx, dd, e, _⟩ => by rw [e]; rfl) ?_
  rintro cdv A outer s H vs Q E hr ⟨b, dx, dd, rfl, hb, q⟩
  exact sx_fld (ev_var 1 rfl) (ev_var 0 rfl) hb (cls_Tree c) (no_Tree_nodes c) (show (0 : Nat) < 1000 by decide) (sx_nil fun H2 d2 => q H2 d2)
/-- a new node object -/
def nodeS (K : PySem.W.Frag) (B : Hp) (d : Nd) : VS := ⟨fun H x => ∃ a nx ch, x = .ref a ∧ B a = none ∧ B ch = none ∧ H a = some (.ins (He.ga K "Node") nx (nodeFs d ch)) ∧ H ch = some (.lst []), fun e ⟨a, nx, ch, h1, h2, h3, h4, h5⟩ => ⟨a, nx, ch, h1, h2, h3, e.get h4, e.get h5⟩⟩
theorem ev_Node {X : Cx} (c : Says X.K X.mg X.base) {σ : L2.St} {B : Hp} {e1 e2 e3 : Expr} {p pos : Pos} {j : Nat} {d : Nd} (hr : Room j X.A) (hk : 2 ≤ j) (hd : d.vis = true ∧ d.en = true) (h1 : Ev X e1 σ B (isV (.str d.kind))) (h2 : Ev X e2 σ B (isV (.str d.label))) (h3 : Ev X e3 σ B (isV (oV d.par)))
    (hg : Gl X "Node" := by rfl) (he : starEach [e1, e2, e3] X.env = (false, eval e1 X.env) :: starEach [e2, e3] X.env := by rfl) (he2 : starEach [e2, e3] X.env = (false, eval e2 X.env) :: starEach [e3] X.env := by rfl) (he3 : starEach [e3] X.env = (false, eval e3 X.env) :: starEach [] X.env := by rfl)
    (hpl : (backTo pos (starEach [e2, e3] X.env)).any (·.1) = false := by rfl) : Ev X (.Call (.Name "Node" p) [e1, e2, e3] [] pos) σ B (nodeS X.K B d) :=
  ev_make (mk_Node c) hr hk (Ss := [.str d.kind, .str d.label, oV d.par].map isV) (ea_cons h1 (ea_cons h2 (ea_cons h3 ea_nil he3) he2) he) (fun vs H x p2 b dx n1 n2 n3 Q q => by
    rw [p2.vals]
    refine ⟨b, dx, d.kind, d.label, d.par, rfl, upd_same, fun ch H2 fc ne x2 => ⟨rfl, q _ H2 ?_ ⟨b, dx, ch, rfl, x.free n1, ?_, ?_, ?_⟩⟩⟩
    · rw [upd_comm ne, upd_upd] at x2
      have fc2 : (upd H dx (.own b)) ch = none := by
        have z := fc
        rwa [upd_ne ne] at z
      have y1 : Z.Ex H (upd H dx (.own b)) := Z.Ex.new n2
      have y2 : Z.Ex H (upd (upd H dx (.own b)) b (.ins (He.ga X.K "Node") dx (nodeFs (rawNd d.kind d.label d.par) ch))) := y1.mut n1
      refine Z.Ex.trans ?_ x2
      refine y2.mut (y1.free fc2)
    · refine x.free ?_
      have fc2 : (upd H dx (.own b)) ch = none := by
        have z := fc
        rwa [upd_ne ne] at z
      exact (Z.Ex.new (o := .own b) n2).free fc2
    · have e : nodeFs d ch = nodeFs (rawNd d.kind d.label d.par) ch := by
        unfold nodeFs
        rw [hd.1, hd.2]
      rw [e]
      exact x2.get upd_same
    · exact x2.get (by rw [upd_ne ne, upd_same])) hg (by decide) he hpl
abbrev rootNd (lb : PySem.Str) : Nd := ⟨"root", "layer", lb, true, true, none, 0⟩
def newTreeS (K : PySem.W.Frag) (B : Hp) (lb : PySem.Str) : VS := ⟨fun H x => ∃ (t dd a ch : Addr), x = .ref t ∧ B t = none ∧ B dd = none ∧ B a = none ∧ B ch = none ∧ BuildAt K H t dd [(rootNd lb, a, ch)],
  fun e ⟨t, dd, a, ch, h1, h2, h3, h4, h5, h6⟩ => ⟨t, dd, a, ch, h1, h2, h3, h4, h5, h6.up e⟩⟩
def spNewTree (K : PySem.W.Frag) : Sp := fun vs H Q _ => ∃ lb, vs = [.str lb] ∧ Ret (newTreeS K H lb) H Q
theorem fc_new_tree (c : Says K mg base) : Cal P w K mg base "new_tree" 3 ["label"] (spNewTree K) := by
  refine cal_of (fn_new_tree c) (glo_new_tree c) sc_new_tree bi_new_tree (fun vs H Q E ⟨lb, e, _⟩ => by rw [e]; rfl) ?_
  rintro cdv A outer s H vs Q E hr ⟨lb, rfl, q⟩
  refine sx_ret (ev_make (mk_Tree c) hr (by decide) (ea_cons (ev_disp1 (key := Sum.inr "root") (ev_gstr (str_ROOT_tree c)) (ev_Node (d := rootNd lb) c hr (by decide) ⟨rfl, rfl⟩ ev_str (ev_var 0 rfl) ev_none)) ea_nil) fun vs H2 x2 p2 b dx n1 n2 n3 Q2 q2 => ?_) q
  obtain ⟨v, r, rfl, ⟨dd, v', B', rfl, f1, b1, y1, ⟨a, nx, ch, rfl, f2, f3, b2, b3⟩, y2⟩, rfl⟩ := p2
  refine ⟨b, dx, dd, rfl, upd_same, fun H3 x3 => ⟨rfl, q2 _ H3 ?_ ?_⟩⟩
  · rw [L2.upd_upd] at x3
    exact ((Z.Ex.new n2).mut n1).trans x3
  · rw [L2.upd_upd] at x3
    have x4 : Z.Ex H2 H3 := ((Z.Ex.new n2).mut n1).trans x3
    have k1 : H2 dd = some (.dK [((Sum.inr "root" : L2.Key), V.ref a)]) := y2.get upd_same
    have na : a ≠ dd := fun z => by
      rw [z, b1] at b2
      cases b2
    have nc : ch ≠ dd := fun z => by
      rw [z, b1] at b3
      cases b3
    have k2 := y2.get (a := a) (by rw [upd_ne na]; exact b2)
    have k3 := y2.get (a := ch) (by rw [upd_ne nc]; exact b3)
    refine ⟨b, dd, a, ch, rfl, x2.free n1, f1, f2, f3, ⟨dx, x3.get upd_same⟩, x4.get k1, fun x hx => ?_, fun x hx y hy _ => ?_⟩
    · rw [List.mem_singleton.mp hx]
      exact ⟨nx, x4.get k2, x4.get k3⟩
    · rw [List.mem_singleton.mp hx, List.mem_singleton.mp hy]
/-! ### what raises if it may not be: it may -/
theorem ev_has {X : Cx} (c : Says X.K X.mg X.base) {σ : L2.St} {B : Hp} {o e : Expr} {pos apos : Pos} {j : Nat} {t : Addr} {T : List Nd} {n : PySem.Str} {pl : Sem Bool} (hr : Room j X.A) (hk : 1 ≤ j) (hT : TreeAt X.K B t T) (ho : Ev X o σ B (isV (.ref t))) (he : Ev X e σ B (isV (.str n)))
    (hst : starEach [e] X.env = (false, eval e X.env) :: starEach [] X.env := by rfl) (hpl : (backTo pos (starEach [] X.env)).any (·.1) = false := by rfl)
    (ht : eval (.Call (.Attribute o "has" apos) [e] [] pos) X.env = (do
      let ov ← eval o X.env
      standAt apos.atName
      let (f, first) ← holding [ov] (getMethod ov "has" pl)
      callWith pos f first (backTo pos (starEach [e] X.env)) (backToKw pos (keywordEach [] X.env))) := by rfl) :
    Ev X (.Call (.Attribute o "has" apos) [e] [] pos) σ B (isV (.bl (decide (n ∈ T.map (·.name))))) := by
  obtain ⟨dx, dd, h1⟩ := tree_ins hT
  exact ev_meth (mt_has c) hr hk ho h1 rfl (args1 he hst) (fun vs H d2 p2 Q q => by
    rw [p2.vals]
    exact ⟨t, T, n, rfl, hT.up d2, q⟩) hst hpl ht
theorem mt_need (c : Says K mg base) : Mtd P w K mg base (He.ga K "Tree") "need" 2 ["self", "name"] (spRd K anyT fun _ _ => .non) := by
  refine mtd_of (fn_Tree_need c) (cls_Tree c) (me_Tree_need c) sc_Tree_need bi_Tree_need spRd_len ?_
  rintro cdv A outer s H vs Q E hr ⟨t, T, d, rfl, hT, hd, _, q⟩
  have e : (!decide (d.name ∈ T.map (·.name))) = false := by
    rw [decide_eq_true (List.mem_map.mpr ⟨d, hd, rfl⟩)]
    rfl
  refine sx_no (EvT.to (et_not (et_val (ev_has c hr (by decide) hT (ev_var 0 rfl) (ev_var 1 rfl)))) e) (sx_nil fun H2 d2 => q .non H2 d2 rfl)
theorem str_dec (a b : PySem.Str) : decide (V.str a = V.str b) = decide (a = b) := decide_eq_decide.mpr ⟨fun h => V.str.inj h, fun h => by rw [h]⟩
theorem mt_need_inner (c : Says K mg base) : Mtd P w K mg base (He.ga K "Tree") "need_inner" 3 ["self", "name"] (spRd K (fun _ d => d.name ≠ "root") fun _ _ => .non) := by
  refine mtd_of (fn_Tree_need_inner c) (cls_Tree c) (me_Tree_need_inner c) sc_Tree_need_inner bi_Tree_need_inner spRd_len ?_
  rintro cdv A outer s H vs Q E hr ⟨t, T, d, rfl, hT, hd, ne, q⟩
  refine sx_call (ev_mrd (mt_need c) hr (by decide) hT hd trivial (ev_var 0 rfl) (ev_var 1 rfl)) ?_
  exact sx_no (EvT.to (et_eqS (ev_var 1 rfl) (ev_gstr (str_ROOT_tree c)) rfl) (by rw [str_dec]; exact decide_eq_false ne)) (sx_nil fun H2 d2 => q .non H2 d2 rfl)
def spPlc (K : PySem.W.Frag) : Sp := fun vs H Q _ => ∃ t T d r xs, vs = [.ref t, .str d.name, .int (List.length (α := V) xs : Int), .ref r] ∧ TreeAt K H t T ∧ d ∈ T ∧ d.kind ≠ "item" ∧ H r = some (.lst xs) ∧ Ret (isV .non) H Q
theorem mt_need_place (c : Says K mg base) : Mtd P w K mg base (He.ga K "Tree") "need_place" 2 ["self", "parent", "index", "rest"] (spPlc K) := by
  refine mtd_of (fn_Tree_need_place c) (cls_Tree c) (me_Tree_need_place c) sc_Tree_need_place bi_Tree_need_place (fun vs H Q E ⟨t, T, d, r, xs, e, _⟩ => by rw [e]; rfl) ?_
  rintro cdv A outer s H vs Q E hr ⟨t, T, d, r, xs, rfl, hT, hd, ne, hx, q⟩
  refine sx_no (EvT.to (et_eqS (ev_mrd (mt_kind c) hr (by decide) hT hd trivial (ev_var 0 rfl) (ev_var 1 rfl)) ev_str rfl) (by rw [str_dec]; exact decide_eq_false ne)) ?_
  exact sx_no (EvT.to (et_gt (ev_var 2 rfl) (ev_lenL (free_len c) ((ev_var 3 rfl).qL (SqL.of hx)))) (decide_eq_false (by omega))) (sx_nil fun H2 d2 => q .non H2 d2 rfl)
def spIns (K : PySem.W.Frag) : Sp := fun vs H Q _ => ∃ t dd L x0 d, vs = [.ref t, .str x0.1.name, .int ((kids (ndsOf L) x0.1.name).length : Int), .str d.kind, .str d.name, .str d.label] ∧ BuildAt K H t dd L ∧ WF (ndsOf L) ∧ x0 ∈ L ∧ x0.1.kind ≠ "item" ∧ x0.1.dep < 8 ∧
  d.name ∉ (ndsOf L).map (·.name) ∧ L.length < 60 ∧ d.vis = true ∧ d.en = true ∧ d.par = some x0.1.name ∧
  ∀ a ch H2, H a = none → H ch = none → BuildAt K H2 t dd (L ++ [(d, a, ch)]) → Exc (Fp t dd L) H H2 → Q .non H2
theorem kids_len (T : List Nd) (n : PySem.Str) : (kids T n).length ≤ T.length := by
  unfold kids
  rw [List.length_map]
  exact List.length_filter_le _ _
theorem mt_insert (c : Says K mg base) : Mtd P w K mg base (He.ga K "Tree") "insert" 3 ["self", "parent", "index", "kind", "name", "label"] (spIns K) := by
  refine mtd_of (fn_Tree_insert c) (cls_Tree c) (me_Tree_insert c) sc_Tree_insert bi_Tree_insert (fun vs H Q E ⟨t, dd, L, x0, d, e, _⟩ => by rw [e]; rfl) ?_
  rintro cdv A outer s H vs Q E hr ⟨t, dd, L, x0, d, rfl, hB, wf, hx, hk, hdep, hn, hl, hv, he, hp, q⟩
  have big : 2000 ≤ sizeLine := by decide
  have hT := hB.tree wf.nd
  have hd : x0.1 ∈ ndsOf L := List.mem_map.mpr ⟨x0, hx, rfl⟩
  obtain ⟨dx, h1⟩ := hB.tr
  have h2 := hB.di
  refine sx_call (ev_mrd (mt_need c) hr (by decide) hT hd trivial (ev_var 0 rfl) (ev_var 1 rfl)) ?_
  refine sx_call (S := isV .non) (ev_meth (mt_need_place c) hr (by decide) (ev_var 0 rfl) h1 rfl (ea_cons (ev_var 1 rfl) (ea_cons (ev_var 2 rfl) (ea_cons (ev_mrdL (mt_children c) hr (by decide) hT hd trivial (ev_var 0 rfl) (ev_var 1 rfl)) ea_nil))) fun vs H2 d2 p2 Q2 q2 => ?_) ?_
  · obtain ⟨_, _, rfl, rfl, _, _, rfl, rfl, _, _, rfl, ⟨r, rfl, _, hr2⟩, rfl⟩ := p2
    exact ⟨t, ndsOf L, x0.1, r, sV (kids (ndsOf L) x0.1.name), by rw [len_of_sV], hT.up d2, hd, hk, hr2, q2⟩
  refine sx_no (EvT.to (et_eqS (ev_mrd (mt_depth c) hr (by decide) hT hd wf (ev_var 0 rfl) (ev_var 1 rfl)) (ev_gint (int_DEPTH_MOST c)) rfl) (by rw [dec_int, beq_eq_false_iff_ne]; omega)) ?_
  refine sx_no (EvT.to (et_val (ev_has c hr (by decide) hT (ev_var 0 rfl) (ev_var 4 rfl))) (decide_eq_false hn)) ?_
  refine sx_no (EvT.to (et_eqS (ev_lenD (free_len c) (ev_nodes c (ev_var 0 rfl) h1) h2) (ev_gint (int_NODES_MOST c)) rfl) ?_) ?_
  · rw [dec_int, beq_eq_false_iff_ne]
    unfold kvsOf
    rw [List.length_map]
    omega
  have kn : valV (kvsOf L) (Sum.inr d.name : L2.Key) = none := valV_kvs_none hn
  have kl : (kvsOf L).length < sizeLine := by
    unfold kvsOf
    rw [List.length_map]
    omega
  refine sx_dputS (key := Sum.inr d.name) (ev_Node (d := d) c hr (by decide) ⟨hv, he⟩ (ev_var 3 rfl) (ev_var 5 rfl) (by rw [hp]; exact ev_var 1 rfl)) (ev_nodes c (ev_var 0 rfl) h1) (ev_var 4 rfl) h2 kl (hu_of hr) fun v B' x1 ⟨a, nx, ch, hv1, fa, fc, b1, b2⟩ => ?_
  subst hv1
  rw [putK_new _ kn]
  obtain ⟨n1, n2, n3, n4, n5⟩ := hB.ne1 hx
  have g1 : (upd B' dd (.dK (kvsOf L ++ [((Sum.inr d.name : L2.Key), .ref a)]))) t = some (.ins (He.ga K "Tree") dx (treeFs dd)) := by rw [upd_ne n1]; exact x1.get h1
  have g3 : valV (kvsOf L ++ [((Sum.inr d.name : L2.Key), .ref a)]) (Sum.inr x0.1.name : L2.Key) = some (.ref x0.2.1) := by
    rw [valV_snoc _ _ _ _ kn, if_neg]
    · exact valV_kvs wf.nd hx
    · intro z
      exact hn (by rw [← Sum.inr.inj z]; exact List.mem_map.mpr ⟨x0.1, hd, rfl⟩)
  obtain ⟨ny, h5, h6⟩ := hB.nd x0 hx
  have g4 : (upd B' dd (.dK (kvsOf L ++ [((Sum.inr d.name : L2.Key), .ref a)]))) x0.2.1 = some (.ins (He.ga K "Node") ny (nodeFs x0.1 x0.2.2)) := by rw [upd_ne n3]; exact x1.get h5
  have g5 : (upd B' dd (.dK (kvsOf L ++ [((Sum.inr d.name : L2.Key), .ref a)]))) x0.2.2 = some (.lst (sV (kids (ndsOf L) x0.1.name))) := by rw [upd_ne n5]; exact x1.get h6
  have nd2 : ((ndsOf L ++ [d]).map (·.name)).Nodup := by
    rw [List.map_append]
    refine List.nodup_append.mpr ⟨wf.nd, by simp, ?_⟩
    intro y hy z hz e
    rw [List.mem_singleton.mp hz] at e
    rw [e] at hy
    exact hn hy
  have kd : kids (ndsOf L ++ [d]) d.name = [] := by
    rw [kids_snoc, if_neg, List.append_nil]
    · unfold kids
      rw [List.filter_eq_nil_iff.mpr]
      · rfl
      · intro y hy z
        rcases wf.up y hy with ⟨w1, _⟩ | ⟨q2, w1, w2, _⟩
        · rw [w1] at z
          simp at z
        · rw [w2, decide_eq_true_iff] at z
          exact hn (List.mem_map.mpr ⟨q2, w1, Option.some.inj z⟩)
    · rw [hp]
      intro z
      exact hn (by rw [← Option.some.inj z]; exact List.mem_map.mpr ⟨x0.1, hd, rfl⟩)
  obtain ⟨w1, w2⟩ := hB.grow hx hp nd2 kd x1 fa fc b1 b2
  have kz := kids_len (ndsOf L) x0.1.name
  have kz2 : (ndsOf L).length = L.length := List.length_map ..
  refine sx_bm PySem.F.plainAttrs_list PySem.F.slot_list_insert PySem.F.type_list_insert L2.mt_insert (ev_fld (ev_node c hr (ev_var 0 rfl) (ev_var 1 rfl) g1 upd_same g3) g4 (cls_Node c) (no_Node_children c) (nf_children x0.1 x0.2.2)) (args2 (ev_var 2 rfl) (ev_var 4 rfl)) (ty_list g5) fun vs H2 d2 p2 => ?_
  rw [p2.vals]
  refine ⟨_, _, _, _, rfl, rfl, d2.get g5, by rw [len_of_sV]; omega, by omega, by omega, ?_⟩
  have e1 : (sV (kids (ndsOf L) x0.1.name)).take ((kids (ndsOf L) x0.1.name).length : Int).toNat ++ [.str d.name] ++ (sV (kids (ndsOf L) x0.1.name)).drop ((kids (ndsOf L) x0.1.name).length : Int).toNat = sV (kids (ndsOf L) x0.1.name) ++ [.str d.name] := by
    rw [Int.toNat_natCast, ← len_of_sV (kids (ndsOf L) x0.1.name), List.take_length, List.drop_length, List.append_nil]
  rw [e1]
  have fin : SX (cxN P w K mg base n_Tree_insert "Tree.insert" (defScope b_Tree_insert) (He.ma K (He.ga K "Tree") "insert") cdv A outer s H E) [] (endsOf Q) (start n_Tree_insert [.ref t, .str x0.1.name, .int ((kids (ndsOf L) x0.1.name).length : Int), .str d.kind, .str d.name, .str d.label]) _ := sx_nil fun H3 d3 => q a ch H3 fa fc (w1.up d3) (w2.trans d3.exc)
  exact fin _ d2.both
end
end K24
set_option Elab.async false
set_option linter.all false
set_option maxRecDepth 100000
set_option maxHeartbeats 4000000
/-! The reader of outlines. -/
namespace Z
open PySem PySem.Spec PyProof.Rows L2
/-- a < b < c as a test -/
theorem et_chain {X : Cx} {σ : L2.St} {B : Hp} {Sa Sb Sc : VS} {a b c : Expr} {pos : Pos} {op op' : CmpOp} {r r' : R2} {v w : Bool} (ho : OpR X (compareOp op) r) (ho' : OpR X (compareOp op') r') (ha : Ev X a σ B Sa) (hb : Ev X b σ B Sb) (hc : Ev X c σ B Sc)
    (k1 : ∀ x y H, Ex B H → Sa.P H x → Sb.P H y → ∀ Q : VK, Ret (isV (.bl v)) H Q → r x y H Q) (k2 : v = true → ∀ y z H, Ex B H → Sb.P H y → Sc.P H z → ∀ Q : VK, Ret (isV (.bl w)) H Q → r' y z H Q)
    (hm : lastMarks [op, op'] [b, c] = false := by with_unfolding_all rfl) : EvT X (.Compare a [op, op'] [b, c] pos) σ B (v && w) :=
  et_of (pt_chain ho ho' (pe_s a) (pe_s b) (pe_s c) hm) fun H x Q q => ha H x _ fun u H2 d2 p2 => hb H2 (x.trans d2) _ fun y H3 d3 p3 =>
    k1 u y H3 ((x.trans d2).trans d3) (Sa.mono d3 p2) p3 _ fun z H4 d4 p4 => ⟨v, p4, by
      cases v with
      | false => exact iteF ⟨_, rfl, q H4 ((d2.trans d3).trans d4)⟩
      | true => exact iteT (hc H4 (((x.trans d2).trans d3).trans d4) _ fun z2 H5 d5 p5 => k2 rfl y z2 H5 ((((x.trans d2).trans d3).trans d4).trans d5) (Sb.mono (d4.trans d5) p3) p5 _ fun z3 H6 d6 p6 => ⟨_, p6, q H6 ((((d2.trans d3).trans d4).trans d5).trans d6)⟩)⟩
end Z
namespace K24
open PySem PySem.Spec PyProof.Rows L2 Z
section
variable {P : Program} {w : World} {K : PySem.W.Frag} {mg : PySem.Str → Option Value} {base : Heap}
abbrev flagN (vz : Bool) : PySem.Str := if vz = true then "visible" else "enabled"
abbrev flagged (d : Nd) (vz v : Bool) : Nd := if vz = true then { d with vis := v } else { d with en := v }
theorem flagN_dec (vz : Bool) : decide (flagN vz = ("visible" : PySem.Str)) = vz := by
  cases vz <;> decide +kernel
def spFlag (K : PySem.W.Frag) : Sp := fun vs H Q _ => ∃ (t dd : Addr) (A : List Cell) (d : Nd) (a ch : Addr) (vz v : Bool), vs = [.ref t, .str d.name, .str (flagN vz), .bl v] ∧ BuildAt K H t dd (A ++ [(d, a, ch)]) ∧ WF (ndsOf (A ++ [(d, a, ch)])) ∧ d.name ≠ "root" ∧
  ∀ b H2, BuildAt K H2 t dd (A ++ [(flagged d vz v, a, ch)]) → Exc (Fp t dd (A ++ [(d, a, ch)])) H H2 → Q (.bl b) H2
theorem mt_set_flag (c : Says K mg base) : Mtd P w K mg base (He.ga K "Tree") "set_flag" 4 ["self", "name", "flag", "value"] (spFlag K) := by
  refine mtd_of (fn_Tree_set_flag c) (cls_Tree c) (me_Tree_set_flag c) sc_Tree_set_flag bi_Tree_set_flag (fun vs H Q E ⟨t, dd, A, d, a, ch, vz, v, e, _⟩ => by rw [e]; rfl) ?_
  rintro cdv A0 outer s H vs Q E hr ⟨t, dd, A, d, a, ch, vz, v, rfl, hB, wf, hn, q⟩
  have S := sc_Tree_set_flag
  have hx : (d, a, ch) ∈ A ++ [(d, a, ch)] := List.mem_append_right _ (List.mem_singleton.mpr rfl)
  have hT := hB.tree wf.nd
  have hd : d ∈ ndsOf (A ++ [(d, a, ch)]) := List.mem_map.mpr ⟨_, hx, rfl⟩
  obtain ⟨dx, h1⟩ := hB.tr
  obtain ⟨nx, h5, h6⟩ := hB.nd _ hx
  refine sx_call (ev_mrd (mt_need_inner c) hr (by decide) hT hd hn (ev_var 0 rfl) (ev_var 1 rfl)) ?_
  refine sx_asgV 4 (ev_node c hr (ev_var 0 rfl) (ev_var 1 rfl) h1 hB.di (valV_kvs wf.nd hx)) ?_
  have et : ∀ {X : Cx} {σ : L2.St} {p2 p3 : Pos} {i : Nat} {e : Expr}, Ev X e σ H (isV (.str (flagN vz))) → EvT X (.Compare e [.Eq] [.Constant (.str "visible") i p2] p3) σ H vz := fun h => by
    refine (et_eqS h ev_str rfl).to ?_
    rw [str_dec]
    exact flagN_dec vz
  by_cases hv : vz = true
  · have ef : flagged d vz v = { d with vis := v } := if_pos hv
    rw [ef] at q
    obtain ⟨w1, w2⟩ := hB.flag (d' := { d with vis := v }) wf.nd rfl rfl h5
    refine sx_asgV 5 (v := .bl d.vis) (ev_if (et (ev_var 2 rfl)) (fun _ => ev_fld (ev_var 4 rfl) h5 (cls_Node c) (no_Node_visible c) (nf_visible d ch)) fun z => absurd z (by rw [hv]; decide)) ?_
    refine sx_yes (EvT.to (et (ev_var 2 rfl)) hv) (sx_fld (ev_var 3 rfl) (ev_var 4 rfl) h5 (cls_Node c) (no_Node_visible c) (show (6 : Nat) < 1000 by decide) (sx_skip ?_))
    exact sx_ret (ev_neS (ev_var 5 rfl) (ev_var 3 rfl) rfl) fun u H2 d2 p2 => by
      have p2 : u = .bl _ := p2
      rw [p2]
      exact q _ H2 (w1.up d2) (w2.trans d2.exc)
  · have ef : flagged d vz v = { d with en := v } := if_neg hv
    rw [ef] at q
    obtain ⟨w1, w2⟩ := hB.flag (d' := { d with en := v }) wf.nd rfl rfl h5
    refine sx_asgV 5 (v := .bl d.en) (ev_if (et (ev_var 2 rfl)) (fun z => absurd z hv) fun _ => ev_fld (ev_var 4 rfl) h5 (cls_Node c) (no_Node_enabled c) (nf_enabled d ch)) ?_
    refine sx_noE (EvT.to (et (ev_var 2 rfl)) (Bool.eq_false_iff.mpr hv)) (sx_fld (ev_var 3 rfl) (ev_var 4 rfl) h5 (cls_Node c) (no_Node_enabled c) (show (6 : Nat) < 1000 by decide) (sx_skip ?_))
    exact sx_ret (ev_neS (ev_var 5 rfl) (ev_var 3 rfl) rfl) fun u H2 d2 p2 => by
      have p2 : u = .bl _ := p2
      rw [p2]
      exact q _ H2 (w1.up d2) (w2.trans d2.exc)
/-! ### the reader -/
abbrev rdFs (tv : V) (p : Addr) : List (PySem.Str × V) := [("tree", tv), ("path", .ref p)]
def nxt (s : List Nd × List PySem.Str) (d : Nd) : List Nd × List PySem.Str := (s.1 ++ [{ d with par := (s.2.take d.dep).getLast? }], s.2.take d.dep ++ [d.name])
theorem nxt_root {d : Nd} (n1 : d.name = "root") (n2 : d.kind = "layer") (n3 : d.vis = true) (n4 : d.en = true) (n5 : d.dep = 0) : nxt ([], []) d = ([rootNd d.label], [("root" : PySem.Str)]) := by
  obtain ⟨nm, kd, lb, vs, en, par, dp⟩ := d
  cases n1
  cases n2
  cases n3
  cases n4
  cases n5
  rfl
/-- the row d may come next -/
def okN (s : List Nd × List PySem.Str) (d : Nd) : Prop := OkRow d ∧ ((s = ([], []) ∧ d.name = "root" ∧ d.kind = "layer" ∧ d.vis = true ∧ d.en = true ∧ d.dep = 0) ∨
  (s.1 ≠ [] ∧ 1 ≤ d.dep ∧ d.dep ≤ 8 ∧ d.dep ≤ s.2.length ∧ d.name ∉ s.1.map (·.name) ∧ (∀ q, s.2[d.dep - 1]? = some q → kindOf s.1 q ≠ "item") ∧ s.1.length < 60))
theorem last_take {path : List PySem.Str} {k : Nat} (h1 : 1 ≤ k) (h2 : k ≤ path.length) : ∃ q, path[k - 1]? = some q ∧ (path.take k).getLast? = some q := by
  have lt : k - 1 < path.length := by omega
  refine ⟨path[k - 1], List.getElem?_eq_getElem lt, ?_⟩
  obtain ⟨m, rfl⟩ : ∃ m, k = m + 1 := ⟨k - 1, by omega⟩
  have lt2 : m < path.length := h2
  show (path.take (m + 1)).getLast? = some path[m]
  rw [take_snoc (List.getElem?_eq_getElem lt2), List.getLast?_concat]
/-- the reader at r behind some rows; H0: who knows nothing of it -/
def RS (K : PySem.W.Frag) (H0 H : Hp) (r : Addr) (s : List Nd × List PySem.Str) : Prop := H0 r = none ∧
  ((s = ([], []) ∧ ∃ rx p0, H r = some (.ins (He.ga K "Reader") rx (rdFs .non p0))) ∨
   ∃ rx t dd L p, ndsOf L = s.1 ∧ H r = some (.ins (He.ga K "Reader") rx (rdFs (.ref t) p)) ∧ H p = some (.lst (sV s.2)) ∧ BuildAt K H t dd L ∧ Built s.1 s.2 ∧ (∀ q, Fp t dd L q → H0 q = none) ∧ ∀ x ∈ L, x.2.2 ≠ p)
def spReaderI (K : PySem.W.Frag) : Sp := fun vs H Q _ => ∃ b dx, vs = [.ref b] ∧ H b = some (.ins (He.ga K "Reader") dx []) ∧ ∀ p0 H2, H p0 = none → p0 ≠ b → Z.Ex (upd (upd H p0 (.lst [])) b (.ins (He.ga K "Reader") dx (rdFs .non p0))) H2 → Q .non H2
theorem mk_Reader (c : Says K mg base) : Mak P w K mg base "Reader" (He.ga K "Reader") 1 ["self"] (spReaderI K) := by
  refine mak_of (fn_Reader_init c) (glo_Reader c) (mkr_Reader c) sc_Reader_init bi_Reader_init (fun vs H Q E ⟨b, dx, e, _⟩ => by rw [e]; rfl) ?_
  rintro cdv A outer s H vs Q E hr ⟨b, dx, rfl, hb, q⟩
  refine sx_fld ev_none (ev_var 0 rfl) hb (cls_Reader c) (no_Reader_tree c) (show (0 : Nat) < 1000 by decide) ?_
  refine sx_fldN (ev_lst (vs := []) ea_nil (Nat.zero_le _)) (ev_var 0 rfl) upd_same (cls_Reader c) (no_Reader_path c) (show (1 : Nat) < 1000 by decide) fun p0 fr => sx_nil fun H2 d2 => ?_
  have ne : p0 ≠ b := fun z => by
    rw [z, upd_same] at fr
    cases fr
  rw [upd_ne ne] at fr
  rw [upd_comm (Ne.symm ne), L2.upd_upd] at d2
  exact q p0 H2 fr ne d2
theorem BuildAt.off {H : Hp} {t dd p : Addr} {o : HO} {L : List Cell} (h : BuildAt K H t dd L) (n : ¬ Fp t dd L p) : BuildAt K (upd H p o) t dd L := by
  have ne : ∀ q, Fp t dd L q → q ≠ p := fun q f z => n (by rw [← z]; exact f)
  obtain ⟨dx, h1⟩ := h.tr
  refine ⟨⟨dx, by rw [upd_ne (ne _ (Or.inl rfl))]; exact h1⟩, by rw [upd_ne (ne _ (Or.inr (Or.inl rfl)))]; exact h.di, fun x hx => ?_, h.ap⟩
  obtain ⟨nx, h5, h6⟩ := h.nd x hx
  exact ⟨nx, by rw [upd_ne (ne _ (Or.inr (Or.inr ⟨x, hx, Or.inl rfl⟩)))]; exact h5, by rw [upd_ne (ne _ (Or.inr (Or.inr ⟨x, hx, Or.inr rfl⟩)))]; exact h6⟩
theorem rd_out {H : Hp} {r rx t dd p : Addr} {tv : V} {L : List Cell} (h : BuildAt K H t dd L) (e : H r = some (.ins (He.ga K "Reader") rx (rdFs tv p))) : ¬ Fp t dd L r := fun f => by
  rcases f with z | z | ⟨x, hx, z | z⟩
  · obtain ⟨dx, h1⟩ := h.tr
    rw [z, h1] at e
    injection e with e
    injection e with _ _ e
    cases e
  · have h1 := h.di
    rw [z, h1] at e
    cases e
  · obtain ⟨nx, h5, _⟩ := h.nd x hx
    rw [z, h5] at e
    injection e with e
    injection e with _ _ e
    cases e
  · obtain ⟨_, _, h6⟩ := h.nd x hx
    rw [z, h6] at e
    cases e
theorem lst_out {H : Hp} {t dd p : Addr} {xs : List V} {L : List Cell} (h : BuildAt K H t dd L) (e : H p = some (.lst xs)) (n : ∀ x ∈ L, x.2.2 ≠ p) : ¬ Fp t dd L p := fun f => by
  rcases f with z | z | ⟨x, hx, z | z⟩
  · obtain ⟨dx, h1⟩ := h.tr
    rw [z, h1] at e
    cases e
  · have h1 := h.di
    rw [z, h1] at e
    cases e
  · obtain ⟨nx, h5, _⟩ := h.nd x hx
    rw [z, h5] at e
    cases e
  · exact n x hx z.symm
/-- one row more -/
def spRead (K : PySem.W.Frag) (only : List Nd × List PySem.Str → Prop) : Sp := fun vs H Q _ => ∃ (H0 : Hp) (r ip : Addr) (d : Nd) (s : List Nd × List PySem.Str), vs = [.ref r, .ref ip] ∧ only s ∧ TabsOn K H ∧ Z.Ex H0 H ∧ RS K H0 H r s ∧ H ip = some (.tup (infoV d)) ∧ okN s d ∧
  ∀ H2, Z.Ex H0 H2 → RS K H0 H2 r (nxt s d) → Q (.bl true) H2
theorem spRead_len {only : List Nd × List PySem.Str → Prop} : ∀ vs H Q E, spRead K only vs H Q E → vs.length = 2 := fun vs H Q E ⟨_, _, _, _, _, e, _⟩ => by
  rw [e]
  rfl
theorem pg_info {X : Cx} (hN : X.N.Nodup) {i1 i2 i3 i4 i5 i6 : Nat} {x1 x2 x3 x4 x5 x6 : PySem.Str} {p1 p2 p3 p4 p5 p6 tpos : Pos} {kk : Nat} (hc : X.calm = true := by rfl)
    (h1 : X.N[i1]? = some x1 := by rfl) (h2 : X.N[i2]? = some x2 := by rfl) (h3 : X.N[i3]? = some x3 := by rfl) (h4 : X.N[i4]? = some x4 := by rfl) (h5 : X.N[i5]? = some x5 := by rfl) (h6 : X.N[i6]? = some x6 := by rfl)
    (l1 : Loc X.env.scope x1 := by exact Or.inl rfl) (l2 : Loc X.env.scope x2 := by exact Or.inl rfl) (l3 : Loc X.env.scope x3 := by exact Or.inl rfl) (l4 : Loc X.env.scope x4 := by exact Or.inl rfl) (l5 : Loc X.env.scope x5 := by exact Or.inl rfl) (l6 : Loc X.env.scope x6 := by exact Or.inl rfl)
    (f : ∀ x, X.fn x = true := by intro _; rfl)
    (hn : (assignEach [.Name x1 p1, .Name x2 p2, .Name x3 p3, .Name x4 p4, .Name x5 p5, .Name x6 p6] X.env).length = 6 := by rfl) (hst : (assignEach [.Name x1 p1, .Name x2 p2, .Name x3 p3, .Name x4 p4, .Name x5 p5, .Name x6 p6] X.env).findIdx? (·.1) = none := by rfl) :
    PG X (.Tuple [.Name x1 p1, .Name x2 p2, .Name x3 p3, .Name x4 p4, .Name x5 p5, .Name x6 p6] kk tpos) (gTup X.K 6 (gCons (gName i1) (gCons (gName i2) (gCons (gName i3) (gCons (gName i4) (gCons (gName i5) (gCons (gName i6) gNil))))))) :=
  pg_tup hc (pgs_cons (pg_name hN h1 l1 (.inl (f _))) (pgs_cons (pg_name hN h2 l2 (.inl (f _))) (pgs_cons (pg_name hN h3 l3 (.inl (f _))) (pgs_cons (pg_name hN h4 l4 (.inl (f _))) (pgs_cons (pg_name hN h5 l5 (.inl (f _))) (pgs_cons (pg_name hN h6 l6 (.inl (f _))) pgs_nil)))))) hn hst
theorem mt_read_root (c : Says K mg base) : Mtd P w K mg base (He.ga K "Reader") "read_root" 4 ["self", "info"] (spRead K fun s => s = ([], [])) := by
  refine mtd_of (fn_Reader_read_root c) (cls_Reader c) (me_Reader_read_root c) sc_Reader_read_root bi_Reader_read_root spRead_len ?_
  rintro cdv A outer s H vs Q E hr ⟨H0, r, ip, d, _, rfl, rfl, hS, x0, ⟨fr, hR⟩, hip, ⟨ok, hO⟩, q⟩
  have S := sc_Reader_read_root
  rcases hO with ⟨_, n1, n2, n3, n4, n5⟩ | ⟨z, _⟩
  rotate_left
  · exact absurd rfl z
  rcases hR with ⟨_, rx, p0, hr1⟩ | ⟨rx, t, dd, L, p, e1, _, _, _, b, _⟩
  rotate_left
  · have z := b.root
    cases z
  have hi : infoV d = [.str "root", .str "layer", .str d.label, .bl true, .bl true, .int 0] := by
    unfold infoV
    rw [n1, n2, n3, n4, n5]
    rfl
  rw [hi] at hip
  have three : 3 ≤ sizeLine := by decide
  refine sx_tup (n := 6) (xs := [.str "root", .str "layer", .str d.label, .bl true, .bl true, .int 0]) ((ev_var 1 rfl).qT (SqT.of hip)) (pg_info S.nd (i1 := 2) (i2 := 3) (i3 := 4) (i4 := 5) (i5 := 6) (i6 := 7)) rfl fun H2 d2 => ⟨_, _, rfl, _, _, rfl, _, _, rfl, _, _, rfl, _, _, rfl, _, _, rfl, rfl, ?_⟩
  revert H2
  show SX _ _ _ _ H
  refine sx_no (EvT.to (ew_or (v := false) (et_cmp (op_neD hr.units) (ev_tup (vs := [.str "root", .str "layer", .int 0]) (ea_cons (ev_var 2 rfl) (ea_cons (ev_var 3 rfl) (ea_cons (ev_var 7 rfl) ea_nil))) three) (ev_tup (vs := [.str "root", .str "layer", .int 0]) (ea_cons (ev_gstr (str_ROOT_tree c)) (ea_cons ev_str (ea_cons ev_int ea_nil))) three) ?_) fun _ => ew_or (et_not (et_val (ev_var 5 rfl))) fun _ => ew_or1 (et_not (et_val (ev_var 6 rfl)))).t rfl) ?_
  · rintro x y H2 d2 ⟨p1, rfl, _, h1⟩ ⟨p2, rfl, _, h2⟩ Q2 q2
    refine ⟨.tuple [.str "root", .str "layer", .int 0], .tuple [.str "root", .str "layer", .int 0], .tup (SqT.of h1) (.cons (.str _) (.cons (.str _) (.cons (.int _) .nil))), .tup (SqT.of h2) (.cons (.str _) (.cons (.str _) (.cons (.int _) .nil))), by decide +kernel, by decide +kernel, ?_⟩
    have e : PyData.eqv (.tuple [.str "root", .str "layer", .int 0]) (.tuple [.str "root", .str "layer", .int 0]) = true := by decide +kernel
    rw [e]
    exact ev_ret q2
  refine sx_fldS (S := newTreeS K H d.label) (ev_call (fc_new_tree c) hr (by decide) (args1 (ev_var 4 rfl)) fun vs H2 d2 p2 Q2 q2 => ?_) (ev_var 0 rfl) hr1 (cls_Reader c) (no_Reader_tree c) (show (2 : Nat) < 1000 by decide) fun v B' x1 ⟨t, dd, a, ch, hv, f1, f2, f3, f4, hB⟩ => ?_
  · rw [p2.vals]
    exact ⟨d.label, rfl, q2.imp fun v H3 _ ⟨t, dd, a, ch, h1, h2, h3, h4, h5, h6⟩ => ⟨t, dd, a, ch, h1, d2.free h2, d2.free h3, d2.free h4, d2.free h5, h6⟩⟩
  subst hv
  have hr2 : B' r = some (.ins (He.ga K "Reader") rx (rdFs .non p0)) := x1.get hr1
  have nF := rd_out hB hr2
  have hB2 : BuildAt K (upd B' r (.ins (He.ga K "Reader") rx (putF "tree" (.ref t) (rdFs .non p0)))) t dd [(rootNd d.label, a, ch)] := hB.off nF
  refine sx_fldN (ob := .lst [.str "root"]) (nb := rfl) (ev_lst (vs := [.str "root"]) (ea_cons (ev_var 2 rfl) ea_nil) (by show 1 ≤ sizeLine; omega)) (ev_var 0 rfl) upd_same (cls_Reader c) (no_Reader_path c) (show (2 : Nat) < 1000 by decide) fun p fp => ?_
  have np : p ≠ r := fun z => by
    rw [z, upd_same] at fp
    cases fp
  refine sx_ret ev_bool fun v H2 d2 p2 => ?_
  have p2 : v = .bl true := p2
  rw [p2]
  rw [upd_comm (Ne.symm np), L2.upd_upd] at d2
  have fp2 : B' p = none := by
    rwa [upd_ne np] at fp
  have x2 : Z.Ex H0 (upd (upd B' p (.lst [.str "root"])) r (.ins (He.ga K "Reader") rx (rdFs (.ref t) p))) := ((x0.trans x1).mut (((x0.trans x1)).free fp2)).mut fr
  have nFp : ¬ Fp t dd [(rootNd d.label, a, ch)] p := fun f => hB.known f fp2
  have hB3 : BuildAt K H2 t dd [(rootNd d.label, a, ch)] := ((hB.off nFp).off nF).up d2
  have e0 := nxt_root n1 n2 n3 n4 n5
  refine q H2 (x2.trans d2) ⟨fr, Or.inr ⟨rx, t, dd, [(rootNd d.label, a, ch)], p, ?_, d2.get upd_same, ?_, hB3, ?_, ?_, ?_⟩⟩
  · rw [e0]
    rfl
  · rw [e0]
    exact d2.get (by rw [upd_ne np, upd_same]; rfl)
  · rw [e0]
    exact built_root _ rfl rfl rfl rfl
  · rintro y (z | z | ⟨x, hx, z | z⟩)
    · rw [z]; exact x0.free f1
    · rw [z]; exact x0.free f2
    · rw [z, List.mem_singleton.mp hx]; exact x0.free f3
    · rw [z, List.mem_singleton.mp hx]; exact x0.free f4
  · intro x hx z
    exact nFp (Or.inr (Or.inr ⟨x, hx, Or.inr z.symm⟩))
/-- can_be: it may -/
def spCan (K : PySem.W.Frag) : Sp := fun vs H Q _ => ∃ (r ip rx t p : Addr) (d : Nd) (T : List Nd) (path : List PySem.Str), vs = [.ref r, .ref ip] ∧ H r = some (.ins (He.ga K "Reader") rx (rdFs (.ref t) p)) ∧ H p = some (.lst (sV path)) ∧ Tr K H t T ∧ H ip = some (.tup (infoV d)) ∧
  1 ≤ d.dep ∧ d.dep ≤ 8 ∧ d.dep ≤ path.length ∧ d.name ∉ T.map (·.name) ∧ (∀ q, path[d.dep - 1]? = some q → kindOf T q ≠ "item" ∧ ∃ x ∈ T, x.name = q) ∧ T.length < 60 ∧ Ret (isV (.bl true)) H Q
theorem path_at {path : List PySem.Str} {k : Nat} (h1 : 1 ≤ k) (h2 : k ≤ path.length) {q : PySem.Str} (hq : path[k - 1]? = some q) : atI (sV path) ((k : Int) - 1) = some (.str q) := by
  have e : ((k : Int) - 1) = ((k - 1 : Nat) : Int) := by omega
  rw [e]
  exact atI_nat (by rw [List.getElem?_map, hq]; rfl)
theorem mt_can_be (c : Says K mg base) : Mtd P w K mg base (He.ga K "Reader") "can_be" 11 ["self", "info"] (spCan K) := by
  refine mtd_of (fn_Reader_can_be c) (cls_Reader c) (me_Reader_can_be c) sc_Reader_can_be bi_Reader_can_be (fun vs H Q E ⟨_, _, _, _, _, _, _, _, e, _⟩ => by rw [e]; rfl) ?_
  rintro cdv A outer s H vs Q E hr ⟨r, ip, rx, t, p, d, T, path, rfl, hr1, hp, hT, hip, d1, d8, dl, hn, hk, hl, q⟩
  have S := sc_Reader_can_be
  have lp : (sV path).length = path.length := len_of_sV path
  have hcalm : ∀ {X : Cx}, True := fun {_} => trivial
  refine sx_asgV 2 (v := .int (d.dep : Int)) (ev_ixT ((ev_var 1 rfl).qT (SqT.of hip)) ev_int (atI_nat (j := 5) rfl)) ?_
  obtain ⟨pq, hq, _⟩ := last_take d1 dl
  obtain ⟨ki, x, hx, ex⟩ := hk pq hq
  have mn : ((if (path.length : Int) < 8 then (path.length : Int) else 8)) ≥ (d.dep : Int) := by
    by_cases z : (path.length : Int) < 8
    · rw [if_pos z]; omega
    · rw [if_neg z]; omega
  refine sx_no (EvT.to (ew_or (v := false) (et_not (v := true) (et_chain (v := true) (w := true) op_le op_le ev_int (ev_var 2 rfl) (ev_min rfl (free_min c) (ev_gint (int_DEPTH_MOST c)) (ev_lenL (free_len c) ((ev_fld (ev_var 0 rfl) hr1 (cls_Reader c) (no_Reader_path c) rfl).qL (SqL.of hp)))) (fun a b H2 d2 p1 p2 Q2 q2 => ?_) (fun _ a b H2 d2 p1 p2 Q2 q2 => ?_))) fun _ => ew_or1 (et_val (ev_has c hr (by decide) hT.at_ (ev_fld (ev_var 0 rfl) hr1 (cls_Reader c) (no_Reader_tree c) rfl) (ev_ixT ((ev_var 1 rfl).qT (SqT.of hip)) ev_int (atI_nat (j := 0) rfl))))).t (decide_eq_false hn)) ?_
  · refine ⟨_, _, p1, p2, ?_⟩
    show Q2 (.bl (decide ((1 : Int) ≤ (d.dep : Int)))) H2
    rw [decide_eq_true (by omega : (1 : Int) ≤ (d.dep : Int))]
    exact ev_ret q2
  · refine ⟨_, _, p1, p2, ?_⟩
    show Q2 (.bl (decide ((d.dep : Int) ≤ (if ((sV path).length : Int) < 8 then ((sV path).length : Int) else 8)))) H2
    rw [decide_eq_true (by rw [lp]; exact mn)]
    exact ev_ret q2
  refine sx_ret (ev_and (v := true) (w := true) (Ev.to (ev_neS (ev_mrd (mt_kind c) hr (by decide) hT.at_ hx trivial (ev_fld (ev_var 0 rfl) hr1 (cls_Reader c) (no_Reader_tree c) rfl) (Ev.to (ev_ixL ((ev_fld (ev_var 0 rfl) hr1 (cls_Reader c) (no_Reader_path c) rfl).qL (SqL.of hp)) (ev_sub (ev_var 2 rfl) ev_int) (path_at d1 dl hq)) fun v H2 d2 z => ?_)) ev_str rfl) fun v H2 d2 z => ?_) fun _ => ev_one (Ev.to (ev_lt (ev_lenL (free_len c) (ev_names c hr (by decide) (ev_fld (ev_var 0 rfl) hr1 (cls_Reader c) (no_Reader_tree c) rfl) hT).nL) (ev_gint (int_NODES_MOST c))) fun v H2 d2 z => ?_)) q
  · have z : v = .str pq := z
    rw [z, ← ex]
    rfl
  · have z : v = .bl (!decide (V.str x.kind = .str "item")) := z
    rw [str_dec, decide_eq_false] at z
    · exact z
    · rw [← kindOf_of hT.wf hx, ex]
      exact ki
  · have z : v = .bl (decide (((sV (namesOf T)).length : Int) < 60)) := z
    rw [len_of_sV, List.length_map, decide_eq_true (by omega)] at z
    exact z
end
end K24
set_option Elab.async false
set_option linter.all false
set_option maxRecDepth 100000
set_option maxHeartbeats 4000000
/-! Reader.read, parse_outline. -/
namespace K24
open PySem PySem.Spec PyProof.Rows L2 Z
section
variable {P : Program} {w : World} {K : PySem.W.Frag} {mg : PySem.Str → Option Value} {base : Heap}
theorem Exc.fresh {H0 H H2 : Hp} {t dd : Addr} {L : List Cell} (x : Z.Ex H0 H) (e : Exc (Fp t dd L) H H2) (f : ∀ q, Fp t dd L q → H0 q = none) : Z.Ex H0 H2 := Exc.low x e f
theorem fp_snoc {t dd a ch q : Addr} {L : List Cell} {d : Nd} (f : Fp t dd (L ++ [(d, a, ch)]) q) : Fp t dd L q ∨ q = a ∨ q = ch := by
  rcases f with z | z | ⟨x, hx, z⟩
  · exact Or.inl (Or.inl z)
  · exact Or.inl (Or.inr (Or.inl z))
  · rcases List.mem_append.mp hx with hx | hx
    · exact Or.inl (Or.inr (Or.inr ⟨x, hx, z⟩))
    · rw [List.mem_singleton.mp hx] at z
      exact Or.inr z
theorem mt_read (c : Says K mg base) : Mtd P w K mg base (He.ga K "Reader") "read" 12 ["self", "info"] (spRead K fun _ => True) := by
  refine mtd_of (fn_Reader_read c) (cls_Reader c) (me_Reader_read c) sc_Reader_read bi_Reader_read spRead_len ?_
  rintro cdv A outer s H vs Q E hr ⟨H0, r, ip, d, st, rfl, _, hS, x0, ⟨fr, hR⟩, hip, okd, q⟩
  have S := sc_Reader_read
  obtain ⟨ok, hO⟩ := id okd
  refine sx_no (EvT.to (et_isN (ev_var 1 rfl)) rfl) ?_
  rcases hR with ⟨rfl, rx, p0, hr1⟩ | ⟨rx, t, dd, L, p, e1, hr1, hp, hB, b, fF, pn⟩
  · refine sx_yes (EvT.to (et_isN (ev_fld (ev_var 0 rfl) hr1 (cls_Reader c) (no_Reader_tree c) rfl)) rfl) (sx_retE fun H1 d1 => ?_)
    refine sE_meth (mt_read_root c) hr (by decide) (ev_var 0 rfl) hr1 rfl (args1 (ev_var 1 rfl)) d1 fun vs H2 d2 p2 => ?_
    rw [p2.vals]
    exact ⟨H0, r, ip, d, _, rfl, rfl, hS.up (d1.trans d2), x0.trans (d1.trans d2), ⟨fr, Or.inl ⟨rfl, rx, p0, (d1.trans d2).get hr1⟩⟩, (d1.trans d2).get hip, okd, fun H3 x3 h3 => q H3 x3 h3⟩
  · rcases hO with ⟨z, _⟩ | ⟨_, d1, d8, dl, hn, hk, hl⟩
    · rw [z] at b
      have := b.root
      cases this
    refine sx_no (EvT.to (et_isN (ev_fld (ev_var 0 rfl) hr1 (cls_Reader c) (no_Reader_tree c) rfl)) rfl) ?_
    have hT : TreeAt K H t (ndsOf L) := hB.tree (by rw [e1]; exact b.wf.nd)
    have hTr : Tr K H t st.1 := ⟨hS, by rw [← e1]; exact hT, ⟨_, b⟩, by omega⟩
    have hk2 : ∀ q, st.2[d.dep - 1]? = some q → kindOf st.1 q ≠ "item" ∧ ∃ x ∈ st.1, x.name = q := fun q hq => ⟨hk q hq, by
      obtain ⟨x, hx, e, _⟩ := b.dep _ q hq
      exact ⟨x, hx, e⟩⟩
    refine sx_no (EvT.to (et_not (v := true) (et_val (ev_meth (S := isV (.bl true)) (mt_can_be c) hr (by decide) (ev_var 0 rfl) hr1 rfl (args1 (ev_var 1 rfl)) fun vs H2 d2 p2 Q2 q2 => ?_))) rfl) ?_
    · rw [p2.vals]
      exact ⟨r, ip, rx, t, p, d, st.1, st.2, rfl, d2.get hr1, d2.get hp, hTr.up d2, d2.get hip, d1, d8, dl, hn, hk2, hl, q2⟩
    refine sx_tup (n := 6) (xs := infoV d) ((ev_var 1 rfl).qT (SqT.of hip)) (pg_info S.nd (i1 := 2) (i2 := 3) (i3 := 4) (i4 := 5) (i5 := 6) (i6 := 7)) rfl fun H2 d2 => ⟨_, _, rfl, _, _, rfl, _, _, rfl, _, _, rfl, _, _, rfl, _, _, rfl, rfl, ?_⟩
    revert H2
    show SX _ _ _ _ H
    obtain ⟨pq, hq, hq2⟩ := last_take d1 dl
    obtain ⟨x, hx, ex, dx⟩ := b.dep _ pq hq
    obtain ⟨x0c, hx0, e0⟩ := List.mem_map.mp (show x ∈ ndsOf L by rw [e1]; exact hx)
    subst e0
    have hz := len_of_sV st.2
    have l9 := b.len
    refine sx_asgV 8 (v := .str x0c.1.name) (ev_ixL ((ev_fld (ev_var 0 rfl) hr1 (cls_Reader c) (no_Reader_path c) rfl).qL (SqL.of hp)) (ev_sub (ev_var 7 rfl) ev_int) (by rw [ex]; exact path_at d1 dl hq)) ?_
    obtain ⟨tx, ht1⟩ := hB.tr
    have hxn : x0c.1 ∈ ndsOf L := List.mem_map.mpr ⟨x0c, hx0, rfl⟩
    have wfL : WF (ndsOf L) := by rw [e1]; exact b.wf
    have kx : x0c.1.kind ≠ "item" := by
      have z := hk pq hq
      rw [← ex, kindOf_of b.wf hx] at z
      exact z
    -- the node as it is put in
    let n0 : Nd := ⟨d.name, d.kind, d.label, true, true, some x0c.1.name, d.dep⟩
    have bs : ∀ n : Nd, n.name = d.name → n.par = some x0c.1.name → n.dep = d.dep → Built (st.1 ++ [n]) (st.2.take d.dep ++ [d.name]) := fun n h1 h2 h3 => by
      have e : d.dep = (d.dep - 1) + 1 := by omega
      have z := b.snoc (d := n) (e := d.dep - 1) (p := pq) (by rw [h3]; exact e) (by omega) hq (by rw [h2, ex]) (by rw [h1]; exact hn)
      rw [← e, h1] at z
      exact z
    have wfs : ∀ (n : Nd) (a ch : Addr), n.name = d.name → n.par = some x0c.1.name → n.dep = d.dep → WF (ndsOf (L ++ [(n, a, ch)])) := fun n a ch h1 h2 h3 => by
      have e : ndsOf (L ++ [(n, a, ch)]) = st.1 ++ [n] := by
        rw [← e1]
        exact List.map_append
      rw [e]
      exact (bs n h1 h2 h3).wf
    have dr : d.name ≠ "root" := fun z => by
      obtain ⟨y, hy, ey, _⟩ := b.dep 0 _ b.root
      exact hn (by rw [z, ← ey]; exact List.mem_map.mpr ⟨y, hy, rfl⟩)
    have eL : L.length = st.1.length := by rw [← e1, List.length_map]
    have xd := b.len
    have dlt : x0c.1.dep < 8 := by omega
    refine sx_drop fun H1 y1 => ?_
    refine sE_meth (mt_insert c) hr (by decide) (ev_fld (ev_var 0 rfl) hr1 (cls_Reader c) (no_Reader_tree c) rfl) ht1 rfl (ea_cons (ev_var 8 rfl) (ea_cons (ev_lenL (free_len c) (ev_mrdL (mt_children c) hr (by decide) hT hxn trivial (ev_fld (ev_var 0 rfl) hr1 (cls_Reader c) (no_Reader_tree c) rfl) (ev_var 8 rfl)).nL) (ea_cons (ev_var 3 rfl) (ea_cons (ev_var 2 rfl) (ea_cons (ev_var 4 rfl) ea_nil))))) y1 fun vs H2 d2 p2 => ?_
    obtain ⟨_, _, rfl, rfl, _, _, rfl, rfl, _, _, rfl, rfl, _, _, rfl, rfl, _, _, rfl, rfl, rfl⟩ := p2
    have y2 := y1.trans d2
    have x2 := x0.trans y2
    refine ⟨t, dd, L, x0c, n0, by rw [len_of_sV], hB.up y2, wfL, hx0, kx, dlt, by rw [e1]; exact hn, by omega, rfl, rfl, rfl, fun a ch H3 fa fc hB3 e3 => ?_⟩
    have rF := rd_out (hB.up y2) (y2.get hr1)
    have pF := lst_out (hB.up y2) (y2.get hp) pn
    have hr3 := e3.get (y2.get hr1) rF
    have hp3 := e3.get (y2.get hp) pF
    have x3 := Exc.low x2 e3 fF
    have fa0 := x2.free fa
    have fc0 := x2.free fc
    have f3 : ∀ (n : Nd) (q : Addr), Fp t dd (L ++ [(n, a, ch)]) q → H0 q = none := fun n q f => by
      rcases fp_snoc f with z | z | z
      · exact fF q z
      · rw [z]; exact fa0
      · rw [z]; exact fc0
    have pn3 : ∀ (n : Nd), ∀ x ∈ L ++ [(n, a, ch)], x.2.2 ≠ p := fun n x hx z => by
      rcases List.mem_append.mp hx with hx | hx
      · exact pn x hx z
      · rw [List.mem_singleton.mp hx] at z
        have z : ch = p := z
        have w := y2.get hp
        rw [← z, fc] at w
        cases w
    obtain ⟨tx3, ht3⟩ := hB3.tr
    refine (show SX _ _ _ _ H3 from ?_) H3 (Z.Ex.refl H3)
    refine sx_drop fun H4 y4 => ?_
    refine sE_meth (mt_set_flag c) hr (by decide) (ev_fld (ev_var 0 rfl) hr3 (cls_Reader c) (no_Reader_tree c) rfl) ht3 rfl (ea_cons (ev_var 2 rfl) (ea_cons ev_str (ea_cons (ev_var 5 rfl) ea_nil))) y4 fun vs H5 d5 p5 => ?_
    obtain ⟨_, _, rfl, rfl, _, _, rfl, rfl, _, _, rfl, rfl, rfl⟩ := p5
    have y5 := y4.trans d5
    refine ⟨t, dd, L, n0, a, ch, true, d.vis, rfl, hB3.up y5, wfs n0 a ch rfl rfl rfl, dr, fun bb H6 hB6 e6 => ?_⟩
    have x5 := x3.trans y5
    have hr6 := e6.get (y5.get hr3) (rd_out (hB3.up y5) (y5.get hr3))
    have hp6 := e6.get (y5.get hp3) (lst_out (hB3.up y5) (y5.get hp3) (pn3 n0))
    have x6 := Exc.low x5 e6 (f3 n0)
    obtain ⟨tx6, ht6⟩ := hB6.tr
    let n1 : Nd := ⟨d.name, d.kind, d.label, d.vis, true, some x0c.1.name, d.dep⟩
    have hB6 : BuildAt K H6 t dd (L ++ [(n1, a, ch)]) := hB6
    refine (show SX _ _ _ _ H6 from ?_) H6 (Z.Ex.refl H6)
    refine sx_drop fun H7 y7 => ?_
    refine sE_meth (mt_set_flag c) hr (by decide) (ev_fld (ev_var 0 rfl) hr6 (cls_Reader c) (no_Reader_tree c) rfl) ht6 rfl (ea_cons (ev_var 2 rfl) (ea_cons ev_str (ea_cons (ev_var 6 rfl) ea_nil))) y7 fun vs H8 d8' p8 => ?_
    obtain ⟨_, _, rfl, rfl, _, _, rfl, rfl, _, _, rfl, rfl, rfl⟩ := p8
    have y8 := y7.trans d8'
    refine ⟨t, dd, L, n1, a, ch, false, d.en, rfl, hB6.up y8, wfs n1 a ch rfl rfl rfl, dr, fun bb2 H9 hB9 e9 => ?_⟩
    have x8 := x6.trans y8
    have hr9 := e9.get (y8.get hr6) (rd_out (hB6.up y8) (y8.get hr6))
    have hp9 := e9.get (y8.get hp6) (lst_out (hB6.up y8) (y8.get hp6) (pn3 n1))
    have x9 := Exc.low x8 e9 (f3 n1)
    let n2 : Nd := ⟨d.name, d.kind, d.label, d.vis, d.en, some x0c.1.name, d.dep⟩
    have hB9 : BuildAt K H9 t dd (L ++ [(n2, a, ch)]) := hB9
    refine (show SX _ _ _ _ H9 from ?_) H9 (Z.Ex.refl H9)
    have cv : cutV (sV st.2) none (some (d.dep : Int)) = sV (st.2.take d.dep) := by
      show ((sV st.2).drop 0).take (HT.sIx _ _ (some (d.dep : Int)) - 0) = _
      rw [HT.sIx_nat, List.drop_zero, Nat.sub_zero, hz, Nat.min_eq_left dl, ← List.map_take]
    have cl := List.length_take_le d.dep st.2
    have big : 100 ≤ sizeLine := by decide
    refine sx_fldN (ob := .lst (sV (st.2.take d.dep ++ [d.name]))) (nb := rfl) ((ev_cat ((ev_cut ((ev_fld (ev_var 0 rfl) hr9 (cls_Reader c) (no_Reader_path c) rfl).qL (SqL.of hp9)) eo_none (eo_some (ev_var 7 rfl))).nA) (ev_lst (vs := [.str d.name]) (ea_cons (ev_var 2 rfl) ea_nil) (by show 1 ≤ sizeLine; omega)).nA (by rw [cv, len_of_sV]; show _ + 1 ≤ _; omega)).to fun v H2 d2 h => ?_) (ev_var 0 rfl) hr9 (cls_Reader c) (no_Reader_path c) (show (2 : Nat) < 1000 by decide) fun p' fp' => ?_
    · rw [cv] at h
      obtain ⟨p', z, f, h⟩ := h
      refine ⟨p', z, f, ?_⟩
      rw [← sV_snoc]
      exact h
    have np : p' ≠ r := fun z => by
      rw [z, hr9] at fp'
      cases fp'
    refine sx_ret ev_bool fun v H2 d2 p2 => ?_
    have p2 : v = .bl true := p2
    rw [p2]
    have x10 : Z.Ex H0 (upd (upd H9 p' (.lst (sV (st.2.take d.dep ++ [d.name])))) r (.ins (He.ga K "Reader") rx (rdFs (.ref t) p'))) := (x9.mut (x9.free fp')).mut fr
    have nF9 := rd_out hB9 hr9
    have nP9 : ¬ Fp t dd (L ++ [(n2, a, ch)]) p' := fun f => hB9.known f fp'
    have hB10 : BuildAt K H2 t dd (L ++ [(n2, a, ch)]) := ((hB9.off nP9).off nF9).up d2
    have en : nxt st d = (st.1 ++ [n2], st.2.take d.dep ++ [d.name]) := by
      unfold nxt
      rw [hq2, ← ex]
    refine q H2 (x10.trans d2) ⟨fr, Or.inr ⟨rx, t, dd, L ++ [(n2, a, ch)], p', ?_, d2.get upd_same, ?_, hB10, ?_, f3 n2, ?_⟩⟩
    · rw [en, ← e1]
      exact List.map_append
    · rw [en]
      exact d2.get (by rw [upd_ne np, upd_same])
    · rw [en]
      exact bs n2 rfl rfl rfl
    · intro x hx z
      exact nP9 (Or.inr (Or.inr ⟨x, hx, Or.inr z.symm⟩))
/-! ### whole outlines -/
def rdg (rows : List Nd) : List Nd × List PySem.Str := rows.foldl nxt ([], [])
theorem rdg_snoc (rows : List Nd) (d : Nd) : rdg (rows ++ [d]) = nxt (rdg rows) d := by
  unfold rdg
  rw [List.foldl_append]
  rfl
theorem rdg_len (rows : List Nd) : (rdg rows).1.length = rows.length := by
  have key : ∀ (rows : List Nd) (s : List Nd × List PySem.Str), (rows.foldl nxt s).1.length = s.1.length + rows.length := by
    intro rows
    induction rows with
    | nil => intro s; rfl
    | cons d r ih =>
      intro s
      rw [List.foldl_cons, ih]
      show (s.1 ++ [_]).length + r.length = _
      rw [List.length_append, List.length_cons, List.length_cons, List.length_nil]
      omega
  have z := key rows ([], [])
  unfold rdg
  rw [z]
  exact Nat.zero_add _
structure Good (rows : List Nd) : Prop where
  ne : rows ≠ []
  len : rows.length ≤ 60
  ok : ∀ i d, rows[i]? = some d → okN (rdg (rows.take i)) d
theorem Good.built {rows : List Nd} (g : Good rows) {K : PySem.W.Frag} : ∀ n, n ≤ rows.length → n ≠ 0 → Built (rdg (rows.take n)).1 (rdg (rows.take n)).2 := by
  intro n
  induction n with
  | zero => intro _ h; exact absurd rfl h
  | succ n ih =>
    intro hn _
    have hd := List.getElem?_eq_getElem (show n < rows.length from hn)
    obtain ⟨_, o⟩ := g.ok n _ hd
    rw [take_snoc hd, rdg_snoc]
    rcases o with ⟨e, n1, n2, n3, n4, n5⟩ | ⟨z, d1, d8, dl, hnm, hk, hl⟩
    · rw [e, nxt_root n1 n2 n3 n4 n5]
      exact built_root _ rfl rfl rfl rfl
    · have n0 : n ≠ 0 := fun e => by
        rw [e] at z
        exact z rfl
      have b := ih (by omega) n0
      obtain ⟨q, hq, hq2⟩ := last_take d1 dl
      have e : rows[n].dep = (rows[n].dep - 1) + 1 := by omega
      unfold nxt
      rw [hq2]
      have z := b.snoc (d := { rows[n] with par := some q }) (e := rows[n].dep - 1) (p := q) e (by omega) hq rfl hnm
      rw [← e] at z
      exact z
section
variable {P : Program} {w : World} {K : PySem.W.Frag} {mg : PySem.Str → Option Value} {base : Heap}
theorem RS.up {H0 H H' : Hp} {r : Addr} {s : List Nd × List PySem.Str} (e : Z.Ex H H') (h : RS K H0 H r s) : RS K H0 H' r s := by
  obtain ⟨f, h⟩ := h
  refine ⟨f, ?_⟩
  rcases h with ⟨a, rx, p0, b⟩ | ⟨rx, t, dd, L, p, h1, h2, h3, h4, h5⟩
  · exact Or.inl ⟨a, rx, p0, e.get b⟩
  · exact Or.inr ⟨rx, t, dd, L, p, h1, e.get h2, e.get h3, h4.up e, h5⟩
theorem RS.ins {H0 H : Hp} {r : Addr} {s : List Nd × List PySem.Str} (h : RS K H0 H r s) : ∃ rx tv p, H r = some (.ins (He.ga K "Reader") rx (rdFs tv p)) := by
  obtain ⟨f, h⟩ := h
  rcases h with ⟨a, rx, p0, b⟩ | ⟨rx, t, dd, L, p, h1, h2, h3, h4, h5⟩
  · exact ⟨rx, _, _, b⟩
  · exact ⟨rx, _, _, h2⟩
def textOf (rows : List Nd) : PySem.Str := Txt.join (mk [10]) ((rows.map lineL).map mk)
def spParse (K : PySem.W.Frag) : Sp := fun vs H Q _ => ∃ rows, vs = [.str (textOf rows)] ∧ Good rows ∧ TabsOn K H ∧ (textOf rows).length ≤ 100000 ∧ ∀ t H2, Z.Ex H H2 → Tr K H2 t (rdg rows).1 → Q (.ref t) H2
theorem line_free (d : Nd) (ok : OkRow d) : 10 ∉ lineL d := by
  obtain ⟨k1, k2, _⟩ := kind_facts d.kind ok.kind
  obtain ⟨n1, n2, _⟩ := name_facts d.name ok.name
  obtain ⟨_, _, b3⟩ := label_facts d.label ok.label
  intro h
  unfold lineL tailL flagL at h
  rcases List.mem_append.mp h with h | h
  · have := List.eq_of_mem_replicate h
    omega
  · simp only [List.mem_append, List.mem_cons, List.not_mem_nil, or_false] at h
    rcases h with (((h | h) | h) | h) | ((h | h | h) | h)
    · exact k2 h
    · omega
    · exact n2 h
    · omega
    · omega
    · exact b3 h
    · omega
    · rcases h with h | h
      · cases d.vis <;> simp at h
      · cases d.en <;> simp at h
theorem fc_parse_outline (c : Says K mg base) : Cal P w K mg base "parse_outline" 13 ["text"] (spParse K) := by
  refine cal_of (fn_parse_outline c) (glo_parse_outline c) sc_parse_outline bi_parse_outline (fun vs H Q E ⟨rows, e, _⟩ => by rw [e]; rfl) ?_
  rintro cdv A outer s H vs Q E hr ⟨rows, rfl, g, hS, hz, q⟩
  have S := sc_parse_outline
  have big : 200000 ≤ sizeLine := by decide
  refine sx_asgE 1 fun H1 y1 => ?_
  refine sE_make0 (mk_Reader c) hr (by decide) fun r rx f1 f2 f3 => ?_
  refine ⟨r, rx, rfl, upd_same, fun p0 H3 f4 f5 y3 => ⟨rfl, ?_⟩⟩
  have x3 : Z.Ex H H3 := by
    rw [upd_comm f5, L2.upd_upd] at y3
    have z1 : Z.Ex H (upd H1 rx (.own r)) := y1.mut (y1.free f2)
    have z2 : Z.Ex H (upd (upd H1 rx (.own r)) r (.ins (He.ga K "Reader") rx (rdFs .non p0))) := z1.mut (y1.free f1)
    have z3 : (upd H1 rx (.own r)) p0 = none := by
      have z := f4
      rwa [upd_ne f5] at z
    exact (z2.mut (z1.free z3)).trans y3
  have hr3 : H3 r = some (.ins (He.ga K "Reader") rx (rdFs .non p0)) := y3.get upd_same
  have fr : H r = none := y1.free f1
  refine (show SX _ _ _ _ H3 from ?_) H3 (Z.Ex.refl H3)
  have hl : ∀ w ∈ rows.map lineL, 10 ∉ w := fun w hw => by
    obtain ⟨d, hd, rfl⟩ := List.mem_map.mp hw
    obtain ⟨i, hi⟩ := List.getElem?_of_mem hd
    exact line_free d (g.ok i d hi).1
  have nl : ("\n" : PySem.Str) = mk [10] := by decide +kernel
  refine sx_enum 2 3 (xs := sV ((rows.map lineL).map mk)) (free_enumerate c) (ev_bm PySem.F.plainAttrs_str PySem.F.slot_str_split PySem.F.type_str_split mt_split (ev_var 0 rfl) (args1 ev_str) (fun u H2 d2 p2 => by
    have p2 : u = .str _ := p2
    rw [p2]
    rfl) (fun u vs H2 d2 p2 p3 Q2 q2 => by
    have p2 : u = .str _ := p2
    rw [p2, p3.vals, nl]
    refine ⟨_, _, rfl, rfl, rfl, by omega, ?_⟩
    rw [show Txt.split (textOf rows) (mk [10]) = (rows.map lineL).map mk from split_lines _ (by simp [g.ne]) hl]
    exact q2.put (n := rfl) d2)) fun p fp => ?_
  have npr : r ≠ p := ne_of_none hr3 fp
  have H0p : H p = none := x3.free fp
  have x0 : Z.Ex (upd H p (.lst (sV ((rows.map lineL).map mk)))) (upd H3 p (.lst (sV ((rows.map lineL).map mk)))) := x3.both
  refine ⟨fun i σ B => B p = some (.lst (sV ((rows.map lineL).map mk))) ∧ Z.Ex (upd H p (.lst (sV ((rows.map lineL).map mk)))) B ∧ RS K (upd H p (.lst (sV ((rows.map lineL).map mk)))) B r (rdg (rows.take i)) ∧ ∃ v1 v2, σ = [some (.str (textOf rows)), some (.ref r), v1, v2],
    ⟨upd_same, x0, ⟨by rw [upd_ne npr]; exact fr, Or.inl ⟨rfl, rx, p0, by rw [upd_ne npr]; exact hr3⟩⟩, none, none, rfl⟩, fun i σ B z => z.1, ?_, ?_⟩
  · rintro i v σ B hi ⟨hp, xB, rs, v1, v2, rfl⟩
    obtain ⟨d, hd, rfl⟩ : ∃ d, rows[i]? = some d ∧ v = .str (mk (lineL d)) := by
      obtain ⟨x, rfl, hx⟩ := sV_at hi
      rw [List.getElem?_map, List.getElem?_map] at hx
      cases h : rows[i]? with
      | none =>
        rw [h] at hx
        cases hx
      | some d =>
        rw [h] at hx
        exact ⟨d, rfl, by rw [← Option.some.inj hx]⟩
    have okd := g.ok i d hd
    have hSB : TabsOn K B := (hS.up (Z.Ex.new (o := .lst (sV ((rows.map lineL).map mk))) H0p)).up xB
    obtain ⟨rx1, tv, pp, hrB⟩ := rs.ins
    refine sx_ifE fun H4 y4 => ?_
    refine sT_not (sE_meth (mt_read c) hr (by decide) (ev_var 1 rfl) hrB rfl (ea_cons (ev_call (S := newO B (.tup (infoV d))) (fc_info_of c) hr (by decide) (args1 (ev_var 3 rfl)) fun vs H5 d5 p5 Q5 q5 => ?_) ea_nil) y4 fun vs H5 d5 p5 => ?_)
    · rw [p5.vals]
      exact ⟨d, rfl, hSB.up d5, okd.1, q5.imp fun v H6 _ ⟨p, z, fr, h⟩ => ⟨p, z, d5.free fr, h⟩⟩
    · obtain ⟨_, _, rfl, ⟨ip, rfl, _, hip⟩, rfl⟩ := p5
      have y5 := y4.trans d5
      refine ⟨upd H p (.lst (sV ((rows.map lineL).map mk))), r, ip, d, rdg (rows.take i), rfl, trivial, hSB.up y5, xB.trans y5, rs.up y5, hip, okd, fun H6 x6 h6 => ⟨true, rfl, iteF ?_⟩⟩
      refine (show SX _ _ _ _ H6 from ?_) H6 (Z.Ex.refl H6)
      refine sx_nil fun H7 d7 => ?_
      refine (show SX _ _ _ _ H7 from ?_) H7 (Z.Ex.refl H7)
      refine sx_nil fun H8 d8 => ⟨H6, d7.trans d8, x6.get upd_same, x6, ?_, _, _, rfl⟩
      rw [take_snoc hd, rdg_snoc]
      exact h6
  · rintro σ B ⟨hp, xB, rs, v1, v2, rfl⟩
    rw [len_of_sV, List.length_map, List.length_map, List.take_length] at rs
    have x1 : Z.Ex H B := (Z.Ex.new (o := .lst (sV ((rows.map lineL).map mk))) H0p).trans xB
    obtain ⟨_, ⟨e, _⟩ | ⟨rx1, t, dd, L, pp, h1, h2, h3, h4, h5, _⟩⟩ := rs
    · have z := rdg_len rows
      rw [e] at z
      exact absurd (List.length_eq_zero_iff.mp z.symm) g.ne
    · refine sx_ret (ev_fld (ev_var 1 rfl) h2 (cls_Reader c) (no_Reader_tree c) rfl) fun v H2 d2 p2 => ?_
      have p2 : v = .ref t := p2
      rw [p2]
      have nd : ((ndsOf L).map (·.name)).Nodup := by rw [h1]; exact h5.wf.nd
      exact q t H2 (x1.trans d2) ⟨(hS.up x1).up d2, by rw [← h1]; exact (h4.tree nd).up d2, ⟨_, h5⟩, by rw [rdg_len]; exact g.len⟩
end
end
end K24
set_option Elab.async false
set_option linter.all false
set_option maxRecDepth 100000
set_option maxHeartbeats 4000000
/-! Announcements. -/
namespace Z
open PySem PySem.Spec PyProof.Rows L2
section
variable {X : Cx} {σ : L2.St} {B : Hp} {S Sa Sb : VS} {a b e : Expr} {es : List Expr} {Ss : List VS} {pos p p2 : Pos} {D : Ends} {rest : List Stmt}
theorem sA_cons {H : Hp} {Q : List V → Hp → Prop} (h : sE X e σ H fun v H2 => sA X es σ H2 fun vs H3 => Q (v :: vs) H3) (hs : starEach (e :: es) X.env = (false, eval e X.env) :: starEach es X.env := by rfl) : sA X (e :: es) σ H Q := fun pos pins s I => (pa_cons (pe_s e) (pa_s es) hs).run pos pins s σ H Q I h
/-- e.f, whatever e does -/
theorem sE_fld {H : Hp} {Q : VK} {f : Str} (h : sE X e σ H fun v H2 => ∃ p C dx fs u, v = .ref p ∧ H2 p = some (.ins C dx fs) ∧ Cls X.K C ∧ NoAttr X.K C f ∧ fs.lookup f = some u ∧ Q u H2) (hb : attributeBase e f X.env (eval e X.env) = eval e X.env := by rfl) : sE X (.Attribute e f pos) σ H Q := fun pins s I =>
  (pe_fld (pe_s e) hb).run pins s σ H Q I h
/-- xs.pop() -/
theorem sE_pop {H : Hp} {Q : VK} {l : Addr} {xs : List V} {y : V} {apos : Pos} (ho : Ev X a σ B (isV (.ref l))) (d : Ex B H) (hl : B l = some (.lst xs)) (hy : xs[xs.length - 1]? = some y) (q : ∀ H2, Ex H H2 → Q y (upd H2 l (.lst xs.dropLast)))
    (hbase : attributeBase a "pop" X.env (eval a X.env) = eval a X.env := by rfl) (hline : (apos.endLine == pos.line) = true := by rfl) : sE X (.Call (.Attribute a "pop" apos) [] [] pos) σ H Q := fun pins s I =>
  (pe_bm0 PySem.F.plainAttrs_list PySem.F.slot_list_pop PySem.F.type_list_pop mt_pop (pe_s a) hbase hline).run pins s σ H Q I (ho H d _ fun u H2 d2 p2 => by
    have p2 : u = .ref l := p2
    subst p2
    have h := (d.trans d2).get hl
    exact ⟨Or.inl ⟨rfl, xs, SqL.of h⟩, l, xs, y, rfl, rfl, h, hy, q H2 d2⟩)
/-- C(e, ..), whatever the arguments do -/
theorem sE_makeA {H : Hp} {Q : VK} {x : Str} {C : Addr} {j k : Nat} {ps : List Str} {sp : Sp} (F : Mak X.prog X.w X.K X.mg X.base x C k ps sp) (hr : Room j X.A) (hk : k + 1 ≤ j)
    (h : sA X (e :: es) σ H fun vs H2 => ∀ b dx, H2 b = none → H2 dx = none → dx ≠ b → sp (.ref b :: vs) (upd (upd H2 dx (.own b)) b (.ins C dx [])) (fun v H3 => v = .non ∧ Q (.ref b) H3) E0)
    (hg : Gl X x := by rfl) (hdb : (x == ("__debug__" : Str)) = false := by decide) (he : starEach (e :: es) X.env = (false, eval e X.env) :: starEach es X.env := by rfl) (hpl : (backTo pos (starEach es X.env)).any (·.1) = false := by rfl) :
    sE X (.Call (.Name x p) (e :: es) [] pos) σ H Q := by
  obtain ⟨f, fd, F1, F2, F3, F4⟩ := F.ex
  intro pins s I
  refine (pe_make (E := E0) F2 F1 (hr.mono hk) hg F3 F4 .nil pass0 (pa_s (e :: es)) hdb he hpl).run pins s σ H Q I ?_
  intro ps' pins' s' I'
  refine thn (h ps' pins' s' I') fun us s2 ⟨vs, H2, I2, r, q⟩ => ⟨vs, H2, I2, r, ?_⟩
  intro b dx n1 n2 n3
  rw [List.append_nil]
  exact q b dx n1 n2 n3
/-- an own class's instance -/
theorem ev_isOwn {C p0 dx : Addr} {fs : List (Str × V)} {e2 : Expr} (c : C8.InsC X.K C) (hm : X.mg "isinstance" = none) (ha : Ev X a σ B (isV (.ref p0))) (hp : B p0 = some (.ins C dx fs)) (hb : Ev X e2 σ B (isV (.ref C))) (hg : Gl X "isinstance" := by rfl)
    (hs : starEach [a, e2] X.env = (false, eval a X.env) :: starEach [e2] X.env := by rfl) (hs2 : starEach [e2] X.env = (false, eval e2 X.env) :: starEach [] X.env := by rfl) (hpl : (backTo pos (starEach [e2] X.env)).any (·.1) = false := by rfl) : Ev X (.Call (.Name "isinstance" p) [a, e2] [] pos) σ B (isV (.bl true)) :=
  ev_bfn (C8.call_isC c) hm PyProof.Rows.boot_isinstance (ea_cons ha (ea_cons hb ea_nil hs2) hs) (fun vs H d p2 Q q => by
    obtain ⟨v, r, rfl, rfl, w, r2, rfl, rfl, rfl⟩ := p2
    exact ⟨p0, dx, fs, rfl, d.get hp, ev_ret q⟩) hg (by decide) (by decide) hs hpl
/-- [e], e by a spec -/
def lst1S (B : Hp) (S : VS) : VS := ⟨fun H x => ∃ (p : Addr) (v : V), x = .ref p ∧ B p = none ∧ H p = some (.lst [v]) ∧ S.P H v, fun e ⟨p, v, h1, h2, h3, h4⟩ => ⟨p, v, h1, h2, e.get h3, S.mono e h4⟩⟩
theorem ev_lst1 (h : Ev X e σ B S) (hs : starEach [e] X.env = (false, eval e X.env) :: starEach [] X.env := by rfl) : Ev X (.List [e] pos) σ B (lst1S B S) :=
  ev_of (pe_lst (pa_s [e])) fun H x Q q => (ea_cons h ea_nil hs) H x _ fun ws H2 d p => by
    obtain ⟨v, r, rfl, hv, rfl⟩ := p
    exact ⟨by show 1 ≤ sizeLine; decide, fun p fp => q _ _ (d.trans (Ex.new fp)) ⟨p, v, rfl, (x.trans d).free fp, upd_same, S.mono (Ex.new fp) hv⟩⟩
/-- x + y, lists by specs -/
theorem ev_catS {S' : VS} (ha : Ev X a σ B Sa) (hb : Ev X b σ B Sb) (k : ∀ x y H, Ex B H → Sa.P H x → Sb.P H y → ∃ l m xs ys, x = .ref l ∧ y = .ref m ∧ H l = some (.lst xs) ∧ H m = some (.lst ys) ∧ xs.length + ys.length ≤ sizeLine ∧ ∀ p, H p = none → B p = none → S'.P (upd H p (.lst (xs ++ ys))) (.ref p)) : Ev X (.BinOp a .Add b pos) σ B S' :=
  ev_op op_cat ha hb fun x y H d p1 p2 Q q => by
    obtain ⟨l, m, xs, ys, e1, e2, h1, h2, hz, h⟩ := k x y H d p1 p2
    exact ⟨l, m, xs, ys, e1, e2, h1, h2, hz, fun p fp => q _ _ (Ex.new fp) (h p fp (d.free fp))⟩
end
end Z
namespace K24
open PySem PySem.Spec PyProof.Rows L2 Z
section
variable {P : Program} {w : World} {K : PySem.W.Frag} {mg : PySem.Str → Option Value} {base : Heap}
abbrev okS (xs : List PySem.Str) : Prop := ∀ x ∈ xs, PyData.canLay0 (.str x) = true
theorem shaped_names {xs : List PySem.Str} (h : okS xs) : SeqAt.shaped (.list (xs.map .str)) = true := by
  have c1 : ∀ xs : List PySem.Str, okS xs → PyData.canLayAll0 (xs.map .str) = true := by
    intro xs
    induction xs with
    | nil => intro _; rfl
    | cons a r ih =>
      intro h
      show (PyData.canLay0 (.str a) && PyData.canLayAll0 (r.map .str)) = true
      rw [h a List.mem_cons_self, ih fun x hx => h x (List.mem_cons_of_mem _ hx)]
      rfl
  unfold SeqAt.shaped
  have d1 : ∀ xs : List PySem.Str, PyData.depthAll (xs.map .str) = 0 := by
    intro xs
    induction xs with
    | nil => rfl
    | cons a r ih =>
      show max 0 (PyData.depthAll (r.map .str)) = 0
      rw [ih]
      rfl
  rw [show PyData.canLay0 (.list (xs.map .str)) = true from c1 xs h, show PyData.depth (.list (xs.map .str)) = PyData.depthAll (xs.map .str) + 1 from rfl, d1]
  rfl
theorem dp_names {K : PySem.W.Frag} {H : Hp} {p : Addr} {xs : List PySem.Str} (h : SqL K H p (sV xs)) : Dp K H (.ref p) (.list (xs.map .str)) := by
  refine .lst h ?_
  clear h
  induction xs with
  | nil => exact .nil
  | cons a r ih => exact .cons (.str a) ih
abbrev turnFs (b e s : V) : List (PySem.Str × V) := [("begin", b), ("end", e), ("steps", s)]
def TurnAt (K : PySem.W.Frag) (H : Hp) (a : Addr) : Prop := ∃ dx b e st bs es, H a = some (.ins (He.ga K "Turn") dx (turnFs (.ref b) (.ref e) st)) ∧ H b = some (.lst (sV bs)) ∧ H e = some (.lst (sV es)) ∧ okS bs ∧ okS es
theorem TurnAt.up {H H' : Hp} {a : Addr} (e : Z.Ex H H') (h : TurnAt K H a) : TurnAt K H' a := by
  obtain ⟨dx, b, e0, st, bs, es, h1, h2, h3, h4⟩ := h
  exact ⟨dx, b, e0, st, bs, es, e.get h1, e.get h2, e.get h3, h4⟩
def TurnsIn (K : PySem.W.Frag) (H : Hp) (ys : List V) : Prop := ∀ y ∈ ys, ∃ a, y = .ref a ∧ TurnAt K H a
theorem TurnsIn.up {H H' : Hp} {ys : List V} (e : Z.Ex H H') (h : TurnsIn K H ys) : TurnsIn K H' ys := fun y hy => by
  obtain ⟨a, z, t⟩ := h y hy
  exact ⟨a, z, t.up e⟩
def spTurnI (K : PySem.W.Frag) : Sp := fun vs H Q _ => ∃ b dx v1 v2 v3, vs = [.ref b, v1, v2, v3] ∧ H b = some (.ins (He.ga K "Turn") dx []) ∧ ∀ H2, Z.Ex (upd H b (.ins (He.ga K "Turn") dx (turnFs v1 v2 v3))) H2 → Q .non H2
theorem mk_Turn (c : Says K mg base) : Mak P w K mg base "Turn" (He.ga K "Turn") 1 ["self", "begin", "end", "steps"] (spTurnI K) := by
  refine mak_of (fn_Turn_init c) (glo_Turn c) (mkr_Turn c) sc_Turn_init bi_Turn_init (fun vs H Q E ⟨b, dx, v1, v2, v3, e, _⟩ => by rw [e]; rfl) ?_
  rintro cdv A outer s H vs Q E hr ⟨b, dx, v1, v2, v3, rfl, hb, q⟩
  refine sx_fld (ev_var 1 rfl) (ev_var 0 rfl) hb (cls_Turn c) (no_Turn_begin c) (show (0 : Nat) < 1000 by decide) ?_
  refine sx_fld (ev_var 2 rfl) (ev_var 0 rfl) upd_same (cls_Turn c) (no_Turn_end c) (show (1 : Nat) < 1000 by decide) ?_
  refine sx_fld (ev_var 3 rfl) (ev_var 0 rfl) upd_same (cls_Turn c) (no_Turn_steps c) (show (2 : Nat) < 1000 by decide) (sx_nil fun H2 d2 => ?_)
  rw [L2.upd_upd, L2.upd_upd] at d2
  exact q H2 d2
/-- .. its lists stood in H0 -/
def Turn2 (K : PySem.W.Frag) (H0 H : Hp) (a : Addr) : Prop := ∃ dx b e st bs es, H a = some (.ins (He.ga K "Turn") dx (turnFs (.ref b) (.ref e) st)) ∧ H0 b = some (.lst (sV bs)) ∧ H0 e = some (.lst (sV es)) ∧ okS bs ∧ okS es
theorem Turn2.at_ {H0 H : Hp} {a : Addr} (x : Z.Ex H0 H) (h : Turn2 K H0 H a) : TurnAt K H a := by
  obtain ⟨dx, b, e0, st, bs, es, h1, h2, h3⟩ := h
  exact ⟨dx, b, e0, st, bs, es, h1, x.get h2, x.get h3.1, h3.2⟩
theorem Turn2.of {H0 H : Hp} {a : Addr} (x : Z.Ex H0 H) (h : TurnAt K H0 a) : Turn2 K H0 H a := by
  obtain ⟨dx, b, e0, st, bs, es, h1, h2, h3⟩ := h
  exact ⟨dx, b, e0, st, bs, es, x.get h1, h2, h3⟩
theorem Turn2.up {H0 H H' : Hp} {a : Addr} (x : Z.Ex H H') (h : Turn2 K H0 H a) : Turn2 K H0 H' a := by
  obtain ⟨dx, b, e0, st, bs, es, h1, h2, h3⟩ := h
  exact ⟨dx, b, e0, st, bs, es, x.get h1, h2, h3⟩
theorem Turn2.off {H0 H : Hp} {a l : Addr} {xs ys : List V} (hl : H l = some (.lst xs)) (h : Turn2 K H0 H a) : Turn2 K H0 (upd H l (.lst ys)) a := by
  obtain ⟨dx, b, e0, st, bs, es, h1, h2, h3⟩ := h
  refine ⟨dx, b, e0, st, bs, es, ?_, h2, h3⟩
  rw [upd_ne fun z => by rw [z, hl] at h1; cases h1]
  exact h1
/-! what changes, by its kind -/
def notRef : V → Bool
  | .ref _ => false
  | _ => true
def muB : HO → Bool
  | .ins _ _ fs => match fs with
    | [] => true
    | (k, _) :: _ => (k == ("tree" : PySem.Str)) || (k == ("rows" : PySem.Str))
  | .dK kvs => kvs.all fun kv => notRef kv.2
  | _ => false
theorem dk_mu : ∀ {kvs : List (L2.Key × V)} {k : L2.Key} {a : Addr}, valV kvs k = some (.ref a) → muB (.dK kvs) = false
  | [], k, a, h => by cases h
  | (k2, v2) :: r, k, a, h => by
    show (notRef v2 && r.all fun kv => notRef kv.2) = false
    by_cases e1 : k2 = k
    · rw [valV_pos (p := (k2, v2)) e1] at h
      cases h
      rfl
    · rw [valV_neg (p := (k2, v2)) e1] at h
      have z : (r.all fun kv => notRef kv.2) = false := dk_mu h
      rw [Bool.and_eq_false_iff]
      exact Or.inr z
def Mus (F : Addr → Prop) (H : Hp) : Prop := ∀ q o, F q → H q = some o → muB o = true
theorem keepE {F : Addr → Prop} {H H2 : Hp} {a : Addr} {o : HO} (e : Exc F H H2) (m : Mus F H) (h : H a = some o) (n : muB o = false) (nt : notT o = true := by rfl) : H2 a = some o := e.get h (fun f => by
  have z := m a o f h
  rw [n] at z
  cases z) nt
theorem TurnAt.exc {F : Addr → Prop} {H H2 : Hp} {a : Addr} (e : Exc F H H2) (m : Mus F H) (h : TurnAt K H a) : TurnAt K H2 a := by
  obtain ⟨dx, b, e0, st, bs, es, h1, h2, h3, h4⟩ := h
  exact ⟨dx, b, e0, st, bs, es, keepE e m h1 rfl, keepE e m h2 rfl, keepE e m h3 rfl, h4⟩
theorem TurnsIn.exc {F : Addr → Prop} {H H2 : Hp} {ys : List V} (e : Exc F H H2) (m : Mus F H) (h : TurnsIn K H ys) : TurnsIn K H2 ys := fun y hy => by
  obtain ⟨a, z, t⟩ := h y hy
  exact ⟨a, z, t.exc e m⟩
theorem TabsOn.exc {F : Addr → Prop} {H H2 : Hp} (e : Exc F H H2) (m : Mus F H) (h : TabsOn K H) : TabsOn K H2 := fun p hp => by
  obtain ⟨ps, h1, t1⟩ := h p hp
  have nf : ¬ F (He.cT K p).2 := fun f => by
    have z := m _ _ f h1
    cases z
  rcases e _ _ h1 nf with h2 | ⟨ps', qs, eo, _, h2, t2⟩
  · exact ⟨ps, h2, t1⟩
  · exact ⟨qs, h2, t2⟩
theorem TreeAt.exc {F : Addr → Prop} {H H2 : Hp} {t : Addr} {T : List Nd} (e : Exc F H H2) (m : Mus F H) (ne : T ≠ []) (h : TreeAt K H t T) : TreeAt K H2 t T := by
  obtain ⟨dx, dd, kvs, h1, h2, h3, h4⟩ := h
  have mu : muB (.dK kvs) = false := by
    cases T with
    | nil => exact absurd rfl ne
    | cons d r =>
      obtain ⟨a, h5, _⟩ := h4 d List.mem_cons_self
      exact dk_mu h5
  refine ⟨dx, dd, kvs, keepE e m h1 rfl, keepE e m h2 mu, h3, fun n hn => ?_⟩
  obtain ⟨a, h5, nx, ch, h6, h7⟩ := h4 n hn
  exact ⟨a, h5, nx, ch, keepE e m h6 rfl, keepE e m h7 rfl⟩
theorem Tr.exc {F : Addr → Prop} {H H2 : Hp} {t : Addr} {T : List Nd} (e : Exc F H H2) (m : Mus F H) (h : Tr K H t T) : Tr K H2 t T := by
  refine ⟨h.tabs.exc e m, h.at_.exc e m ?_, h.bt, h.len⟩
  obtain ⟨path, b⟩ := h.bt
  obtain ⟨d, hd, _⟩ := b.dep 0 _ b.root
  exact fun z => by
    rw [z] at hd
    cases hd
/-- a new list of turns, of at most one -/
def turnsS (K : PySem.W.Frag) (B : Hp) : VS := ⟨fun H x => ∃ (p : Addr) (ys : List V), x = .ref p ∧ B p = none ∧ H p = some (.lst ys) ∧ ys.length ≤ 1 ∧ TurnsIn K H ys, fun e ⟨p, ys, h1, h2, h3, h4, h5⟩ => ⟨p, ys, h1, h2, e.get h3, h4, h5.up e⟩⟩
def spMerged (K : PySem.W.Frag) : Sp := fun vs H Q _ => ∃ r xs, vs = [.ref r] ∧ H r = some (.lst xs) ∧ TurnsIn K H xs ∧ Ret (turnsS K H) H Q
theorem fc_merged (c : Says K mg base) : Cal P w K mg base "merged" 3 ["rows"] (spMerged K) := by
  refine cal_of (fn_merged c) (glo_merged c) sc_merged bi_merged (fun vs H Q E ⟨r, xs, e, _⟩ => by rw [e]; rfl) ?_
  rintro cdv A outer s H vs Q E hr ⟨r, xs, rfl, hx, ht, q⟩
  have S := sc_merged
  refine sx_asgN 1 (ev_lst (vs := []) ea_nil (Nat.zero_le _)) fun l fl => ?_
  refine sx_forAt 2 (p := r) (xs := xs) (ev_var 0 rfl) (fun i σ B => Z.Ex H B ∧ (∃ v, σ = [some (.ref r), some (.ref l), v]) ∧ ∃ ys, B l = some (.lst ys) ∧ ys.length ≤ 1 ∧ ∀ y ∈ ys, ∃ a, y = .ref a ∧ Turn2 K H B a) ⟨Z.Ex.new fl, ⟨none, rfl⟩, [], upd_same, Nat.zero_le _, fun y hy => by cases hy⟩ (fun i σ B z => SqL.of (z.1.get hx)) ?_ ?_
  · rintro i v σ B hi ⟨x1, ⟨v0, rfl⟩, ys, hl, l1, hys⟩
    obtain ⟨a, rfl, hta⟩ := ht v (List.mem_of_getElem? hi)
    have hta := Turn2.of x1 hta
    obtain ⟨dx, b, e0, tsv, bs, es, h1, h2, h3, h4, h5⟩ := id hta
    match ys, l1, hl, hys with
    | [], _, hl, hys =>
      refine sx_no (EvT.to (ew_and (et_val (ev_isOwn (ins_Turn c) (free_isinstance c) (ev_var 2 rfl) h1 (ev_gref (glo_Turn c)))) fun _ => ew_and (w := true) (et_list ((ev_var 1 rfl).qL (SqL.of hl))) fun z => by cases z).t rfl) ?_
      refine sx_app (ev_var 1 rfl) (ev_var 2 rfl) hl (by decide) (sx_nil fun H2 d2 => ⟨_, d2, x1.mut fl, ⟨_, rfl⟩, [.ref a], upd_same, Nat.le_refl _, ?_⟩)
      intro y hy
      rw [List.mem_singleton.mp hy]
      exact ⟨a, rfl, hta.off hl⟩
    | [y], _, hl, hys =>
      obtain ⟨a0, rfl, ht0⟩ := hys y (List.mem_singleton.mpr rfl)
      obtain ⟨dx0, b0, e1, st0, bs0, es0, k1, k2, k3, k4, k5⟩ := id ht0
      refine sx_yes (EvT.to (ew_and (et_val (ev_isOwn (ins_Turn c) (free_isinstance c) (ev_var 2 rfl) h1 (ev_gref (glo_Turn c)))) fun _ => ew_and (w := true) (et_list ((ev_var 1 rfl).qL (SqL.of hl))) fun z => ew_and1 (et_val (ev_isOwn (ins_Turn c) (free_isinstance c) (ev_ixL (v := .ref a0) ((ev_var 1 rfl).qL (SqL.of hl)) ev_negc (atI_last [] (V.ref a0))) k1 (ev_gref (glo_Turn c))))).t rfl) ?_
      refine sx_asgE 2 fun H1 y1 => ?_
      have hl2 : (upd B l (.lst [])) l = some (.lst []) := upd_same
      have hta2 : Turn2 K H (upd B l (.lst [])) a := hta.off hl
      have ht02 : Turn2 K H (upd B l (.lst [])) a0 := ht0.off hl
      have x2 : Z.Ex H (upd B l (.lst [])) := x1.mut fl
      have g1 : (upd B l (.lst [])) a = some (.ins (He.ga K "Turn") dx (turnFs (.ref b) (.ref e0) tsv)) := by
        rw [upd_ne fun z => by rw [z, hl] at h1; cases h1]
        exact h1
      have g2 : (upd B l (.lst [])) a0 = some (.ins (He.ga K "Turn") dx0 (turnFs (.ref b0) (.ref e1) st0)) := by
        rw [upd_ne fun z => by rw [z, hl] at k1; cases k1]
        exact k1
      refine sE_makeA (mk_Turn c) hr (by decide) (sA_cons (sE_fld (sE_pop (ev_var 1 rfl) y1 hl rfl fun H2 y2 => ?_)))
      have y3 : Z.Ex (upd B l (.lst [])) (upd H2 l (.lst [])) := (y1.trans y2).both
      refine ⟨a0, _, dx0, _, _, rfl, y3.get g2, cls_Turn c, no_Turn_begin c, rfl, ?_⟩
      refine (ea_cons (ev_fld (ev_var 2 rfl) g1 (cls_Turn c) (no_Turn_end c) rfl) (ea_cons (ev_fld (ev_var 2 rfl) g1 (cls_Turn c) (no_Turn_steps c) rfl) ea_nil) : EvA _ _ _ (upd B l (.lst [])) [isV (.ref e0), isV tsv]) _ y3 _ fun vs H3 d3 p3 => ?_
      obtain ⟨v1, _, rfl, hv1, v2, _, rfl, hv2, rfl⟩ := p3
      have hv1 : V.ref e0 = v1 := Eq.symm hv1
      have hv2 : tsv = v2 := Eq.symm hv2
      subst hv1 hv2
      intro t dt n1 n2 n3
      refine ⟨t, dt, _, _, _, rfl, upd_same, fun H4 y4 => ⟨rfl, ?_⟩⟩
      rw [L2.upd_upd] at y4
      have y5 : Z.Ex (upd B l (.lst [])) H4 := (y3.trans d3).trans (((Z.Ex.new n2).mut n1).trans y4)
      have ht4 : H4 t = some (.ins (He.ga K "Turn") dt (turnFs (.ref b0) (.ref e0) tsv)) := y4.get upd_same
      have hl4 := y5.get hl2
      refine (show SX _ _ _ _ H4 from ?_) H4 (Z.Ex.refl H4)
      have x4 := x2.trans y5
      refine sx_if (v := PyData.eqv (.list (bs0.map .str)) (.list (es.map .str))) (et_cmp (op_eqD hr.units) (ev_fld (ev_var 2 rfl) ht4 (cls_Turn c) (no_Turn_begin c) rfl) (ev_fld (ev_var 2 rfl) ht4 (cls_Turn c) (no_Turn_end c) rfl) ?_) (fun hv => ?_) (fun hv => ?_)
      · rintro x y H5 d5 p1 p2 Q2 q2
        have p1 : x = .ref b0 := p1
        have p2 : y = .ref e0 := p2
        subst p1 p2
        exact ⟨_, _, dp_names (SqL.of ((x4.trans d5).get k2)), dp_names (SqL.of ((x4.trans d5).get h3)), shaped_names k4, shaped_names h5, ev_ret q2⟩
      · refine sx_cont fun H5 d5 => ⟨H4, d5, x4, ⟨_, rfl⟩, [], hl4, Nat.zero_le _, fun y hy => by cases hy⟩
      · refine sx_skip (sx_skip ?_)
        refine sx_app (ev_var 1 rfl) (ev_var 2 rfl) hl4 (by decide) (sx_nil fun H5 d5 => ⟨_, d5, x4.mut fl, ⟨_, rfl⟩, [.ref t], upd_same, Nat.le_refl _, ?_⟩)
        intro y hy
        rw [List.mem_singleton.mp hy]
        exact ⟨t, rfl, Turn2.off hl4 ⟨dt, b0, e0, tsv, bs0, es, ht4, k2, h3, k4, h5⟩⟩
    | _ :: _ :: _, l1, _, _ => exact absurd l1 (by simp)
  · rintro σ B ⟨x1, ⟨v0, rfl⟩, ys, hl, l1, hys⟩
    exact sx_ret (ev_var 1 rfl) fun v H2 d2 p2 => q v H2 (x1.trans d2) ⟨l, ys, p2, fl, d2.get hl, l1, fun y hy => by
      obtain ⟨a, z, t⟩ := hys y hy
      exact ⟨a, z, (t.up d2).at_ (x1.trans d2)⟩⟩
/-! ### the queue -/
abbrev annFs (r l : Addr) : List (PySem.Str × V) := [("rows", .ref r), ("last", .ref l)]
def AnnAt (K : PySem.W.Frag) (H : Hp) (an : Addr) : Prop := ∃ ax r l ys last, H an = some (.ins (He.ga K "Announcements") ax (annFs r l)) ∧ H r = some (.lst ys) ∧ ys.length ≤ 1 ∧ TurnsIn K H ys ∧ H l = some (.lst (sV last)) ∧ okS last
theorem AnnAt.up {H H' : Hp} {an : Addr} (e : Z.Ex H H') (h : AnnAt K H an) : AnnAt K H' an := by
  obtain ⟨ax, r, l, ys, last, h1, h2, h3, h4, h5, h6⟩ := h
  exact ⟨ax, r, l, ys, last, e.get h1, e.get h2, h3, h4.up e, e.get h5, h6⟩
def spAnnI (K : PySem.W.Frag) : Sp := fun vs H Q _ => ∃ b dx, vs = [.ref b] ∧ H b = some (.ins (He.ga K "Announcements") dx []) ∧ ∀ H2, AnnAt K H2 b → Exc (fun q => q = b) H H2 → Q .non H2
theorem mk_Announcements (c : Says K mg base) : Mak P w K mg base "Announcements" (He.ga K "Announcements") 1 ["self"] (spAnnI K) := by
  refine mak_of (fn_Announcements_init c) (glo_Announcements c) (mkr_Announcements c) sc_Announcements_init bi_Announcements_init (fun vs H Q E ⟨b, dx, e, _⟩ => by rw [e]; rfl) ?_
  rintro cdv A outer s H vs Q E hr ⟨b, dx, rfl, hb, q⟩
  refine sx_fldN (ev_lst (vs := []) ea_nil (Nat.zero_le _)) (ev_var 0 rfl) hb (cls_Announcements c) (no_Announcements_rows c) (show (0 : Nat) < 1000 by decide) fun r f1 => ?_
  have n1 : r ≠ b := ne_of_none hb f1 |> Ne.symm
  refine sx_fldN (ev_lst (vs := []) ea_nil (Nat.zero_le _)) (ev_var 0 rfl) upd_same (cls_Announcements c) (no_Announcements_last c) (show (1 : Nat) < 1000 by decide) fun l f2 => sx_nil fun H2 d2 => ?_
  have n2 : l ≠ b := fun z => by
    rw [z, upd_same] at f2
    cases f2
  have n3 : r ≠ l := fun z => by
    rw [← z, upd_ne n1, upd_same] at f2
    cases f2
  refine q H2 ⟨dx, r, l, [], [], d2.get upd_same, d2.get (by rw [upd_ne n1, upd_ne n3, upd_ne n1, upd_same]), Nat.zero_le _, fun y hy => (by cases hy), d2.get (by rw [upd_ne n2, upd_same]; rfl), fun x hx => by cases hx⟩ ?_
  exact ((((Z.Ex.new f1).exc.put (F := fun q => q = b) rfl).trans (Z.Ex.new f2).exc).put rfl).trans d2.exc
def turnS (K : PySem.W.Frag) : VS := ⟨fun H x => ∃ a, x = .ref a ∧ TurnAt K H a, fun e ⟨a, h1, h2⟩ => ⟨a, h1, h2.up e⟩⟩
/-- a new list of turns -/
def turnsL (K : PySem.W.Frag) : VS := ⟨fun H x => ∃ (p : Addr) (xs : List V), x = .ref p ∧ H p = some (.lst xs) ∧ TurnsIn K H xs, fun e ⟨p, xs, h1, h2, h3⟩ => ⟨p, xs, h1, e.get h2, h3.up e⟩⟩
def spTell (K : PySem.W.Frag) : Sp := fun vs H Q _ => ∃ an nm sv names, vs = [.ref an, .ref nm, sv] ∧ AnnAt K H an ∧ H nm = some (.lst (sV names)) ∧ okS names ∧ ∀ H2, AnnAt K H2 an → Exc (fun q => q = an) H H2 → Q .non H2
theorem mt_tell (c : Says K mg base) : Mtd P w K mg base (He.ga K "Announcements") "tell" 4 ["self", "names", "steps"] (spTell K) := by
  refine mtd_of (fn_Announcements_tell c) (cls_Announcements c) (me_Announcements_tell c) sc_Announcements_tell bi_Announcements_tell (fun vs H Q E ⟨_, _, _, _, e, _⟩ => by rw [e]; rfl) ?_
  rintro cdv A outer s H vs Q E hr ⟨an, nm, sv, names, rfl, hA, hn, okn, q⟩
  obtain ⟨ax, r, l, ys, last, h1, h2, h3, h4, h5, h6⟩ := id hA
  refine sx_if (v := !PyData.eqv (.list (names.map .str)) (.list (last.map .str))) (et_cmp (op_neD hr.units) (ev_var 1 rfl) (ev_fld (ev_var 0 rfl) h1 (cls_Announcements c) (no_Announcements_last c) rfl) ?_) (fun hv => ?_) (fun hv => sx_skip (sx_nil fun H2 d2 => q H2 (hA.up d2) d2.exc))
  · rintro x y H5 d5 p1 p2 Q2 q2
    have p1 : x = .ref nm := p1
    have p2 : y = .ref l := p2
    subst p1 p2
    exact ⟨_, _, dp_names (SqL.of (d5.get hn)), dp_names (SqL.of (d5.get h5)), shaped_names okn, shaped_names h6, ev_ret q2⟩
  · refine sx_fldS (S := turnsS K H) (ev_call (fc_merged c) hr (by decide) (ea_cons (ev_catS (S' := turnsL K) (ev_fld (ev_var 0 rfl) h1 (cls_Announcements c) (no_Announcements_rows c) rfl) (ev_lst1 (S := turnS K) (ev_make (mk_Turn c) hr (by decide) (ea_cons (ev_fld (ev_var 0 rfl) h1 (cls_Announcements c) (no_Announcements_last c) rfl) (ea_cons (ev_list (free_list c) ((ev_var 1 rfl).qL (SqL.of hn))) (ea_cons (ev_var 2 rfl) ea_nil))) fun vs H2 d2 p2 b dx n1 n2 n3 Q2 q2 => ?_)) ?_) ea_nil) fun vs H2 d2 p2 Q2 q2 => ?_) (ev_var 0 rfl) h1 (cls_Announcements c) (no_Announcements_rows c) (show (2 : Nat) < 1000 by decide) fun v B' x1 ⟨rw2, ys2, hv, f1, g1, g2, g3⟩ => ?_
    · obtain ⟨_, _, rfl, rfl, _, _, rfl, ⟨e2, rfl, _, he2⟩, _, _, rfl, rfl, rfl⟩ := p2
      refine ⟨b, dx, _, _, _, rfl, upd_same, fun H3 d3 => ⟨rfl, ?_⟩⟩
      rw [L2.upd_upd] at d3
      have y1 : Z.Ex H2 H3 := ((Z.Ex.new n2).mut n1).trans d3
      exact q2 _ H3 y1 ⟨b, rfl, dx, l, e2, _, last, names, d3.get upd_same, (d2.trans y1).get h5, y1.get he2, h6, okn⟩
    · rintro x y H2 d2 p1 ⟨p, v, rfl, _, hp, ⟨a, rfl, ta⟩⟩
      have p1 : x = .ref r := p1
      refine ⟨r, p, ys, [.ref a], p1, rfl, d2.get h2, hp, ?_, fun p2 f2 _ => ⟨p2, ys ++ [.ref a], rfl, upd_same, fun y hy => ?_⟩⟩
      · have : 100 ≤ sizeLine := by decide
        show _ + 1 ≤ _
        omega
      · have y2 : Z.Ex H2 (upd H2 p2 (.lst (ys ++ [.ref a]))) := Z.Ex.new f2
        rcases List.mem_append.mp hy with hy | hy
        · exact (h4.up (d2.trans y2)) y hy
        · rw [List.mem_singleton.mp hy]
          exact ⟨a, rfl, ta.up y2⟩
    · obtain ⟨_, _, rfl, ⟨p, xs, rfl, hp, ht⟩, rfl⟩ := p2
      exact ⟨p, xs, rfl, hp, ht, q2.imp fun v H3 _ ⟨p, ys, k1, k2, k3⟩ => ⟨p, ys, k1, d2.free k2, k3⟩⟩
    subst hv
    have fl : Exc (fun q => q = an) H (upd B' an (.ins (He.ga K "Announcements") ax (putF "rows" (.ref rw2) (annFs r l)))) := x1.exc.put rfl
    have na : ∀ {p : Addr} {xs : List V}, B' p = some (.lst xs) → p ≠ an := fun h z => by
      rw [z, x1.get h1] at h
      cases h
    have hn2 := x1.get hn
    refine sx_fldN (ob := .lst (sV names)) (nb := rfl) (ev_list (free_list c) ((ev_var 1 rfl).qL (SqL.of (by rw [upd_ne (na hn2)]; exact hn2)))) (ev_var 0 rfl) upd_same (cls_Announcements c) (no_Announcements_last c) (show (2 : Nat) < 1000 by decide) fun l2 f2 => sx_skip (sx_nil fun H2 d2 => ?_)
    have n2 : l2 ≠ an := fun z => by
      rw [z, upd_same] at f2
      cases f2
    have n3 : rw2 ≠ l2 := fun z => by
      rw [← z, upd_ne (na g1), g1] at f2
      cases f2
    have m1 : Mus (fun q => q = an) B' := fun q o hq ho => by
      rw [hq, x1.get h1] at ho
      cases ho
      rfl
    have e2 : Exc (fun q => q = an) B' H2 := ((((Z.Ex.refl B').exc.put (F := fun q => q = an) rfl).trans (Z.Ex.new f2).exc).put rfl).trans d2.exc
    refine q H2 ⟨ax, rw2, l2, ys2, names, d2.get upd_same, keepE e2 m1 g1 rfl, g2, g3.exc e2 m1, d2.get (by rw [upd_ne n2, upd_same]), okn⟩ ?_
    exact x1.exc.trans e2
end
end K24
set_option Elab.async false
set_option linter.all false
set_option maxRecDepth 100000
set_option maxHeartbeats 4000000
/-! Layers. -/
namespace Z
open PySem PySem.Spec PyProof.Rows L2
theorem Exc.mut {F : Addr → Prop} {H B : Hp} {p : Addr} {o : HO} (e : Exc F H B) (f : H p = none) : Exc F H (upd B p o) := fun a u h n => by
  rw [upd_ne (ne_of_none h f)]
  exact e a u h n
section
variable {X : Cx} {σ : L2.St} {B : Hp} {pos : Pos}
/-- {} -/
theorem ev_disp0 : Ev X (.Dict [] [] pos) σ B (newO B (.dK [])) := ev_of pe_dnewK fun H d Q q => q.put d
end
end Z
namespace K24
open PySem PySem.Spec PyProof.Rows L2 Z
/-- the addresses of a manager's objects -/
structure Ad where
  m : Addr
  t : Addr
  ly : Addr
  sk : Addr
  op : Addr
  cu : Addr
  ro : Addr
  an : Addr
abbrev layFs (A : Ad) : List (PySem.Str × V) := [("tree", .ref A.t), ("stack", .ref A.sk), ("openings", .ref A.op), ("opened", .int 0), ("current", .ref A.cu), ("roving", .ref A.ro)]
section
variable {P : Program} {w : World} {K : PySem.W.Frag} {mg : PySem.Str → Option Value} {base : Heap}
theorem sub_len {α : Type} [DecidableEq α] : ∀ {l1 l2 : List α}, l1.Nodup → (∀ a ∈ l1, a ∈ l2) → l1.length ≤ l2.length
  | [], _, _, _ => Nat.zero_le _
  | a :: r, l2, nd, h => by
    have nd2 := List.nodup_cons.mp nd
    have h1 := h a List.mem_cons_self
    have ih := sub_len (l1 := r) (l2 := l2.erase a) nd2.2 fun b hb => (List.mem_erase_of_ne (fun e => nd2.1 (by rw [← e]; exact hb))).mpr (h b (List.mem_cons_of_mem _ hb))
    rw [List.length_erase_of_mem h1] at ih
    have := List.length_pos_of_mem h1
    rw [List.length_cons]
    omega
/-- the keys: names of nodes, each once -/
def Keyed (T : List Nd) (rov : List (L2.Key × V)) : Prop := (rov.map (·.1)).Nodup ∧ ∀ k ∈ rov.map (·.1), k ∈ T.map (fun d => (Sum.inr d.name : L2.Key))
theorem Keyed.len {T : List Nd} {rov : List (L2.Key × V)} (h : Keyed T rov) : rov.length ≤ T.length := by
  have z := sub_len h.1 h.2
  rw [List.length_map, List.length_map] at z
  exact z
theorem Keyed.put {T : List Nd} {rov : List (L2.Key × V)} {d : Nd} {v : V} (h : Keyed T rov) (hd : d ∈ T) : Keyed T (putK rov (Sum.inr d.name : L2.Key) v) := by
  have kk : ∀ (f : L2.Key × V → L2.Key × V), (∀ p, (f p).1 = p.1) → (rov.map f).map (·.1) = rov.map (·.1) := fun f hf => by
    rw [List.map_map]
    exact List.map_congr_left fun p _ => hf p
  unfold putK
  split
  · have e := kk (fun kv => if kv.1 = (Sum.inr d.name : L2.Key) then (kv.1, v) else kv) fun p => by
      split <;> rfl
    unfold Keyed
    rw [e]
    exact h
  · rename_i hn
    have hn2 : (Sum.inr d.name : L2.Key) ∉ rov.map (·.1) := fun z => hn (by
      obtain ⟨p, hp, e⟩ := List.mem_map.mp z
      exact List.any_eq_true.mpr ⟨p, hp, decide_eq_true e⟩)
    unfold Keyed
    rw [List.map_append]
    refine ⟨List.nodup_append.mpr ⟨h.1, by simp, fun a ha b hb e => ?_⟩, fun k hk => ?_⟩
    · rw [List.mem_singleton.mp hb] at e
      rw [e] at ha
      exact hn2 ha
    · rcases List.mem_append.mp hk with z | z
      · exact h.2 k z
      · rw [List.mem_singleton.mp z]
        exact List.mem_map.mpr ⟨d, hd, rfl⟩
structure LayAt (K : PySem.W.Frag) (H : Hp) (A : Ad) (T : List Nd) (cur : Option PySem.Str) (rov : List (L2.Key × V)) : Prop where
  ll : ∃ lx, H A.ly = some (.ins (He.ga K "Layers") lx (layFs A))
  sk : H A.sk = some (.lst [.str "root"])
  cu : H A.cu = some (.dK [((Sum.inr "root" : L2.Key), oV cur)])
  ro : H A.ro = some (.dK rov)
  ne : A.cu ≠ A.ro
  tr : Tr K H A.t T
  ci : ∀ n, cur = some n → ∃ d ∈ T, d.name = n
  rm : muB (.dK rov) = true
  rl : Keyed T rov
theorem LayAt.up {H H' : Hp} {A : Ad} {T : List Nd} {cur : Option PySem.Str} {rov : List (L2.Key × V)} (e : Z.Ex H H') (h : LayAt K H A T cur rov) : LayAt K H' A T cur rov := by
  obtain ⟨lx, h1⟩ := h.ll
  exact ⟨⟨lx, e.get h1⟩, e.get h.sk, e.get h.cu, e.get h.ro, h.ne, h.tr.up e, h.ci, h.rm, h.rl⟩
def spFirst (K : PySem.W.Frag) : Sp := fun vs H Q _ => ∃ r xs, vs = [.ref r] ∧ H r = some (.lst (sV xs)) ∧ Ret (isV (oV xs.head?)) H Q
theorem fc_first_of (c : Says K mg base) : Cal P w K mg base "first_of" 1 ["row"] (spFirst K) := by
  refine cal_of (fn_first_of c) (glo_first_of c) sc_first_of bi_first_of (fun vs H Q E ⟨r, xs, e, _⟩ => by rw [e]; rfl) ?_
  rintro cdv A outer s H vs Q E hr ⟨r, xs, rfl, hx, q⟩
  cases xs with
  | nil => exact sx_ret (ev_if (et_list ((ev_var 0 rfl).qL (SqL.of hx))) (fun z => by cases z) fun _ => ev_none) q
  | cons a r => exact sx_ret (ev_if (et_list ((ev_var 0 rfl).qL (SqL.of hx))) (fun _ => ev_ixL ((ev_var 0 rfl).qL (SqL.of hx)) ev_int (atI_nat (j := 0) rfl)) fun z => by cases z) q
def rovI (T : List Nd) (cs : List PySem.Str) : List (L2.Key × V) := cs.foldl (fun kvs x => putK kvs (Sum.inr x : L2.Key) (oV (membs T x).head?)) []
theorem rovI_snoc (T : List Nd) (cs : List PySem.Str) (x : PySem.Str) : rovI T (cs ++ [x]) = putK (rovI T cs) (Sum.inr x : L2.Key) (oV (membs T x).head?) := by
  unfold rovI
  rw [List.foldl_append]
  rfl
theorem oV_notRef (o : Option PySem.Str) : notRef (oV o) = true := by cases o <;> rfl
theorem mu_put {kvs : List (L2.Key × V)} {k : L2.Key} {v : V} (h : muB (.dK kvs) = true) (hv : notRef v = true) : muB (.dK (putK kvs k v)) = true := by
  have h : (kvs.all fun kv => notRef kv.2) = true := h
  show ((putK kvs k v).all fun kv => notRef kv.2) = true
  rw [List.all_eq_true] at h ⊢
  intro p hp
  unfold putK at hp
  split at hp
  · obtain ⟨q, hq, e⟩ := List.mem_map.mp hp
    rw [← e]
    split
    · exact hv
    · exact h q hq
  · rcases List.mem_append.mp hp with z | z
    · exact h p z
    · rw [List.mem_singleton.mp z]
      exact hv
theorem outs_in {T : List Nd} {x : PySem.Str} (h : x ∈ outsOf T) : ∃ d ∈ T, d.name = x := by
  obtain ⟨d, hd, e⟩ := List.mem_map.mp (List.mem_filter.mp h).1
  exact ⟨d, hd, e⟩
theorem LayAt.rove {H : Hp} {A : Ad} {T : List Nd} {cur : Option PySem.Str} {rov : List (L2.Key × V)} {d : Nd} {v : V} (h : LayAt K H A T cur rov) (hd : d ∈ T) (hv : notRef v = true) : LayAt K (upd H A.ro (.dK (putK rov (Sum.inr d.name : L2.Key) v))) A T cur (putK rov (Sum.inr d.name : L2.Key) v) := by
  have e : Exc (fun q => q = A.ro) H (upd H A.ro (.dK (putK rov (Sum.inr d.name : L2.Key) v))) := (Z.Ex.refl H).exc.put rfl
  have m : Mus (fun q => q = A.ro) H := fun q o hq ho => by
    rw [hq, h.ro] at ho
    cases ho
    exact h.rm
  obtain ⟨lx, h1⟩ := h.ll
  refine ⟨⟨lx, ?_⟩, keepE e m h.sk rfl, ?_, upd_same, h.ne, h.tr.exc e m, h.ci, mu_put h.rm hv, h.rl.put hd⟩
  · rw [upd_ne fun z => by rw [z, h.ro] at h1; cases h1]
    exact h1
  · rw [upd_ne h.ne]
    exact h.cu
def spLayI (K : PySem.W.Frag) : Sp := fun vs H Q _ => ∃ b dx t T, vs = [.ref b, .ref t] ∧ H b = some (.ins (He.ga K "Layers") dx []) ∧ Tr K H t T ∧
  ∀ A H2, A.ly = b → A.t = t → LayAt K H2 A T (itemsOf T "root").head? (rovI T (outsOf T)) → H A.cu = none → H A.ro = none → Exc (fun q => q = b) H H2 → Q .non H2
theorem mk_Layers (c : Says K mg base) : Mak P w K mg base "Layers" (He.ga K "Layers") 13 ["self", "tree"] (spLayI K) := by
  refine mak_of (fn_Layers_init c) (glo_Layers c) (mkr_Layers c) sc_Layers_init bi_Layers_init (fun vs H Q E ⟨_, _, _, _, e, _⟩ => by rw [e]; rfl) ?_
  rintro cdv A outer s H vs Q E hr ⟨b, dx, t, T, rfl, hb, hT, q⟩
  have S := sc_Layers_init
  refine sx_fld (ev_var 1 rfl) (ev_var 0 rfl) hb (cls_Layers c) (no_Layers_tree c) (show (0 : Nat) < 1000 by decide) ?_
  refine sx_fldN (ob := .lst [.str "root"]) (nb := rfl) (ev_lst (vs := [.str "root"]) (ea_cons (ev_gstr (str_ROOT_layers c)) ea_nil) (by show 1 ≤ sizeLine; decide)) (ev_var 0 rfl) upd_same (cls_Layers c) (no_Layers_stack c) (show (1 : Nat) < 1000 by decide) fun sk f1 => ?_
  have n1 : sk ≠ b := fun z => by rw [z, upd_same] at f1; cases f1
  rw [upd_ne n1] at f1
  rw [upd_comm (Ne.symm n1), L2.upd_upd]
  refine sx_fldN (ob := .lst [.int 0]) (nb := rfl) (ev_lst (vs := [.int 0]) (ea_cons ev_int ea_nil) (by show 1 ≤ sizeLine; decide)) (ev_var 0 rfl) upd_same (cls_Layers c) (no_Layers_openings c) (show (2 : Nat) < 1000 by decide) fun op f2 => ?_
  have n2 : op ≠ b := fun z => by rw [z, upd_same] at f2; cases f2
  rw [upd_ne n2] at f2
  rw [upd_comm (Ne.symm n2), L2.upd_upd]
  have n3 : op ≠ sk := fun z => by rw [z, upd_same] at f2; cases f2
  rw [upd_ne n3] at f2
  refine sx_fld ev_int (ev_var 0 rfl) upd_same (cls_Layers c) (no_Layers_opened c) (show (3 : Nat) < 1000 by decide) ?_
  rw [L2.upd_upd]
  -- the heap so far: H with the lists and the instance
  have hH : Exc (fun q => q = b) H (upd (upd (upd H sk (.lst [.str "root"])) op (.lst [.int 0])) b (.ins (He.ga K "Layers") dx [("tree", .ref t), ("stack", .ref sk), ("openings", .ref op), ("opened", .int 0)])) := (((Z.Ex.new f1).exc.mut f2).put rfl)
  have mH : Mus (fun q => q = b) H := fun q o hq ho => by
    rw [hq, hb] at ho
    cases ho
    rfl
  generalize hB : upd (upd (upd H sk (.lst [.str "root"])) op (.lst [.int 0])) b (.ins (He.ga K "Layers") dx [("tree", .ref t), ("stack", .ref sk), ("openings", .ref op), ("opened", .int 0)]) = B at hH
  have hB2 : upd (upd (upd H sk (.lst [.str "root"])) op (.lst [.int 0])) b (.ins (He.ga K "Layers") dx (putF "opened" (.int 0) (putF "openings" (.ref op) (putF "stack" (.ref sk) (putF "tree" (.ref t) []))))) = B := hB
  rw [hB2]
  have bb : B b = some (.ins (He.ga K "Layers") dx [("tree", .ref t), ("stack", .ref sk), ("openings", .ref op), ("opened", .int 0)]) := by rw [← hB, upd_same]
  have bs : B sk = some (.lst [.str "root"]) := by rw [← hB, upd_ne n1, upd_ne (Ne.symm n3), upd_same]
  have tB : Tr K B t T := hT.exc hH mH
  refine sx_fldS (S := dispS B (isV (oV (itemsOf T "root").head?)) (Sum.inr "root" : L2.Key)) (ev_disp1 (key := (Sum.inr "root" : L2.Key)) (ev_gstr (str_ROOT_layers c)) (ev_call (fc_first_of c) hr (by decide) (ea_cons (ev_ctl (fc_focusable_items c) hr (by decide) tB trivial (ev_var 1 rfl) (ev_gstr (str_ROOT_layers c))) ea_nil) fun vs H2 d2 p2 Q2 q2 => ?_)) (ev_var 0 rfl) bb (cls_Layers c) (no_Layers_current c) (show (4 : Nat) < 1000 by decide) fun v B' x1 ⟨cu, v', B1, hv, g1, g2, g3, g4, g5⟩ => ?_
  · obtain ⟨_, _, rfl, ⟨p, rfl, _, hp⟩, rfl⟩ := p2
    exact ⟨p, _, rfl, hp, q2⟩
  subst hv
  have g4 : v' = oV (itemsOf T "root").head? := g4
  subst g4
  have nc : cu ≠ b := ne_of_none bb g1 |> Ne.symm
  have hcu := g5.get upd_same
  refine sx_fldN (ob := .dK []) (nb := rfl) ev_disp0 (ev_var 0 rfl) upd_same (cls_Layers c) (no_Layers_roving c) (show (5 : Nat) < 1000 by decide) fun ro f5 => ?_
  have n5 : ro ≠ b := fun z => by rw [z, upd_same] at f5; cases f5
  rw [upd_ne n5] at f5
  rw [upd_comm (Ne.symm n5), L2.upd_upd]
  let A : Ad := ⟨0, t, b, sk, op, cu, ro, 0⟩
  have x1' : Exc (fun q => q = b) H (upd (upd B' ro (.dK [])) b (.ins (He.ga K "Layers") dx (layFs A))) := ((hH.trans x1.exc).trans (Z.Ex.new f5).exc).put rfl
  have fcu : H cu = none := by
    cases z : H cu with
    | none => rfl
    | some o =>
      have h := hH cu o z nc
      rw [g1] at h
      rcases h with h | ⟨_, _, _, _, h, _⟩
      · cases h
      · cases h
  have fro : H ro = none := by
    cases z : H ro with
    | none => rfl
    | some o =>
      have h := (hH.trans x1.exc) ro o z n5
      rw [f5] at h
      rcases h with h | ⟨_, _, _, _, h, _⟩
      · cases h
      · cases h
  have ncr : cu ≠ ro := ne_of_none hcu f5
  have i0 : LayAt K (upd (upd B' ro (.dK [])) b (.ins (He.ga K "Layers") dx (layFs A))) A T (itemsOf T "root").head? [] := by
    refine ⟨⟨dx, upd_same⟩, ?_, ?_, ?_, ncr, hT.exc x1' mH, ?_, rfl, ⟨List.nodup_nil, fun k hk => by cases hk⟩⟩
    · show (upd (upd B' ro (.dK [])) b _) sk = _
      have h := x1.get bs
      rw [upd_ne n1, upd_ne (ne_of_none h f5)]
      exact h
    · show (upd (upd B' ro (.dK [])) b _) cu = _
      rw [upd_ne nc, upd_ne ncr]
      exact hcu
    · show (upd (upd B' ro (.dK [])) b _) ro = _
      rw [upd_ne n5, upd_same]
    · intro n hn
      obtain ⟨d, hd, e⟩ := items_in (T := T) (L := "root") (List.mem_map.mpr ⟨n, List.mem_of_mem_head? (Option.mem_def.mpr hn), rfl⟩)
      exact ⟨d, hd, (V.str.inj e).symm⟩
  refine sx_forNew 2 (ev_call (S := newO _ (.lst (sV (outsOf T)))) (fc_outer_composites c) hr (by decide) (args1 (ev_var 1 rfl)) fun vs H2 d2 p2 Q2 q2 => ?_) fun p fp => ?_
  · rw [p2.vals]
    exact ⟨t, T, rfl, i0.tr.up d2, q2.imp fun v H6 _ ⟨p, z, fr, h⟩ => ⟨p, z, d2.free fr, h⟩⟩
  refine ⟨fun i σ B => B p = some (.lst (sV (outsOf T))) ∧ Exc (fun q => q = b) H B ∧ LayAt K B A T (itemsOf T "root").head? (rovI T ((outsOf T).take i)) ∧ ∃ v, σ = [some (.ref b), some (.ref t), v], ⟨upd_same, x1'.trans (Z.Ex.new fp).exc, i0.up (Z.Ex.new fp), none, rfl⟩, fun i σ B z => z.1, ?_, ?_⟩
  · rintro i v σ B hi ⟨hp, xB, iB, v0, rfl⟩
    obtain ⟨x, rfl, hi2⟩ := sV_at hi
    obtain ⟨d, hd, rfl⟩ := outs_in (List.mem_of_getElem? hi2)
    obtain ⟨lx, hly⟩ := iB.ll
    have kl : (rovI T ((outsOf T).take i)).length < sizeLine := by
      have z1 := iB.rl.len
      have z2 := iB.tr.len
      have : 100 ≤ sizeLine := by decide
      omega
    refine sx_dput (key := (Sum.inr d.name : L2.Key)) (v := oV (membs T d.name).head?) (ev_call (fc_first_of c) hr (by decide) (ea_cons (ev_ctl (fc_members c) hr (by decide) iB.tr ⟨d, hd, rfl⟩ (ev_var 1 rfl) (ev_var 2 rfl)) ea_nil) fun vs H2 d2 p2 Q2 q2 => ?_) (ev_fld (ev_var 0 rfl) hly (cls_Layers c) (no_Layers_roving c) rfl) (ev_var 2 rfl) iB.ro kl (hu_of hr) (sx_nil fun H2 d2 => ⟨_, d2, ?_, ?_, ?_, _, rfl⟩)
    · obtain ⟨_, _, rfl, ⟨p, rfl, _, hp⟩, rfl⟩ := p2
      exact ⟨p, _, rfl, hp, q2⟩
    · rw [upd_ne fun z => by rw [z, iB.ro] at hp; cases hp]
      exact hp
    · exact xB.mut fro
    · rw [take_snoc hi2, rovI_snoc]
      exact iB.rove hd (oV_notRef _)
  · rintro σ B ⟨hp, xB, iB, v0, rfl⟩
    rw [len_of_sV, List.take_length] at iB
    exact sx_nil fun H2 d2 => q A H2 rfl rfl (iB.up d2) fcu fro (xB.trans d2.exc)
end
end K24
set_option Elab.async false
set_option linter.all false
set_option maxRecDepth 100000
set_option maxHeartbeats 4000000
/-! What the layers do. -/
namespace K24
open PySem PySem.Spec PyProof.Rows L2 Z
section
variable {P : Program} {w : World} {K : PySem.W.Frag} {mg : PySem.Str → Option Value} {base : Heap}
def spLay (K : PySem.W.Frag) (f : List Nd → Option PySem.Str → V) : Sp := fun vs H Q _ => ∃ A T cur rov, vs = [.ref (Ad.ly A)] ∧ LayAt K H A T cur rov ∧ Ret (isV (f T cur)) H Q
theorem spLay_len {f : List Nd → Option PySem.Str → V} : ∀ vs H Q E, spLay K f vs H Q E → vs.length = 1 := fun vs H Q E ⟨_, _, _, _, e, _⟩ => by
  rw [e]
  rfl
/-- layers.m() -/
theorem ev_lay {X : Cx} {σ : L2.St} {B : Hp} {o : Expr} {m : PySem.Str} {j k : Nat} {apos pos : Pos} {A : Ad} {T : List Nd} {cur : Option PySem.Str} {rov : List (L2.Key × V)} {f : List Nd → Option PySem.Str → V} {pl : Sem Bool} (F : Mtd X.prog X.w X.K X.mg X.base (He.ga X.K "Layers") m k ["self"] (spLay X.K f)) (hr : Room j X.A) (hk : k ≤ j) (hL : LayAt X.K B A T cur rov) (ho : Ev X o σ B (isV (.ref A.ly))) (hn : (layFs A).lookup m = none)
    (ht : eval (.Call (.Attribute o m apos) [] [] pos) X.env = (do
      let ov ← eval o X.env
      standAt apos.atName
      let (f, first) ← holding [ov] (getMethod ov m pl)
      callWith pos f first (backTo pos (starEach [] X.env)) (backToKw pos (keywordEach [] X.env))) := by rfl) :
    Ev X (.Call (.Attribute o m apos) [] [] pos) σ B (isV (f T cur)) := by
  obtain ⟨lx, h1⟩ := hL.ll
  exact ev_meth0 F hr hk ho h1 hn (fun H d Q q => ⟨A, T, cur, rov, rfl, hL.up d, q⟩) ht
theorem mt_top (c : Says K mg base) : Mtd P w K mg base (He.ga K "Layers") "top" 1 ["self"] (spLay K fun _ _ => .str "root") := by
  refine mtd_of (fn_Layers_top c) (cls_Layers c) (me_Layers_top c) sc_Layers_top bi_Layers_top spLay_len ?_
  rintro cdv A0 outer s H vs Q E hr ⟨A, T, cur, rov, rfl, hL, q⟩
  obtain ⟨lx, h1⟩ := hL.ll
  exact sx_ret (ev_ixL ((ev_fld (ev_var 0 rfl) h1 (cls_Layers c) (no_Layers_stack c) rfl).qL (SqL.of hL.sk)) ev_negc (atI_last [] (V.str "root"))) q
theorem mt_lfocused (c : Says K mg base) : Mtd P w K mg base (He.ga K "Layers") "focused" 2 ["self"] (spLay K fun _ cur => oV cur) := by
  refine mtd_of (fn_Layers_focused c) (cls_Layers c) (me_Layers_focused c) sc_Layers_focused bi_Layers_focused spLay_len ?_
  rintro cdv A0 outer s H vs Q E hr ⟨A, T, cur, rov, rfl, hL, q⟩
  obtain ⟨lx, h1⟩ := hL.ll
  exact sx_ret (ev_dget (k := (Sum.inr "root" : L2.Key)) (ev_fld (ev_var 0 rfl) h1 (cls_Layers c) (no_Layers_current c) rfl) hL.cu (ev_lay (mt_top c) hr (by decide) hL (ev_var 0 rfl) rfl) (valV_pos rfl) (hu_of hr)) q
def pathOf (T : List Nd) : Option PySem.Str → List PySem.Str
  | none => [("root" : PySem.Str)]
  | some n => [("root" : PySem.Str)] ++ (betw T n).reverse ++ [n]
def spPath (K : PySem.W.Frag) : Sp := fun vs H Q _ => ∃ A T cur rov, vs = [.ref (Ad.ly A)] ∧ LayAt K H A T cur rov ∧ Ret (newO H (.lst (sV (pathOf T cur)))) H Q
theorem mt_lpath (c : Says K mg base) : Mtd P w K mg base (He.ga K "Layers") "focus_path" 3 ["self"] (spPath K) := by
  refine mtd_of (fn_Layers_focus_path c) (cls_Layers c) (me_Layers_focus_path c) sc_Layers_focus_path bi_Layers_focus_path (fun vs H Q E ⟨_, _, _, _, e, _⟩ => by rw [e]; rfl) ?_
  rintro cdv A0 outer s H vs Q E hr ⟨A, T, cur, rov, rfl, hL, q⟩
  have S := sc_Layers_focus_path
  obtain ⟨lx, h1⟩ := hL.ll
  have big : 100 ≤ sizeLine := by decide
  refine sx_asgV 1 (ev_lay (mt_lfocused c) hr (by decide) hL (ev_var 0 rfl) rfl) ?_
  cases cur with
  | none => exact sx_yes (EvT.to (et_isN (ev_var 1 rfl)) rfl) (sx_ret (ev_lst (vs := [.str "root"]) (ea_cons (ev_lay (mt_top c) hr (by decide) hL (ev_var 0 rfl) rfl) ea_nil) (by show 1 ≤ sizeLine; omega)) q)
  | some n =>
    obtain ⟨d, hd, rfl⟩ := hL.ci n rfl
    have wf := hL.tr.wf
    have l1 := anc_len wf d.dep hd rfl
    have l2 := wf.low d hd
    have l3 : (betw T d.name).length ≤ (anc T d.name).length := (List.takeWhile_sublist _).length_le
    refine sx_no (EvT.to (et_isN (ev_var 1 rfl)) rfl) ?_
    have e : sV (pathOf T (some d.name)) = ([V.str "root"] ++ (sV (betw T d.name)).reverse) ++ [.str d.name] := by
      show ([("root" : PySem.Str)] ++ (betw T d.name).reverse ++ [d.name]).map V.str = _
      rw [List.map_append, List.map_append, List.map_reverse]
      rfl
    rw [e] at q
    refine sx_ret (ev_cat (ev_cat (ev_lst (vs := [.str "root"]) (ea_cons (ev_lay (mt_top c) hr (by decide) hL (ev_var 0 rfl) rfl) ea_nil) (by show 1 ≤ sizeLine; omega)).nA (ev_rev (ev_crdL (fc_between c) hr (by decide) hL.tr.at_ hd wf (ev_fld (ev_var 0 rfl) h1 (cls_Layers c) (no_Layers_tree c) rfl) (ev_var 1 rfl)).nL).nA ?_).nA (ev_lst (vs := [.str d.name]) (ea_cons (ev_var 1 rfl) ea_nil) (by show 1 ≤ sizeLine; omega)).nA ?_) q
    · rw [List.length_reverse, len_of_sV]
      show 1 + _ ≤ _
      omega
    · rw [List.length_append, List.length_reverse, len_of_sV]
      show (1 + _) + 1 ≤ _
      omega
/-- behind the focus of n -/
def rovP (T : List Nd) (rov : List (L2.Key × V)) (n : PySem.Str) : List (L2.Key × V) := match compOf T n with
  | none => rov
  | some x => putK rov (Sum.inr x : L2.Key) (.str n)
def spRove (K : PySem.W.Frag) : Sp := fun vs H Q _ => ∃ A T cur rov d, vs = [.ref (Ad.ly A), .str (Nd.name d)] ∧ LayAt K H A T cur rov ∧ d ∈ T ∧ ∀ H2, LayAt K H2 A T cur (rovP T rov d.name) → Exc (fun q => q = A.ro) H H2 → Q .non H2
theorem mt_rove (c : Says K mg base) : Mtd P w K mg base (He.ga K "Layers") "rove" 4 ["self", "item"] (spRove K) := by
  refine mtd_of (fn_Layers_rove c) (cls_Layers c) (me_Layers_rove c) sc_Layers_rove bi_Layers_rove (fun vs H Q E ⟨_, _, _, _, _, e, _⟩ => by rw [e]; rfl) ?_
  rintro cdv A0 outer s H vs Q E hr ⟨A, T, cur, rov, d, rfl, hL, hd, q⟩
  have S := sc_Layers_rove
  obtain ⟨lx, h1⟩ := hL.ll
  have wf := hL.tr.wf
  refine sx_asgV 2 (ev_crd (fc_composite_of c) hr (by decide) hL.tr.at_ hd wf (ev_fld (ev_var 0 rfl) h1 (cls_Layers c) (no_Layers_tree c) rfl) (ev_var 1 rfl)) ?_
  unfold rovP at q
  cases hc : compOf T d.name with
  | none =>
    rw [hc] at q
    exact sx_no (EvT.to (et_notN (ev_var 2 rfl)) rfl) (sx_nil fun H2 d2 => q H2 (hL.up d2) d2.exc)
  | some x =>
    rw [hc] at q
    obtain ⟨y, hy, rfl⟩ := comp_node wf hd hc
    have kl : rov.length < sizeLine := by
      have z1 := hL.rl.len
      have z2 := hL.tr.len
      have : 100 ≤ sizeLine := by decide
      omega
    refine sx_yes (EvT.to (et_notN (ev_var 2 rfl)) rfl) (sx_dput (key := (Sum.inr y.name : L2.Key)) (ev_var 1 rfl) (ev_fld (ev_var 0 rfl) h1 (cls_Layers c) (no_Layers_roving c) rfl) (ev_var 2 rfl) hL.ro kl (hu_of hr) (sx_skip (sx_nil fun H2 d2 => ?_)))
    exact q H2 ((hL.rove hy rfl).up d2) (((Z.Ex.refl H).exc.put (F := fun q => q = A.ro) rfl).trans d2.exc)
def spFocus (K : PySem.W.Frag) : Sp := fun vs H Q _ => ∃ A T cur rov d, vs = [.ref (Ad.ly A), .str (Nd.name d)] ∧ LayAt K H A T cur rov ∧ d ∈ T ∧ ∀ H2, LayAt K H2 A T (some d.name) (rovP T rov d.name) → Exc (fun q => q = A.cu ∨ q = A.ro) H H2 → Q .non H2
theorem mt_lfocus (c : Says K mg base) : Mtd P w K mg base (He.ga K "Layers") "focus" 5 ["self", "item"] (spFocus K) := by
  refine mtd_of (fn_Layers_focus c) (cls_Layers c) (me_Layers_focus c) sc_Layers_focus bi_Layers_focus (fun vs H Q E ⟨_, _, _, _, _, e, _⟩ => by rw [e]; rfl) ?_
  rintro cdv A0 outer s H vs Q E hr ⟨A, T, cur, rov, d, rfl, hL, hd, q⟩
  obtain ⟨lx, h1⟩ := hL.ll
  refine sx_dput (key := (Sum.inr "root" : L2.Key)) (ev_var 1 rfl) (ev_fld (ev_var 0 rfl) h1 (cls_Layers c) (no_Layers_current c) rfl) (ev_lay (mt_top c) hr (by decide) hL (ev_var 0 rfl) rfl) hL.cu (by show 1 < sizeLine; decide) (hu_of hr) ?_
  have e1 : Exc (fun q => q = A.cu) H (upd H A.cu (.dK (putK [((Sum.inr "root" : L2.Key), oV cur)] (Sum.inr "root" : L2.Key) (.str d.name)))) := (Z.Ex.refl H).exc.put rfl
  have m1 : Mus (fun q => q = A.cu) H := fun q o hq ho => by
    rw [hq, hL.cu] at ho
    cases ho
    show (notRef (oV cur) && true) = true
    rw [oV_notRef]
    rfl
  have hL2 : LayAt K (upd H A.cu (.dK (putK [((Sum.inr "root" : L2.Key), oV cur)] (Sum.inr "root" : L2.Key) (.str d.name)))) A T (some d.name) rov := by
    refine ⟨⟨lx, ?_⟩, keepE e1 m1 hL.sk rfl, ?_, ?_, hL.ne, hL.tr.exc e1 m1, ?_, hL.rm, hL.rl⟩
    · rw [upd_ne fun z => by rw [z, hL.cu] at h1; cases h1]
      exact h1
    · rw [upd_same]
      rfl
    · rw [upd_ne (Ne.symm hL.ne)]
      exact hL.ro
    · intro n hn
      exact ⟨d, hd, Option.some.inj hn⟩
  obtain ⟨lx2, h2⟩ := hL2.ll
  refine sx_drop fun H1 y1 => ?_
  refine sE_meth (mt_rove c) hr (by decide) (ev_var 0 rfl) h2 rfl (args1 (ev_var 1 rfl)) y1 fun vs H2 d2 p2 => ?_
  rw [p2.vals]
  refine ⟨A, T, _, rov, d, rfl, hL2.up (y1.trans d2), hd, fun H3 hL3 e3 => ?_⟩
  refine (show SX _ _ _ _ H3 from ?_) H3 (Z.Ex.refl H3)
  exact sx_nil fun H4 d4 => q H4 (hL3.up d4) ((((e1.wide fun _ z => Or.inl z).trans (y1.trans d2).exc).trans (e3.wide fun _ z => Or.inr z)).trans d4.exc)
end
end K24
set_option Elab.async false
set_option linter.all false
set_option maxRecDepth 100000
set_option maxHeartbeats 4000000
/-! Movements and typeahead. -/
namespace K24
open PySem PySem.Spec PyProof.Rows L2 Z
def wrapI (circ : Bool) (at_ n : Int) : Int := if circ = true then at_ % n else (if (if at_ < n - 1 then at_ else n - 1) > 0 then (if at_ < n - 1 then at_ else n - 1) else 0)
theorem wrapI_in {circ : Bool} {a n : Int} (h : 0 < n) : 0 ≤ wrapI circ a n ∧ wrapI circ a n < n := by
  unfold wrapI
  split
  · exact ⟨Int.emod_nonneg _ (by omega), Int.emod_lt_of_pos _ h⟩
  · split <;> split <;> omega
inductive Mv where
  | next | prev | first | last
def mvS : Mv → PySem.Str
  | .next => "nextItem"
  | .prev => "previousItem"
  | .first => "firstItem"
  | .last => "lastItem"
def mvI (circ : Bool) (at_ n : Nat) : Mv → Nat
  | .first => 0
  | .last => n - 1
  | .next => (wrapI circ ((at_ : Int) + 1) n).toNat
  | .prev => (wrapI circ ((at_ : Int) + -1) n).toNat
theorem mvI_lt {circ : Bool} {a n : Nat} (h : 0 < n) (m : Mv) : mvI circ a n m < n := by
  cases m with
  | first => exact h
  | last => show n - 1 < n; omega
  | next =>
    have z := @wrapI_in circ ((a : Int) + 1) n (by omega)
    show (wrapI circ ((a : Int) + 1) n).toNat < n
    omega
  | prev =>
    have z := @wrapI_in circ ((a : Int) + -1) n (by omega)
    show (wrapI circ ((a : Int) + -1) n).toNat < n
    omega
def circB (T : List Nd) (x : PySem.Str) : Bool := decide (kindOf T x = "circular")
def movedF (T : List Nd) (n : PySem.Str) (m : Mv) : PySem.Str := match compOf T n with
  | none => n
  | some x => ((membs T x)[mvI (circB T x) (ix (membs T x) n) (membs T x).length m]?).getD n
def begB (l t : PySem.Str) : Bool := Txt.startswith (Txt.lower l) (Txt.lower t)
theorem atI_neg1 {α : Type} {xs : List α} {v : α} (h : xs[xs.length - 1]? = some v) : atI xs (-1) = some v := by
  have lt := (List.getElem?_eq_some_iff.mp h).1
  unfold atI ixN
  rw [if_neg (by omega), if_pos (by omega)]
  show xs[((-1 : Int) + (xs.length : Int)).toNat]? = some v
  rw [show ((-1 : Int) + (xs.length : Int)).toNat = xs.length - 1 by omega]
  exact h
/-- the members behind an item, then those up to it -/
def roundF (xs : List PySem.Str) (n : PySem.Str) : List PySem.Str := xs.drop (ix xs n + 1) ++ xs.take (ix xs n + 1)
def foundF (T : List Nd) (n t : PySem.Str) : PySem.Str := match compOf T n with
  | none => n
  | some x => ((roundF (membs T x) n).find? fun o => begB (labelOf T o) t).getD n
section
variable {P : Program} {w : World} {K : PySem.W.Frag} {mg : PySem.Str → Option Value} {base : Heap}
def spWrap (K : PySem.W.Frag) : Sp := fun vs H Q _ => ∃ t T d a n, vs = [.ref t, .str (Nd.name d), .int a, .int n] ∧ TreeAt K H t T ∧ d ∈ T ∧ 0 < n ∧ Ret (isV (.int (wrapI (decide (d.kind = "circular")) a n))) H Q
theorem fc_wrapped (c : Says K mg base) : Cal P w K mg base "wrapped" 2 ["tree", "composite", "at", "size"] (spWrap K) := by
  refine cal_of (fn_wrapped c) (glo_wrapped c) sc_wrapped bi_wrapped (fun vs H Q E ⟨_, _, _, _, _, e, _⟩ => by rw [e]; rfl) ?_
  rintro cdv A outer s H vs Q E hr ⟨t, T, d, a, n, rfl, hT, hd, hn, q⟩
  refine sx_if (v := decide (d.kind = "circular")) (EvT.to (et_eqS (ev_mrd (mt_kind c) hr (by decide) hT hd trivial (ev_var 0 rfl) (ev_var 1 rfl)) ev_str rfl) (str_dec _ _)) (fun hv => ?_) (fun hv => sx_skip ?_)
  · rw [hv] at q
    exact sx_ret (ev_mod (ev_var 2 rfl) (ev_var 3 rfl) hn) q
  · rw [hv] at q
    exact sx_ret (ev_max rfl (free_max c) ev_int (ev_min rfl (free_min c) (ev_sub (ev_var 3 rfl) ev_int) (ev_var 2 rfl))) q
theorem membs_at {T : List Nd} {x n : PySem.Str} (h : n ∈ membs T x) (m : Mv) : ∃ y, (membs T x)[mvI (circB T x) (ix (membs T x) n) (membs T x).length m]? = some y ∧ y ∈ membs T x := by
  have l := List.length_pos_of_mem h
  have lt := @mvI_lt (circB T x) (ix (membs T x) n) _ l m
  exact ⟨_, List.getElem?_eq_getElem lt, List.getElem_mem lt⟩
def spMoved (K : PySem.W.Frag) : Sp := fun vs H Q _ => ∃ t T d x m, vs = [.ref t, .str (Nd.name d), .str (mvS m)] ∧ Tr K H t T ∧ d ∈ T ∧ compOf T d.name = some x ∧ d.name ∈ membs T x ∧ Ret (isV (.str (movedF T d.name m))) H Q
theorem atI_sV {xs : List PySem.Str} {i : Int} {j : Nat} {y : PySem.Str} (e : i = (j : Int)) (h : xs[j]? = some y) : atI (sV xs) i = some (.str y) := by
  rw [e]
  exact atI_nat (by rw [List.getElem?_map, h]; rfl)
theorem fc_moved (c : Says K mg base) : Cal P w K mg base "moved" 13 ["tree", "item", "movement"] (spMoved K) := by
  refine cal_of (fn_moved c) (glo_moved c) sc_moved bi_moved (fun vs H Q E ⟨_, _, _, _, _, e, _⟩ => by rw [e]; rfl) ?_
  rintro cdv A outer s H vs Q E hr ⟨t, T, d, x, m, rfl, hT, hd, hc, hm, q⟩
  have S := sc_moved
  have wf := hT.wf
  obtain ⟨cx, hcx, rfl⟩ := comp_node wf hd hc
  refine sx_asgV 3 (v := .str cx.name) (Ev.to (ev_crd (fc_composite_of c) hr (by decide) hT.at_ hd wf (ev_var 0 rfl) (ev_var 1 rfl)) fun v H2 d2 z => by
    have z : v = oV (compOf T d.name) := z
    rw [z, hc]
    rfl) ?_
  refine sx_asgN 4 (ev_ctl (fc_members c) hr (by decide) hT ⟨cx, hcx, rfl⟩ (ev_var 0 rfl) (ev_var 3 rfl)) fun l fl => ?_
  have x0 : Z.Ex H (upd H l (.lst (sV (membs T cx.name)))) := Z.Ex.new fl
  have hl : (upd H l (.lst (sV (membs T cx.name)))) l = some (.lst (sV (membs T cx.name))) := upd_same
  generalize upd H l (.lst (sV (membs T cx.name))) = B at x0 hl
  have hTB := hT.up x0
  refine sx_asgV 5 (ev_indexS ((ev_var 4 rfl).qL (SqL.of hl)) (ev_var 1 rfl) hm) ?_
  obtain ⟨y, hy, _⟩ := membs_at hm m
  have em : movedF T d.name m = y := by
    unfold movedF
    rw [hc]
    show ((membs T cx.name)[_]?).getD _ = y
    rw [hy]
    rfl
  rw [em] at q
  have ck : circB T cx.name = decide (cx.kind = "circular") := by
    unfold circB
    rw [kindOf_of wf hcx]
  have np : (0 : Int) < ((sV (membs T cx.name)).length : Int) := by
    rw [len_of_sV]
    have := List.length_pos_of_mem hm
    omega
  have fin : ∀ v H2, Z.Ex B H2 → (isV (.str y)).P H2 v → (endsOf Q).rt v H2 := fun v H2 d2 p2 => q v H2 (x0.trans d2) p2
  have nxt2 : ∀ (σ : L2.St) (st : Int) (i : Int), σ[0]? = some (some (.ref t)) → σ[3]? = some (some (.str cx.name)) → σ[4]? = some (some (.ref l)) → σ[5]? = some (some (.int (ix (membs T cx.name) d.name : Nat))) → σ[6]? = some (some (.int st)) → i = (ix (membs T cx.name) d.name : Int) + st → (membs T cx.name)[(wrapI (circB T cx.name) i (membs T cx.name).length).toNat]? = some y →
      SX (cxN P w K mg base n_moved "moved" (defScope b_moved) (He.ga K "moved") cdv A outer s H E) ((defBody b_moved).drop 6) (endsOf Q) σ B := by
    intro σ st i s0 s3 s4 s5 s6 ei hi
    refine sx_ret (ev_ixL ((ev_var 4 s4).qL (SqL.of hl)) (ev_call (S := isV (.int (wrapI (decide (cx.kind = "circular")) i ((sV (membs T cx.name)).length : Int)))) (fc_wrapped c) hr (by decide) (ea_cons (ev_var 0 s0) (ea_cons (ev_var 3 s3) (ea_cons (ev_add (ev_var 5 s5) (ev_var 6 s6)) (ea_cons (ev_lenL (free_len c) ((ev_var 4 s4).qL (SqL.of hl))) ea_nil)))) fun vs H2 d2 p2 Q2 q2 => ?_) ?_) fin
    · obtain ⟨_, _, rfl, rfl, _, _, rfl, rfl, _, _, rfl, rfl, _, _, rfl, rfl, rfl⟩ := p2
      rw [ei] at q2
      exact ⟨t, T, cx, _, _, rfl, hTB.at_.up d2, hcx, np, q2⟩
    · rw [← ck, len_of_sV]
      have z := @wrapI_in (circB T cx.name) i ((membs T cx.name).length : Int) (by rw [len_of_sV] at np; exact np)
      exact atI_sV (by omega) hi
  cases m with
  | first => exact sx_yes (EvT.to (et_eqS (ev_var 2 rfl) ev_str rfl) rfl) (sx_ret (ev_ixL ((ev_var 4 rfl).qL (SqL.of hl)) ev_int (atI_sV (j := 0) rfl hy)) fin)
  | last =>
    refine sx_no (EvT.to (et_eqS (ev_var 2 rfl) ev_str rfl) rfl) (sx_yes (EvT.to (et_eqS (ev_var 2 rfl) ev_str rfl) rfl) (sx_ret (ev_ixL ((ev_var 4 rfl).qL (SqL.of hl)) ev_negc ?_) fin))
    refine atI_neg1 ?_
    rw [len_of_sV, List.getElem?_map, show (membs T cx.name)[(membs T cx.name).length - 1]? = some y from hy]
    rfl
  | next =>
    refine sx_no (EvT.to (et_eqS (ev_var 2 rfl) ev_str rfl) rfl) (sx_no (EvT.to (et_eqS (ev_var 2 rfl) ev_str rfl) rfl) ?_)
    refine sx_asgV 6 (v := .int 1) (ev_if (v := true) (EvT.to (et_eqS (ev_var 2 rfl) ev_str rfl) rfl) (fun _ => ev_int) fun z => by cases z) ?_
    exact nxt2 _ 1 _ rfl rfl rfl rfl rfl rfl hy
  | prev =>
    refine sx_no (EvT.to (et_eqS (ev_var 2 rfl) ev_str rfl) rfl) (sx_no (EvT.to (et_eqS (ev_var 2 rfl) ev_str rfl) rfl) ?_)
    refine sx_asgV 6 (v := .int (-1)) (ev_if (v := false) (EvT.to (et_eqS (ev_var 2 rfl) ev_str rfl) rfl) (fun z => by cases z) fun _ => ev_negc) ?_
    exact nxt2 _ (-1) _ rfl rfl rfl rfl rfl rfl hy
/-! ### typeahead -/
def textsL : List PySem.Str := ["p", "A", "b", "ab", "", "zz", "PEA", "b b", "ab-1"]
theorem text_facts : ∀ x ∈ textsL, x.length ≤ 4 := by decide +kernel
theorem label_len : ∀ x ∈ labelsL, x.length ≤ 4 := by decide +kernel
def spBeg (K : PySem.W.Frag) : Sp := fun vs H Q _ => ∃ l x, vs = [.str l, .str x] ∧ l.length ≤ 100 ∧ x.length ≤ 100 ∧ Ret (isV (.bl (begB l x))) H Q
theorem ev_lower {X : Cx} {σ : L2.St} {B : Hp} {a : Expr} {x : PySem.Str} {apos pos : Pos} (ha : Ev X a σ B (isV (.str x))) (hz : x.length ≤ 100) (hbase : attributeBase a "lower" X.env (eval a X.env) = eval a X.env := by rfl) (hline : (apos.endLine == pos.line) = true := by rfl) :
    Ev X (.Call (.Attribute a "lower" apos) [] [] pos) σ B (isV (.str (Txt.lower x))) :=
  ev_bm0 PySem.F.plainAttrs_str PySem.F.slot_str_lower PySem.F.type_str_lower mt_lower ha (fun u H d p => by
    have p : u = .str x := p
    rw [p]
    rfl) (fun u H d p Q q => by
    have p : u = .str x := p
    rw [p]
    exact ⟨x, rfl, rfl, by omega, ev_ret q⟩) hbase hline
theorem fc_begins_with (c : Says K mg base) : Cal P w K mg base "begins_with" 1 ["label", "text"] (spBeg K) := by
  refine cal_of (fn_begins_with c) (glo_begins_with c) sc_begins_with bi_begins_with (fun vs H Q E ⟨_, _, e, _⟩ => by rw [e]; rfl) ?_
  rintro cdv A outer s H vs Q E hr ⟨l, x, rfl, hl, hx, q⟩
  exact sx_ret (ev_bm (S := isV (.bl (begB l x))) PySem.F.plainAttrs_str PySem.F.slot_str_startswith PySem.F.type_str_startswith mt_startswith (ev_lower (ev_var 0 rfl) hl) (args1 (ev_lower (ev_var 1 rfl) hx)) (fun u H d p => by
    have p : u = .str (Txt.lower l) := p
    rw [p]
    rfl) fun u vs H d p p3 Q q => by
    have p : u = .str (Txt.lower l) := p
    rw [p, p3.vals]
    exact ⟨_, _, rfl, rfl, ev_ret q⟩) q
/-- names, labels as the law draws them -/
def Nm (T : List Nd) : Prop := ∀ d ∈ T, d.name ∈ namesL ∧ d.label ∈ labelsL
def spFound (K : PySem.W.Frag) : Sp := fun vs H Q _ => ∃ t T d x tx, vs = [.ref t, .str (Nd.name d), .str tx] ∧ Tr K H t T ∧ Nm T ∧ tx ∈ textsL ∧ d ∈ T ∧ compOf T d.name = some x ∧ d.name ∈ membs T x ∧ Ret (isV (.str (foundF T d.name tx))) H Q
theorem fc_found_by (c : Says K mg base) : Cal P w K mg base "found_by" 13 ["tree", "item", "text"] (spFound K) := by
  refine cal_of (fn_found_by c) (glo_found_by c) sc_found_by bi_found_by (fun vs H Q E ⟨_, _, _, _, _, e, _⟩ => by rw [e]; rfl) ?_
  rintro cdv A outer s H vs Q E hr ⟨t, T, d, x, tx, rfl, hT, nm, htx, hd, hc, hm, q⟩
  have S := sc_found_by
  have wf := hT.wf
  obtain ⟨cx, hcx, rfl⟩ := comp_node wf hd hc
  have ln := membs_len (L := cx.name) hT.len
  have big : 1000 ≤ sizeLine := by decide
  refine sx_asgN 3 (ev_ctl (fc_members c) hr (by decide) hT ⟨cx, hcx, rfl⟩ (ev_var 0 rfl) (Ev.to (ev_crd (fc_composite_of c) hr (by decide) hT.at_ hd wf (ev_var 0 rfl) (ev_var 1 rfl)) fun v H2 d2 z => by
    have z : v = oV (compOf T d.name) := z
    rw [z, hc]
    rfl)) fun l fl => ?_
  have x0 : Z.Ex H (upd H l (.lst (sV (membs T cx.name)))) := Z.Ex.new fl
  have hl : (upd H l (.lst (sV (membs T cx.name)))) l = some (.lst (sV (membs T cx.name))) := upd_same
  generalize upd H l (.lst (sV (membs T cx.name))) = B at x0 hl
  have hTB := hT.up x0
  refine sx_asgV 4 (ev_indexS ((ev_var 3 rfl).qL (SqL.of hl)) (ev_var 1 rfl) hm) ?_
  have lt : ix (membs T cx.name) d.name < (membs T cx.name).length := (List.getElem?_eq_some_iff.mp (ix_at hm)).1
  have e1 : cutV (sV (membs T cx.name)) (some ((ix (membs T cx.name) d.name : Int) + 1)) none = sV ((membs T cx.name).drop (ix (membs T cx.name) d.name + 1)) := by
    show ((sV (membs T cx.name)).drop (HT.sIx _ _ (some ((ix (membs T cx.name) d.name : Int) + 1)))).take (HT.sIx (sV (membs T cx.name)).length _ none - _) = _
    rw [show ((ix (membs T cx.name) d.name : Int) + 1) = ((ix (membs T cx.name) d.name + 1 : Nat) : Int) by omega, HT.sIx_nat, HT.sIx_none, len_of_sV, Nat.min_eq_left lt, List.take_of_length_le, ← List.map_drop]
    rw [List.length_drop, len_of_sV]
    omega
  have e2 : cutV (sV (membs T cx.name)) none (some ((ix (membs T cx.name) d.name : Int) + 1)) = sV ((membs T cx.name).take (ix (membs T cx.name) d.name + 1)) := by
    show ((sV (membs T cx.name)).drop 0).take (HT.sIx _ _ (some ((ix (membs T cx.name) d.name : Int) + 1)) - 0) = _
    rw [show ((ix (membs T cx.name) d.name : Int) + 1) = ((ix (membs T cx.name) d.name + 1 : Nat) : Int) by omega, HT.sIx_nat, List.drop_zero, Nat.sub_zero, len_of_sV, Nat.min_eq_left lt, ← List.map_take]
  have rl : (roundF (membs T cx.name) d.name).length ≤ 200 := by
    unfold roundF
    rw [List.length_append, List.length_drop, List.length_take]
    omega
  refine sx_forNew 5 (xs := sV (roundF (membs T cx.name) d.name)) (Ev.to (ev_cat (ev_cut ((ev_var 3 rfl).qL (SqL.of hl)) (eo_some (ev_add (ev_var 4 rfl) ev_int)) eo_none).nA (ev_cut ((ev_var 3 rfl).qL (SqL.of hl)) eo_none (eo_some (ev_add (ev_var 4 rfl) ev_int))).nA ?_) fun v H2 d2 h => ?_) fun p fp => ?_
  · rw [e1, e2, len_of_sV, len_of_sV, List.length_drop, List.length_take]
    omega
  · rw [e1, e2, ← List.map_append] at h
    exact h
  have rin : ∀ y ∈ roundF (membs T cx.name) d.name, y ∈ membs T cx.name := fun y hy => by
    rcases List.mem_append.mp hy with z | z
    · exact List.mem_of_mem_drop z
    · exact List.mem_of_mem_take z
  have ef : foundF T d.name tx = ((roundF (membs T cx.name) d.name).find? fun o => begB (labelOf T o) tx).getD d.name := by
    unfold foundF
    rw [hc]
  rw [ef] at q
  refine ⟨fun i σ B2 => B2 p = some (.lst (sV (roundF (membs T cx.name) d.name))) ∧ Z.Ex B B2 ∧ (∃ v, σ = [some (.ref t), some (.str d.name), some (.str tx), some (.ref l), some (.int (ix (membs T cx.name) d.name : Nat)), v]) ∧ ∀ a ∈ (roundF (membs T cx.name) d.name).take i, begB (labelOf T a) tx = false,
    ⟨upd_same, Z.Ex.new fp, ⟨none, rfl⟩, fun a ha => by cases ha⟩, fun i σ B z => z.1, ?_, ?_⟩
  · rintro i v σ B2 hi ⟨hp, x1, ⟨v0, rfl⟩, h0⟩
    obtain ⟨a, rfl, hi2⟩ := sV_at hi
    obtain ⟨y, hy, rfl⟩ := membs_in (rin a (List.mem_of_getElem? hi2))
    have ly := label_len y.label (nm y hy).2
    have lx := text_facts tx htx
    refine sx_if (v := begB (labelOf T y.name) tx) (et_val (ev_call (S := isV (.bl (begB (labelOf T y.name) tx))) (fc_begins_with c) hr (by decide) (args2 (ev_mrd (mt_label c) hr (by decide) (hTB.at_.up x1) hy trivial (ev_var 0 rfl) (ev_var 5 rfl)) (ev_var 2 rfl)) fun vs H2 d2 p2 Q2 q2 => ?_)) (fun hv => ?_) (fun hv => ?_)
    · rw [p2.vals]
      rw [labelOf_of wf hy] at q2
      exact ⟨_, _, rfl, by omega, by omega, q2⟩
    · refine sx_ret (ev_var 5 rfl) fun v H2 d3 p3 => q v H2 ((x0.trans x1).trans d3) ?_
      have e := (find_split h0 hi2 hv).1
      show v = .str _
      rw [e]
      exact p3
    · exact sx_skip (sx_nil fun H2 d3 => ⟨B2, d3, hp, x1, ⟨_, rfl⟩, take_more h0 hi2 hv⟩)
  · rintro σ B2 ⟨hp, x1, ⟨v0, rfl⟩, h0⟩
    rw [len_of_sV, List.take_length] at h0
    refine sx_ret (ev_var 1 rfl) fun v H2 d3 p3 => q v H2 ((x0.trans x1).trans d3) ?_
    show v = .str _
    rw [(find_none h0).1]
    exact p3
end
end K24
set_option Elab.async false
set_option linter.all false
set_option maxRecDepth 100000
set_option maxHeartbeats 4000000
/-! Members of the focused item's composite. -/
namespace K24
open PySem PySem.Spec PyProof.Rows L2 Z
theorem anc_drop {T : List Nd} (wf : WF T) : ∀ (i : Nat) {d : Nd} {x : PySem.Str}, d ∈ T → (anc T d.name)[i]? = some x → ∃ q ∈ T, q.name = x ∧ anc T x = (anc T d.name).drop (i + 1)
  | 0, d, x, hd, h => by
    cases hp : d.par with
    | none =>
      rw [anc_none wf hd hp] at h
      cases h
    | some p =>
      obtain ⟨q, hq, e, _⟩ := wf.parIn hd hp
      rw [← e] at hp
      rw [anc_some wf hd hq hp] at h ⊢
      have e2 : q.name = x := Option.some.inj h
      exact ⟨q, hq, e2, by rw [← e2]; rfl⟩
  | i + 1, d, x, hd, h => by
    cases hp : d.par with
    | none =>
      rw [anc_none wf hd hp] at h
      cases h
    | some p =>
      obtain ⟨q, hq, e, _⟩ := wf.parIn hd hp
      rw [← e] at hp
      rw [anc_some wf hd hq hp] at h ⊢
      exact anc_drop wf i hq h
theorem betw_lay {T : List Nd} (wf : WF T) {d : Nd} (hd : d ∈ T) {x : PySem.Str} (h : x ∈ betw T d.name) : (anc T x).find? (isLay T) = (anc T d.name).find? (isLay T) := by
  obtain ⟨i, hi⟩ := List.getElem?_of_mem h
  have hi2 : ((anc T d.name).takeWhile fun a => !isLay T a)[i]? = some x := hi
  have pre : ∀ (l : List PySem.Str) (j : Nat) (y : PySem.Str), (l.takeWhile fun a => !isLay T a)[j]? = some y → l[j]? = some y ∧ (l.drop (j + 1)).find? (isLay T) = l.find? (isLay T) := by
    intro l
    induction l with
    | nil => intro j y h; cases h
    | cons a r ih =>
      intro j y h
      rw [List.takeWhile_cons] at h
      cases ha : isLay T a with
      | true =>
        rw [ha] at h
        cases h
      | false =>
        rw [ha] at h
        have h : (a :: r.takeWhile fun a => !isLay T a)[j]? = some y := h
        cases j with
        | zero =>
          have e : a = y := Option.some.inj h
          refine ⟨congrArg some e, ?_⟩
          rw [List.find?_cons, ha]
          rfl
        | succ j =>
          obtain ⟨h1, h2⟩ := ih j y h
          refine ⟨h1, ?_⟩
          rw [List.find?_cons, ha]
          exact h2
  obtain ⟨h1, h2⟩ := pre _ _ _ hi2
  obtain ⟨q, hq, e, ea⟩ := anc_drop wf i hd h1
  rw [ea]
  exact h2
theorem Built.top {T : List Nd} {path : List PySem.Str} (b : Built T path) : kindOf T "root" = "layer" := by
  obtain ⟨r, hr, e, e0⟩ := b.dep 0 _ b.root
  rcases b.wf.up r hr with ⟨_, _, _, z⟩ | ⟨q, hq, _, z⟩
  · rw [← e, kindOf_of b.wf hr, z]
  · omega
theorem item_facts {T : List Nd} {n L : PySem.Str} (h : n ∈ itemsOf T L) : (∃ d ∈ T, d.name = n) ∧ kindOf T n = "item" ∧ focB T n = true ∧ layOf T n = L := by
  obtain ⟨h1, h2⟩ := List.mem_filter.mp h
  obtain ⟨d, hd, e⟩ := List.mem_map.mp h1
  have h3 := Bool.and_eq_true_iff.mp h2
  have h4 := h3.1
  unfold focB at h4
  exact ⟨⟨d, hd, e⟩, of_decide_eq_true (Bool.and_eq_true_iff.mp h4).1, h3.1, of_decide_eq_true h3.2⟩
theorem comp_lay {T : List Nd} {path : List PySem.Str} (b : Built T path) {n x : PySem.Str} (h : n ∈ itemsOf T "root") (hc : compOf T n = some x) : layOf T x = "root" ∧ n ∈ membs T x := by
  obtain ⟨⟨d, hd, rfl⟩, hk, hf, hl⟩ := item_facts h
  have hx : x ∈ betw T d.name := (List.mem_filter.mp (List.mem_of_getLast? hc)).1
  have e := betw_lay b.wf hd hx
  have hl2 := hl
  unfold layOf at hl2
  have le : layOf T x = "root" := by
    unfold layOf
    rw [e]
    cases z : (anc T d.name).find? (isLay T) with
    | some y =>
      rw [z] at hl2
      exact hl2
    | none =>
      rw [z] at hl2
      have hl2 : d.name = "root" := hl2
      rw [hl2, b.top] at hk
      exact absurd hk (by decide +kernel)
  refine ⟨le, ?_⟩
  unfold membs
  rw [le]
  exact List.mem_filter.mpr ⟨h, decide_eq_true hc⟩
theorem membs_items {T : List Nd} {x y : PySem.Str} (hl : layOf T x = "root") (h : y ∈ membs T x) : y ∈ itemsOf T "root" ∧ compOf T y = some x := by
  unfold membs at h
  rw [hl] at h
  obtain ⟨h1, h2⟩ := List.mem_filter.mp h
  exact ⟨h1, of_decide_eq_true h2⟩
/-- where a movement leads, where a text typed ahead leads -/
theorem moved_in {T : List Nd} {path : List PySem.Str} (b : Built T path) {n x : PySem.Str} (h : n ∈ itemsOf T "root") (hc : compOf T n = some x) (m : Mv) : movedF T n m ∈ membs T x ∧ movedF T n m ∈ itemsOf T "root" := by
  obtain ⟨hl, hm⟩ := comp_lay b h hc
  obtain ⟨y, hy, hy2⟩ := membs_at hm m
  have e : movedF T n m = y := by
    unfold movedF
    rw [hc]
    show ((membs T x)[_]?).getD _ = y
    rw [hy]
    rfl
  rw [e]
  exact ⟨hy2, (membs_items hl hy2).1⟩
theorem found_in {T : List Nd} {path : List PySem.Str} (b : Built T path) {n x tx : PySem.Str} (h : n ∈ itemsOf T "root") (hc : compOf T n = some x) : foundF T n tx ∈ membs T x ∧ foundF T n tx ∈ itemsOf T "root" := by
  obtain ⟨hl, hm⟩ := comp_lay b h hc
  have e : foundF T n tx = ((roundF (membs T x) n).find? fun o => begB (labelOf T o) tx).getD n := by
    unfold foundF
    rw [hc]
  rw [e]
  have hy : ((roundF (membs T x) n).find? fun o => begB (labelOf T o) tx).getD n ∈ membs T x := by
    cases z : (roundF (membs T x) n).find? fun o => begB (labelOf T o) tx with
    | none => exact hm
    | some y =>
      rcases List.mem_append.mp (List.mem_of_find?_eq_some z) with w | w
      · exact List.mem_of_mem_drop w
      · exact List.mem_of_mem_take w
  exact ⟨hy, (membs_items hl hy).1⟩
abbrev St2 : Type := Option PySem.Str × List (L2.Key × V)
def movS (T : List Nd) (s : St2) (m : Mv) : St2 := match s.1 with
  | none => s
  | some n => match compOf T n with
    | none => s
    | some _ => (some (movedF T n m), rovP T s.2 (movedF T n m))
def typS (T : List Nd) (s : St2) (tx : PySem.Str) : St2 := match s.1 with
  | none => s
  | some n => match compOf T n with
    | none => s
    | some _ => (some (foundF T n tx), rovP T s.2 (foundF T n tx))
theorem name_lay : ∀ n ∈ namesL, PyData.canLay0 (.str n) = true := by decide +kernel
end K24
set_option Elab.async false
set_option linter.all false
set_option maxRecDepth 100000
set_option maxHeartbeats 4000000
/-! The manager: what it keeps; its readers; told, settled, go. -/
namespace K24
open PySem PySem.Spec PyProof.Rows L2 Z
abbrev mgrFs (A : Ad) (km wt : V) : List (PySem.Str × V) := [("tree", .ref A.t), ("layers", .ref A.ly), ("keymap", km), ("waiting", wt), ("announcements", .ref A.an)]
section
variable {P : Program} {w : World} {K : PySem.W.Frag} {mg : PySem.Str → Option Value} {base : Heap}
structure MgrAt (K : PySem.W.Frag) (H : Hp) (A : Ad) (T : List Nd) (cur : Option PySem.Str) (rov : List (L2.Key × V)) : Prop where
  mm : ∃ mx km wt, H A.m = some (.ins (He.ga K "Manager") mx (mgrFs A km wt))
  lay : LayAt K H A T cur rov
  ann : AnnAt K H A.an
  nm : Nm T
  cb : ∀ n, cur = some n → n ∈ itemsOf T "root"
/-- what a deed may change -/
def Mf (A : Ad) (q : Addr) : Prop := q = A.m ∨ q = A.cu ∨ q = A.ro ∨ q = A.an
section
variable {H H' H2 : Hp} {A : Ad} {T : List Nd} {cur : Option PySem.Str} {rov : List (L2.Key × V)} {F : Addr → Prop}
theorem MgrAt.up (e : Z.Ex H H') (h : MgrAt K H A T cur rov) : MgrAt K H' A T cur rov := by
  obtain ⟨mx, km, wt, h1⟩ := h.mm
  exact ⟨⟨mx, km, wt, e.get h1⟩, h.lay.up e, h.ann.up e, h.nm, h.cb⟩
theorem LayAt.exc (e : Exc F H H2) (m : Mus F H) (n1 : ¬ F A.ly) (n2 : ¬ F A.cu) (n3 : ¬ F A.ro) (h : LayAt K H A T cur rov) : LayAt K H2 A T cur rov := by
  obtain ⟨lx, h1⟩ := h.ll
  exact ⟨⟨lx, e.get h1 n1⟩, keepE e m h.sk rfl, e.get h.cu n2, e.get h.ro n3, h.ne, h.tr.exc e m, h.ci, h.rm, h.rl⟩
theorem AnnAt.exc {an : Addr} (e : Exc F H H2) (m : Mus F H) (n : ¬ F an) (h : AnnAt K H an) : AnnAt K H2 an := by
  obtain ⟨ax, r, l, ys, last, h1, h2, h3, h4, h5, h6⟩ := h
  exact ⟨ax, r, l, ys, last, e.get h1 n, keepE e m h2 rfl, h3, h4.exc e m, keepE e m h5 rfl, h6⟩
theorem MgrAt.ne (h : MgrAt K H A T cur rov) : A.m ≠ A.ly ∧ A.m ≠ A.cu ∧ A.m ≠ A.ro ∧ A.m ≠ A.an ∧ A.ly ≠ A.cu ∧ A.ly ≠ A.ro ∧ A.ly ≠ A.an ∧ A.an ≠ A.cu ∧ A.an ≠ A.ro := by
  obtain ⟨mx, km, wt, h1⟩ := h.mm
  obtain ⟨lx, h2⟩ := h.lay.ll
  obtain ⟨ax, r, l, ys, last, h3, _⟩ := h.ann
  have h4 := h.lay.cu
  have h5 := h.lay.ro
  refine ⟨fun z => ?_, fun z => ?_, fun z => ?_, fun z => ?_, fun z => ?_, fun z => ?_, fun z => ?_, fun z => ?_, fun z => ?_⟩
  · rw [z, h2] at h1
    injection h1 with h1
    injection h1 with _ _ h1
    cases congrArg List.length h1
  · rw [z, h4] at h1; cases h1
  · rw [z, h5] at h1; cases h1
  · rw [z, h3] at h1
    injection h1 with h1
    injection h1 with _ _ h1
    cases congrArg List.length h1
  · rw [z, h4] at h2; cases h2
  · rw [z, h5] at h2; cases h2
  · rw [z, h3] at h2
    injection h2 with h2
    injection h2 with _ _ h2
    cases congrArg List.length h2
  · rw [z, h4] at h3; cases h3
  · rw [z, h5] at h3; cases h3
theorem MgrAt.mus (h : MgrAt K H A T cur rov) : Mus (Mf A) H := fun q o hq ho => by
  rcases hq with z | z | z | z
  · obtain ⟨mx, km, wt, h1⟩ := h.mm
    rw [z, h1] at ho
    cases ho
    rfl
  · rw [z, h.lay.cu] at ho
    cases ho
    show (notRef (oV cur) && true) = true
    rw [oV_notRef]
    rfl
  · rw [z, h.lay.ro] at ho
    cases ho
    exact h.lay.rm
  · obtain ⟨ax, r, l, ys, last, h1, _⟩ := h.ann
    rw [z, h1] at ho
    cases ho
    rfl
theorem Mus.sub {G : Addr → Prop} (h : Mus G H) (s : ∀ q, F q → G q) : Mus F H := fun q o hq ho => h q o (s q hq) ho
theorem MgrAt.known (h : MgrAt K H A T cur rov) {q : Addr} (f : Mf A q) : H q ≠ none := by
  rcases f with z | z | z | z
  · obtain ⟨mx, km, wt, h1⟩ := h.mm
    rw [z, h1]; simp
  · rw [z, h.lay.cu]; simp
  · rw [z, h.lay.ro]; simp
  · obtain ⟨ax, r, l, ys, last, h1, _⟩ := h.ann
    rw [z, h1]; simp
end
/-! ### readers -/
def spMg (K : PySem.W.Frag) (f : List Nd → Option PySem.Str → List (L2.Key × V) → V) : Sp := fun vs H Q _ => ∃ A T cur rov, vs = [.ref (Ad.m A)] ∧ MgrAt K H A T cur rov ∧ Ret (isV (f T cur rov)) H Q
theorem spMg_len {f : List Nd → Option PySem.Str → List (L2.Key × V) → V} : ∀ vs H Q E, spMg K f vs H Q E → vs.length = 1 := fun vs H Q E ⟨_, _, _, _, e, _⟩ => by
  rw [e]
  rfl
section
variable {X : Cx} {σ : L2.St} {B : Hp} {o e : Expr} {m : PySem.Str} {j k : Nat} {apos pos : Pos} {A : Ad} {T : List Nd} {cur : Option PySem.Str} {rov : List (L2.Key × V)}
theorem ev_mg {f : List Nd → Option PySem.Str → List (L2.Key × V) → V} {pl : Sem Bool} (F : Mtd X.prog X.w X.K X.mg X.base (He.ga X.K "Manager") m k ["self"] (spMg X.K f)) (hr : Room j X.A) (hk : k ≤ j) (hM : MgrAt X.K B A T cur rov) (ho : Ev X o σ B (isV (.ref A.m))) (hn : ∀ km wt, (mgrFs A km wt).lookup m = none := by exact fun _ _ => rfl)
    (ht : eval (.Call (.Attribute o m apos) [] [] pos) X.env = (do
      let ov ← eval o X.env
      standAt apos.atName
      let (f, first) ← holding [ov] (getMethod ov m pl)
      callWith pos f first (backTo pos (starEach [] X.env)) (backToKw pos (keywordEach [] X.env))) := by rfl) :
    Ev X (.Call (.Attribute o m apos) [] [] pos) σ B (isV (f T cur rov)) := by
  obtain ⟨mx, km, wt, h1⟩ := hM.mm
  exact ev_meth0 F hr hk ho h1 (hn km wt) (fun H d Q q => ⟨A, T, cur, rov, rfl, hM.up d, q⟩) ht
/-- self.tree, self.layers -/
theorem ev_mtree (c : Says X.K X.mg X.base) (hM : MgrAt X.K B A T cur rov) (ho : Ev X o σ B (isV (.ref A.m))) (hb : attributeBase o "tree" X.env (eval o X.env) = eval o X.env := by rfl) : Ev X (.Attribute o "tree" pos) σ B (isV (.ref A.t)) := by
  obtain ⟨mx, km, wt, h1⟩ := hM.mm
  exact ev_fld ho h1 (cls_Manager c) (no_Manager_tree c) rfl hb
theorem ev_mlay (c : Says X.K X.mg X.base) (hM : MgrAt X.K B A T cur rov) (ho : Ev X o σ B (isV (.ref A.m))) (hb : attributeBase o "layers" X.env (eval o X.env) = eval o X.env := by rfl) : Ev X (.Attribute o "layers" pos) σ B (isV (.ref A.ly)) := by
  obtain ⟨mx, km, wt, h1⟩ := hM.mm
  exact ev_fld ho h1 (cls_Manager c) (no_Manager_layers c) rfl hb
end
theorem mt_mfocused (c : Says K mg base) : Mtd P w K mg base (He.ga K "Manager") "focused" 3 ["self"] (spMg K fun _ cur _ => oV cur) := by
  refine mtd_of (fn_Manager_focused c) (cls_Manager c) (me_Manager_focused c) sc_Manager_focused bi_Manager_focused spMg_len ?_
  rintro cdv A0 outer s H vs Q E hr ⟨A, T, cur, rov, rfl, hM, q⟩
  exact sx_ret (ev_lay (mt_lfocused c) hr (by decide) hM.lay (ev_mlay c hM (ev_var 0 rfl)) rfl) q
def spMgL (K : PySem.W.Frag) (f : List Nd → Option PySem.Str → List PySem.Str) : Sp := fun vs H Q _ => ∃ A T cur rov, vs = [.ref (Ad.m A)] ∧ MgrAt K H A T cur rov ∧ Ret (newO H (.lst (sV (f T cur)))) H Q
theorem spMgL_len {f : List Nd → Option PySem.Str → List PySem.Str} : ∀ vs H Q E, spMgL K f vs H Q E → vs.length = 1 := fun vs H Q E ⟨_, _, _, _, e, _⟩ => by
  rw [e]
  rfl
theorem ev_mgL {X : Cx} {σ : L2.St} {B : Hp} {o : Expr} {m : PySem.Str} {j k : Nat} {apos pos : Pos} {A : Ad} {T : List Nd} {cur : Option PySem.Str} {rov : List (L2.Key × V)} {f : List Nd → Option PySem.Str → List PySem.Str} {pl : Sem Bool} (F : Mtd X.prog X.w X.K X.mg X.base (He.ga X.K "Manager") m k ["self"] (spMgL X.K f)) (hr : Room j X.A) (hk : k ≤ j) (hM : MgrAt X.K B A T cur rov) (ho : Ev X o σ B (isV (.ref A.m))) (hn : ∀ km wt, (mgrFs A km wt).lookup m = none := by exact fun _ _ => rfl)
    (ht : eval (.Call (.Attribute o m apos) [] [] pos) X.env = (do
      let ov ← eval o X.env
      standAt apos.atName
      let (f, first) ← holding [ov] (getMethod ov m pl)
      callWith pos f first (backTo pos (starEach [] X.env)) (backToKw pos (keywordEach [] X.env))) := by rfl) :
    Ev X (.Call (.Attribute o m apos) [] [] pos) σ B (newO B (.lst (sV (f T cur)))) := by
  obtain ⟨mx, km, wt, h1⟩ := hM.mm
  exact ev_meth0 F hr hk ho h1 (hn km wt) (fun H d Q q => ⟨A, T, cur, rov, rfl, hM.up d, q.imp fun v H2 _ ⟨p, z, fr, h⟩ => ⟨p, z, d.free fr, h⟩⟩) ht
theorem mt_mpath (c : Says K mg base) : Mtd P w K mg base (He.ga K "Manager") "focus_path" 4 ["self"] (spMgL K pathOf) := by
  refine mtd_of (fn_Manager_focus_path c) (cls_Manager c) (me_Manager_focus_path c) sc_Manager_focus_path bi_Manager_focus_path spMgL_len ?_
  rintro cdv A0 outer s H vs Q E hr ⟨A, T, cur, rov, rfl, hM, q⟩
  obtain ⟨lx, h1⟩ := hM.lay.ll
  exact sx_ret (ev_meth0 (S := newO H (.lst (sV (pathOf T cur)))) (mt_lpath c) hr (by decide) (ev_mlay c hM (ev_var 0 rfl)) h1 rfl fun H2 d Q2 q2 => ⟨A, T, cur, rov, rfl, hM.lay.up d, q2.imp fun v H3 _ ⟨p, z, fr, h⟩ => ⟨p, z, d.free fr, h⟩⟩) q
theorem mt_open (c : Says K mg base) : Mtd P w K mg base (He.ga K "Manager") "open_layers" 1 ["self"] (spMgL K fun _ _ => [("root" : PySem.Str)]) := by
  refine mtd_of (fn_Manager_open_layers c) (cls_Manager c) (me_Manager_open_layers c) sc_Manager_open_layers bi_Manager_open_layers spMgL_len ?_
  rintro cdv A0 outer s H vs Q E hr ⟨A, T, cur, rov, rfl, hM, q⟩
  obtain ⟨lx, h1⟩ := hM.lay.ll
  exact sx_ret (ev_list (free_list c) ((ev_fld (ev_mlay c hM (ev_var 0 rfl)) h1 (cls_Layers c) (no_Layers_stack c) rfl).qL (SqL.of hM.lay.sk))) q
theorem path_in {T : List Nd} {cur : Option PySem.Str} {H : Hp} {A : Ad} {rov : List (L2.Key × V)} (h : LayAt K H A T cur rov) : ∀ x ∈ pathOf T cur, ∃ d ∈ T, d.name = x := by
  obtain ⟨path, b⟩ := h.tr.bt
  obtain ⟨r, hr, e, _⟩ := b.dep 0 _ b.root
  intro x hx
  cases cur with
  | none =>
    rw [List.mem_singleton.mp hx]
    exact ⟨r, hr, e⟩
  | some n =>
    obtain ⟨d, hd, rfl⟩ := h.ci n rfl
    rcases List.mem_append.mp hx with hx | hx
    · rcases List.mem_append.mp hx with hx | hx
      · rw [List.mem_singleton.mp hx]
        exact ⟨r, hr, e⟩
      · exact betw_mem b.wf hd x (List.mem_reverse.mp hx)
    · rw [List.mem_singleton.mp hx]
      exact ⟨d, hd, rfl⟩
theorem path_ok {T : List Nd} {cur : Option PySem.Str} {H : Hp} {A : Ad} {rov : List (L2.Key × V)} (h : LayAt K H A T cur rov) (nm : Nm T) : okS (pathOf T cur) := fun x hx => by
  obtain ⟨d, hd, e⟩ := path_in h x hx
  rw [← e]
  exact name_lay d.name (nm d hd).1
theorem path_len {T : List Nd} {cur : Option PySem.Str} {H : Hp} {A : Ad} {rov : List (L2.Key × V)} (h : LayAt K H A T cur rov) : (pathOf T cur).length ≤ 20 := by
  cases cur with
  | none => exact (by decide : 1 ≤ 20)
  | some n =>
    obtain ⟨d, hd, rfl⟩ := h.ci n rfl
    have l1 := anc_len h.tr.wf d.dep hd rfl
    have l2 := h.tr.wf.low d hd
    have l3 : (betw T d.name).length ≤ (anc T d.name).length := (List.takeWhile_sublist _).length_le
    show ([("root" : PySem.Str)] ++ (betw T d.name).reverse ++ [d.name]).length ≤ 20
    rw [List.length_append, List.length_append, List.length_reverse]
    show 1 + _ + 1 ≤ 20
    omega
def spTold (K : PySem.W.Frag) : Sp := fun vs H Q _ => ∃ A T cur rov, vs = [.ref (Ad.m A)] ∧ MgrAt K H A T cur rov ∧ ∀ H2, MgrAt K H2 A T cur rov → Exc (fun q => q = A.an) H H2 → Q .non H2
theorem mt_told (c : Says K mg base) : Mtd P w K mg base (He.ga K "Manager") "told" 14 ["self"] (spTold K) := by
  refine mtd_of (fn_Manager_told c) (cls_Manager c) (me_Manager_told c) sc_Manager_told bi_Manager_told (fun vs H Q E ⟨_, _, _, _, e, _⟩ => by rw [e]; rfl) ?_
  rintro cdv A0 outer s H vs Q E hr ⟨A, T, cur, rov, rfl, hM, q⟩
  have S := sc_Manager_told
  refine sx_asgN 1 (ev_mgL (mt_mpath c) hr (by decide) hM (ev_var 0 rfl)) fun pl f1 => ?_
  have x1 : Z.Ex H (upd H pl (.lst (sV (pathOf T cur)))) := Z.Ex.new f1
  have hpl : (upd H pl (.lst (sV (pathOf T cur)))) pl = some (.lst (sV (pathOf T cur))) := upd_same
  generalize upd H pl (.lst (sV (pathOf T cur))) = B1 at x1 hpl
  refine sx_asgN 2 (ev_lst (vs := []) ea_nil (Nat.zero_le _)) fun st f2 => ?_
  have x2 : Z.Ex B1 (upd B1 st (.lst [])) := Z.Ex.new f2
  have pln := path_len hM.lay
  have two : 10 ≤ sizeLine := by decide
  refine sx_forAt 3 (p := pl) (xs := sV (pathOf T cur)) (ev_var 1 rfl) (fun i σ B => Z.Ex B1 B ∧ (∃ v1 v2 v3, σ = [some (.ref A.m), some (.ref pl), some (.ref st), v1, v2, v3]) ∧ ∃ xs, B st = some (.lst xs) ∧ xs.length = i) ⟨x2, ⟨none, none, none, rfl⟩, [], upd_same, rfl⟩ (fun i σ B z => SqL.of (z.1.get hpl)) ?_ ?_
  · rintro i v σ B hi ⟨x3, ⟨v1, v2, v3, rfl⟩, xs, hst, hlen⟩
    obtain ⟨n, rfl, hi2⟩ := sV_at hi
    obtain ⟨d, hd, rfl⟩ := path_in hM.lay n (List.mem_of_getElem? hi2)
    have hMB := (hM.up x1).up x3
    have il : i < (pathOf T cur).length := (List.getElem?_eq_some_iff.mp hi2).1
    refine sx_tup (n := 2) (xs := placeV T d.name) ((ev_call (S := newO B (.tup (placeV T d.name))) (fc_place_of c) hr (by decide) (args2 (ev_mtree c hMB (ev_var 0 rfl)) (ev_var 3 rfl)) fun vs H2 d2 p2 Q2 q2 => ?_).nT) (pg_tup rfl (pgs_cons (pg_name S.nd (i := 4) rfl (Or.inl rfl)) (pgs_cons (pg_name S.nd (i := 5) rfl (Or.inl rfl)) pgs_nil))) rfl fun H2 d2 => ⟨_, _, rfl, _, _, rfl, rfl, ?_⟩
    · rw [p2.vals]
      exact ⟨A.t, T, d, rfl, hMB.lay.tr.up d2, hd, q2.imp fun v H3 _ ⟨p, z, fr, h⟩ => ⟨p, z, d2.free fr, h⟩⟩
    revert H2
    show SX _ _ _ _ B
    refine sx_appN (ob := .tup [.str d.name, .str d.kind, .str d.label, .int (place T d.name).1, .int (place T d.name).2]) (nb := rfl) (ev_var 2 rfl) (ev_tup (vs := [.str d.name, .str d.kind, .str d.label, .int (place T d.name).1, .int (place T d.name).2]) (ea_cons (ev_var 3 rfl) (ea_cons (ev_mrd (mt_kind c) hr (by decide) hMB.lay.tr.at_ hd trivial (ev_mtree c hMB (ev_var 0 rfl)) (ev_var 3 rfl)) (ea_cons (ev_mrd (mt_label c) hr (by decide) hMB.lay.tr.at_ hd trivial (ev_mtree c hMB (ev_var 0 rfl)) (ev_var 3 rfl)) (ea_cons (ev_var 4 rfl) (ea_cons (ev_var 5 rfl) ea_nil))))) (by show 5 ≤ _; omega)) hst (by omega) fun tp ft => sx_nil fun H2 d2 => ⟨_, d2, ?_, ⟨_, _, _, rfl⟩, xs ++ [.ref tp], upd_same, by rw [List.length_append, hlen]; rfl⟩
    exact (x3.trans (Z.Ex.new ft)).mut f2
  · rintro σ B ⟨x3, ⟨v1, v2, v3, rfl⟩, xs, hst, hlen⟩
    have hMB := (hM.up x1).up x3
    obtain ⟨mx, km, wt, h1⟩ := hMB.mm
    obtain ⟨ax, r, l, ys, last, h2, _⟩ := id hMB.ann
    refine sx_drop fun H1 y1 => ?_
    refine sE_meth (mt_tell c) hr (by decide) (ev_fld (ev_var 0 rfl) h1 (cls_Manager c) (no_Manager_announcements c) rfl) h2 rfl (ea_cons (ev_var 1 rfl) (ea_cons (ev_tuple (free_tuple c) ((ev_var 2 rfl).qL (SqL.of hst))) ea_nil)) y1 fun vs H2 d2 p2 => ?_
    obtain ⟨_, _, rfl, rfl, _, _, rfl, ⟨tp, rfl, _, _⟩, rfl⟩ := p2
    have y2 := y1.trans d2
    have hM2 := hMB.up y2
    refine ⟨A.an, pl, .ref tp, pathOf T cur, rfl, hM2.ann, (x3.trans y2).get hpl, path_ok hM.lay hM.nm, fun H3 hA3 e3 => ?_⟩
    have m2 : Mus (fun q => q = A.an) H2 := hM2.mus.sub fun q z => Or.inr (Or.inr (Or.inr z))
    obtain ⟨w1, w2, w3, w4, w5, w6, w7, w8, w9⟩ := hM2.ne
    obtain ⟨mx2, km2, wt2, g1⟩ := hM2.mm
    have hM3 : MgrAt K H3 A T cur rov := ⟨⟨mx2, km2, wt2, e3.get g1 w4⟩, hM2.lay.exc e3 m2 w7 (Ne.symm w8) (Ne.symm w9), hA3, hM.nm, hM.cb⟩
    refine (show SX _ _ _ _ H3 from ?_) H3 (Z.Ex.refl H3)
    exact sx_nil fun H4 d4 => q H4 (hM3.up d4) (((x1.trans (x3.trans y2)).exc.trans e3).trans d4.exc)
end
end K24
set_option Elab.async false
set_option linter.all false
set_option maxRecDepth 100000
set_option maxHeartbeats 4000000
/-! The manager's deeds. -/
namespace K24
open PySem PySem.Spec PyProof.Rows L2 Z
section
variable {P : Program} {w : World} {K : PySem.W.Frag} {mg : PySem.Str → Option Value} {base : Heap}
def Mf2 (A : Ad) (q : Addr) : Prop := q = A.m ∨ q = A.an
def spSettled (K : PySem.W.Frag) : Sp := fun vs H Q _ => ∃ A T cur rov pl ps, vs = [.ref (Ad.m A), .ref pl] ∧ MgrAt K H A T cur rov ∧ H pl = some (.lst (sV ps)) ∧ okS ps ∧ ∀ H2, MgrAt K H2 A T cur rov → Exc (Mf2 A) H H2 → Q .non H2
theorem mt_settled (c : Says K mg base) : Mtd P w K mg base (He.ga K "Manager") "settled" 15 ["self", "path"] (spSettled K) := by
  refine mtd_of (fn_Manager_settled c) (cls_Manager c) (me_Manager_settled c) sc_Manager_settled bi_Manager_settled (fun vs H Q E ⟨_, _, _, _, _, _, e, _⟩ => by rw [e]; rfl) ?_
  rintro cdv A0 outer s H vs Q E hr ⟨A, T, cur, rov, pl, ps, rfl, hM, hpl, okp, q⟩
  have S := sc_Manager_settled
  -- self.told() from B on
  have tail : ∀ B, MgrAt K B A T cur rov → Exc (Mf2 A) H B → SX (cxN P w K mg base n_Manager_settled "Manager.settled" (defScope b_Manager_settled) (He.ma K (He.ga K "Manager") "settled") cdv A0 outer s H E) ((defBody b_Manager_settled).drop 1) (endsOf Q) (start n_Manager_settled [.ref A.m, .ref pl]) B := by
    intro B hMB eB
    obtain ⟨mx, km, wt, h1⟩ := hMB.mm
    refine sx_drop fun H1 y1 => ?_
    refine sE_meth0 (mt_told c) hr (by decide) (ev_var 0 rfl) h1 rfl y1 fun H2 d2 => ?_
    refine ⟨A, T, cur, rov, rfl, hMB.up (y1.trans d2), fun H3 hM3 e3 => ?_⟩
    refine (show SX _ _ _ _ H3 from ?_) H3 (Z.Ex.refl H3)
    exact sx_nil fun H4 d4 => q H4 (hM3.up d4) (((eB.trans (y1.trans d2).exc).trans (e3.wide fun _ z => Or.inr z)).trans d4.exc)
  refine sx_if (v := !PyData.eqv (.list ((pathOf T cur).map .str)) (.list (ps.map .str))) (et_cmp (op_neD hr.units) (ev_mgL (mt_mpath c) hr (by decide) hM (ev_var 0 rfl)) (ev_var 1 rfl) ?_) (fun hv => ?_) (fun hv => sx_skip (tail H hM (Z.Ex.refl H).exc))
  · rintro x y H5 d5 ⟨p, rfl, _, hp⟩ p2 Q2 q2
    have p2 : y = .ref pl := p2
    subst p2
    exact ⟨_, _, dp_names (SqL.of hp), dp_names (SqL.of (d5.get hpl)), shaped_names (path_ok hM.lay hM.nm), shaped_names okp, ev_ret q2⟩
  · obtain ⟨mx, km, wt, h1⟩ := hM.mm
    refine sx_fldN (ob := .tup []) (nb := rfl) (ev_tup (vs := []) ea_nil (Nat.zero_le _)) (ev_var 0 rfl) h1 (cls_Manager c) (no_Manager_waiting c) (show (5 : Nat) < 1000 by decide) fun t f1 => sx_skip ?_
    have e1 : Exc (fun q => q = A.m) (upd H t (.tup [])) (upd (upd H t (.tup [])) A.m (.ins (He.ga K "Manager") mx (putF "waiting" (.ref t) (mgrFs A km wt)))) := (Z.Ex.refl _).exc.put rfl
    have hM1 := hM.up (Z.Ex.new (o := .tup []) f1)
    have m1 : Mus (fun q => q = A.m) (upd H t (.tup [])) := hM1.mus.sub fun q z => Or.inl z
    obtain ⟨w1, w2, w3, w4, w5, w6, w7, w8, w9⟩ := hM1.ne
    refine tail _ ⟨⟨mx, km, .ref t, upd_same⟩, hM1.lay.exc e1 m1 (Ne.symm w1) (Ne.symm w2) (Ne.symm w3), hM1.ann.exc e1 m1 (Ne.symm w4), hM.nm, hM.cb⟩ ((Z.Ex.new f1).exc.trans (e1.wide fun _ z => Or.inl z))
def spGo (K : PySem.W.Frag) : Sp := fun vs H Q _ => ∃ A T cur rov d, vs = [.ref (Ad.m A), .str (Nd.name d)] ∧ MgrAt K H A T cur rov ∧ d ∈ T ∧ d.name ∈ itemsOf T "root" ∧ ∀ H2, MgrAt K H2 A T (some d.name) (rovP T rov d.name) → Exc (Mf A) H H2 → Q (.str d.name) H2
theorem mt_go (c : Says K mg base) : Mtd P w K mg base (He.ga K "Manager") "go" 16 ["self", "item"] (spGo K) := by
  refine mtd_of (fn_Manager_go c) (cls_Manager c) (me_Manager_go c) sc_Manager_go bi_Manager_go (fun vs H Q E ⟨_, _, _, _, _, e, _⟩ => by rw [e]; rfl) ?_
  rintro cdv A0 outer s H vs Q E hr ⟨A, T, cur, rov, d, rfl, hM, hd, hi, q⟩
  have S := sc_Manager_go
  refine sx_asgN 2 (ev_mgL (mt_mpath c) hr (by decide) hM (ev_var 0 rfl)) fun pl f1 => ?_
  have x1 : Z.Ex H (upd H pl (.lst (sV (pathOf T cur)))) := Z.Ex.new f1
  have hpl : (upd H pl (.lst (sV (pathOf T cur)))) pl = some (.lst (sV (pathOf T cur))) := upd_same
  generalize upd H pl (.lst (sV (pathOf T cur))) = B1 at x1 hpl
  have hM1 := hM.up x1
  obtain ⟨lx, h2⟩ := hM1.lay.ll
  refine sx_drop fun H1 y1 => ?_
  refine sE_meth (mt_lfocus c) hr (by decide) (ev_mlay c hM1 (ev_var 0 rfl)) h2 rfl (args1 (ev_var 1 rfl)) y1 fun vs H2 d2 p2 => ?_
  rw [p2.vals]
  have y2 := y1.trans d2
  have hM2 := hM1.up y2
  refine ⟨A, T, cur, rov, d, rfl, hM2.lay, hd, fun H3 hL3 e3 => ?_⟩
  have m2 : Mus (fun q => q = A.cu ∨ q = A.ro) H2 := hM2.mus.sub fun q z => z.elim (fun z => Or.inr (Or.inl z)) fun z => Or.inr (Or.inr (Or.inl z))
  obtain ⟨w1, w2, w3, w4, w5, w6, w7, w8, w9⟩ := hM2.ne
  obtain ⟨mx, km, wt, h1⟩ := hM2.mm
  have hM3 : MgrAt K H3 A T (some d.name) (rovP T rov d.name) := ⟨⟨mx, km, wt, e3.get h1 fun z => z.elim w2 w3⟩, hL3, hM2.ann.exc e3 m2 fun z => z.elim w8 w9, hM.nm, fun n hn => by rw [← Option.some.inj hn]; exact hi⟩
  have hp3 := keepE e3 m2 (y2.get hpl) rfl
  refine (show SX _ _ _ _ H3 from ?_) H3 (Z.Ex.refl H3)
  obtain ⟨mx3, km3, wt3, h3⟩ := hM3.mm
  refine sx_drop fun H4 y4 => ?_
  refine sE_meth (mt_settled c) hr (by decide) (ev_var 0 rfl) h3 rfl (args1 (ev_var 2 rfl)) y4 fun vs H5 d5 p5 => ?_
  rw [p5.vals]
  have y5 := y4.trans d5
  refine ⟨A, T, _, _, pl, _, rfl, hM3.up y5, y5.get hp3, path_ok hM.lay hM.nm, fun H6 hM6 e6 => ?_⟩
  refine (show SX _ _ _ _ H6 from ?_) H6 (Z.Ex.refl H6)
  refine sx_ret (ev_var 1 rfl) fun v H7 d7 p7 => ?_
  have p7 : v = .str d.name := p7
  rw [p7]
  exact q H7 (hM6.up d7) ((((((x1.trans y2).exc.trans (e3.wide fun q z => z.elim (fun z => Or.inr (Or.inl z)) fun z => Or.inr (Or.inr (Or.inl z)))).trans y5.exc)).trans (e6.wide fun q z => z.elim (fun z => Or.inl z) fun z => Or.inr (Or.inr (Or.inr z)))).trans d7.exc)
def hasC (T : List Nd) : Option PySem.Str → Bool
  | none => false
  | some n => !decide (compOf T n = none)
theorem mt_has_composite (c : Says K mg base) : Mtd P w K mg base (He.ga K "Manager") "has_composite" 4 ["self"] (spMg K fun T cur _ => .bl (hasC T cur)) := by
  refine mtd_of (fn_Manager_has_composite c) (cls_Manager c) (me_Manager_has_composite c) sc_Manager_has_composite bi_Manager_has_composite spMg_len ?_
  rintro cdv A0 outer s H vs Q E hr ⟨A, T, cur, rov, rfl, hM, q⟩
  have S := sc_Manager_has_composite
  refine sx_asgV 1 (ev_mg (mt_mfocused c) hr (by decide) hM (ev_var 0 rfl)) ?_
  cases cur with
  | none =>
    have q : Ret (isV (.bl ((!decide (oV none = V.non)) && true))) H Q := q
    exact sx_ret (ev_and (ev_notN (ev_var 1 rfl)) fun z => by cases z) q
  | some n =>
    obtain ⟨d, hd, rfl⟩ := hM.lay.ci n rfl
    have e : hasC T (some d.name) = ((!decide (oV (some d.name) = V.non)) && !decide (oV (compOf T d.name) = .non)) := by
      rw [oV_non (compOf T d.name)]
      rfl
    have q : Ret (isV (.bl (hasC T (some d.name)))) H Q := q
    rw [e] at q
    exact sx_ret (ev_and (ev_notN (ev_var 1 rfl)) fun _ => ev_one (ev_notN (ev_crd (fc_composite_of c) hr (by decide) hM.lay.tr.at_ hd hM.lay.tr.wf (ev_mtree c hM (ev_var 0 rfl)) (ev_var 1 rfl)))) q
/-! ### movements, typeahead -/
def spMv (K : PySem.W.Frag) : Sp := fun vs H Q _ => ∃ A T cur rov m, vs = [.ref (Ad.m A), .str (mvS m)] ∧ MgrAt K H A T cur rov ∧ ∀ H2, MgrAt K H2 A T (movS T (cur, rov) m).1 (movS T (cur, rov) m).2 → Exc (Mf A) H H2 → Q (oV (movS T (cur, rov) m).1) H2
theorem hasC_some {T : List Nd} {cur : Option PySem.Str} (h : hasC T cur = true) : ∃ n x, cur = some n ∧ compOf T n = some x := by
  cases cur with
  | none => cases h
  | some n =>
    cases hc : compOf T n with
    | none =>
      have h : (!decide (compOf T n = none)) = true := h
      rw [hc] at h
      cases h
    | some x => exact ⟨n, x, rfl, hc⟩
theorem movS_no {T : List Nd} {cur : Option PySem.Str} {rov : List (L2.Key × V)} (h : hasC T cur = false) (m : Mv) : movS T (cur, rov) m = (cur, rov) := by
  unfold movS
  cases cur with
  | none => rfl
  | some n =>
    have h : (!decide (compOf T n = none)) = false := h
    cases hc : compOf T n with
    | none =>
      show (match compOf T n with
        | none => ((some n, rov) : St2)
        | some _ => _) = _
      rw [hc]
    | some x =>
      rw [hc] at h
      cases h
theorem typS_no {T : List Nd} {cur : Option PySem.Str} {rov : List (L2.Key × V)} (h : hasC T cur = false) (m : PySem.Str) : typS T (cur, rov) m = (cur, rov) := by
  unfold typS
  cases cur with
  | none => rfl
  | some n =>
    have h : (!decide (compOf T n = none)) = false := h
    cases hc : compOf T n with
    | none =>
      show (match compOf T n with
        | none => ((some n, rov) : St2)
        | some _ => _) = _
      rw [hc]
    | some x =>
      rw [hc] at h
      cases h
theorem movS_yes {T : List Nd} {n x : PySem.Str} {rov : List (L2.Key × V)} (h : compOf T n = some x) (m : Mv) : movS T (some n, rov) m = (some (movedF T n m), rovP T rov (movedF T n m)) := by
  unfold movS
  show (match compOf T n with
    | none => ((some n, rov) : St2)
    | some _ => (some (movedF T n m), rovP T rov (movedF T n m))) = _
  rw [h]
theorem typS_yes {T : List Nd} {n x : PySem.Str} {rov : List (L2.Key × V)} (h : compOf T n = some x) (m : PySem.Str) : typS T (some n, rov) m = (some (foundF T n m), rovP T rov (foundF T n m)) := by
  unfold typS
  show (match compOf T n with
    | none => ((some n, rov) : St2)
    | some _ => (some (foundF T n m), rovP T rov (foundF T n m))) = _
  rw [h]
theorem items_node {T : List Nd} {L n : PySem.Str} (h : n ∈ itemsOf T L) : ∃ d ∈ T, d.name = n := (item_facts h).1
theorem mt_within (c : Says K mg base) : Mtd P w K mg base (He.ga K "Manager") "within" 17 ["self", "movement"] (spMv K) := by
  refine mtd_of (fn_Manager_within c) (cls_Manager c) (me_Manager_within c) sc_Manager_within bi_Manager_within (fun vs H Q E ⟨_, _, _, _, _, e, _⟩ => by rw [e]; rfl) ?_
  rintro cdv A0 outer s H vs Q E hr ⟨A, T, cur, rov, m, rfl, hM, q⟩
  refine sx_if (v := !hasC T cur) (et_not (et_val (ev_mg (mt_has_composite c) hr (by decide) hM (ev_var 0 rfl)))) (fun hv => ?_) (fun hv => sx_skip ?_)
  · have hv : hasC T cur = false := by simpa using hv
    rw [movS_no hv] at q
    exact sx_ret (ev_mg (mt_mfocused c) hr (by decide) hM (ev_var 0 rfl)) fun v H2 d2 p2 => by
      have p2 : v = oV cur := p2
      rw [p2]
      exact q H2 (hM.up d2) d2.exc
  · have hv : hasC T cur = true := by simpa using hv
    obtain ⟨n, x, rfl, hc⟩ := hasC_some hv
    obtain ⟨path, b⟩ := hM.lay.tr.bt
    have hi := hM.cb n rfl
    obtain ⟨hl, hm⟩ := comp_lay b hi hc
    obtain ⟨g1, g2⟩ := moved_in b hi hc m
    rw [movS_yes hc] at q
    obtain ⟨d, hd, rfl⟩ := items_node hi
    obtain ⟨d2, hd2, e2⟩ := items_node g2
    obtain ⟨mx, km, wt, h1⟩ := hM.mm
    refine sx_retE fun H1 y1 => ?_
    refine sE_meth (mt_go c) hr (by decide) (ev_var 0 rfl) h1 rfl (args1 (v := .str d2.name) (ev_call (fc_moved c) hr (by decide) (ea_cons (ev_mtree c hM (ev_var 0 rfl)) (ea_cons (ev_mg (mt_mfocused c) hr (by decide) hM (ev_var 0 rfl)) (ea_cons (ev_var 1 rfl) ea_nil))) fun vs H2 d2' p2 Q2 q2 => ?_)) y1 fun vs H2 y2 p2 => ?_
    · obtain ⟨_, _, rfl, rfl, _, _, rfl, rfl, _, _, rfl, rfl, rfl⟩ := p2
      rw [e2] at q2
      exact ⟨A.t, T, d, x, m, rfl, hM.lay.tr.up d2', hd, hc, hm, q2⟩
    · rw [p2.vals]
      rw [← e2] at q g2
      exact ⟨A, T, _, rov, d2, rfl, hM.up (y1.trans y2), hd2, g2, fun H3 hM3 e3 => q H3 hM3 ((y1.trans y2).exc.trans e3)⟩
def spTx (K : PySem.W.Frag) : Sp := fun vs H Q _ => ∃ A T cur rov x, vs = [.ref (Ad.m A), .str x] ∧ x ∈ textsL ∧ MgrAt K H A T cur rov ∧ ∀ H2, MgrAt K H2 A T (typS T (cur, rov) x).1 (typS T (cur, rov) x).2 → Exc (Mf A) H H2 → Q (oV (typS T (cur, rov) x).1) H2
theorem mt_typeahead (c : Says K mg base) : Mtd P w K mg base (He.ga K "Manager") "typeahead" 17 ["self", "text"] (spTx K) := by
  refine mtd_of (fn_Manager_typeahead c) (cls_Manager c) (me_Manager_typeahead c) sc_Manager_typeahead bi_Manager_typeahead (fun vs H Q E ⟨_, _, _, _, _, e, _⟩ => by rw [e]; rfl) ?_
  rintro cdv A0 outer s H vs Q E hr ⟨A, T, cur, rov, m, rfl, htx, hM, q⟩
  refine sx_if (v := !hasC T cur) (et_not (et_val (ev_mg (mt_has_composite c) hr (by decide) hM (ev_var 0 rfl)))) (fun hv => ?_) (fun hv => sx_skip ?_)
  · have hv : hasC T cur = false := by simpa using hv
    rw [typS_no hv] at q
    exact sx_ret (ev_mg (mt_mfocused c) hr (by decide) hM (ev_var 0 rfl)) fun v H2 d2 p2 => by
      have p2 : v = oV cur := p2
      rw [p2]
      exact q H2 (hM.up d2) d2.exc
  · have hv : hasC T cur = true := by simpa using hv
    obtain ⟨n, x, rfl, hc⟩ := hasC_some hv
    obtain ⟨path, b⟩ := hM.lay.tr.bt
    have hi := hM.cb n rfl
    obtain ⟨hl, hm⟩ := comp_lay b hi hc
    obtain ⟨g1, g2⟩ := found_in (tx := m) b hi hc
    rw [typS_yes hc] at q
    obtain ⟨d, hd, rfl⟩ := items_node hi
    obtain ⟨d2, hd2, e2⟩ := items_node g2
    obtain ⟨mx, km, wt, h1⟩ := hM.mm
    refine sx_retE fun H1 y1 => ?_
    refine sE_meth (mt_go c) hr (by decide) (ev_var 0 rfl) h1 rfl (args1 (v := .str d2.name) (ev_call (fc_found_by c) hr (by decide) (ea_cons (ev_mtree c hM (ev_var 0 rfl)) (ea_cons (ev_mg (mt_mfocused c) hr (by decide) hM (ev_var 0 rfl)) (ea_cons (ev_var 1 rfl) ea_nil))) fun vs H2 d2' p2 Q2 q2 => ?_)) y1 fun vs H2 y2 p2 => ?_
    · obtain ⟨_, _, rfl, rfl, _, _, rfl, rfl, _, _, rfl, rfl, rfl⟩ := p2
      rw [e2] at q2
      exact ⟨A.t, T, d, x, m, rfl, hM.lay.tr.up d2', hM.nm, htx, hd, hc, hm, q2⟩
    · rw [p2.vals]
      rw [← e2] at q g2
      exact ⟨A, T, _, rov, d2, rfl, hM.up (y1.trans y2), hd2, g2, fun H3 hM3 e3 => q H3 hM3 ((y1.trans y2).exc.trans e3)⟩
/-- m.next_item() .. -/
def spMv1 (K : PySem.W.Frag) (m : Mv) : Sp := fun vs H Q _ => ∃ A T cur rov, vs = [.ref (Ad.m A)] ∧ MgrAt K H A T cur rov ∧ ∀ H2, MgrAt K H2 A T (movS T (cur, rov) m).1 (movS T (cur, rov) m).2 → Exc (Mf A) H H2 → Q (oV (movS T (cur, rov) m).1) H2
theorem spMv1_len {m : Mv} : ∀ vs H Q E, spMv1 K m vs H Q E → vs.length = 1 := fun vs H Q E ⟨_, _, _, _, e, _⟩ => by rw [e]; rfl
theorem mt_next_item (c : Says K mg base) : Mtd P w K mg base (He.ga K "Manager") "next_item" 18 ["self"] (spMv1 K .next) := by
  refine mtd_of (fn_Manager_next_item c) (cls_Manager c) (me_Manager_next_item c) sc_Manager_next_item bi_Manager_next_item spMv1_len ?_
  rintro cdv A0 outer s H vs Q E hr ⟨A, T, cur, rov, rfl, hM, q⟩
  obtain ⟨mx, km, wt, h1⟩ := hM.mm
  refine sx_retE fun H1 y1 => sE_meth (mt_within c) hr (by decide) (ev_var 0 rfl) h1 rfl (args1 ev_str) y1 fun vs H2 y2 p2 => ?_
  rw [p2.vals]
  exact ⟨A, T, cur, rov, .next, rfl, hM.up (y1.trans y2), fun H3 hM3 e3 => q H3 hM3 ((y1.trans y2).exc.trans e3)⟩
theorem mt_previous_item (c : Says K mg base) : Mtd P w K mg base (He.ga K "Manager") "previous_item" 18 ["self"] (spMv1 K .prev) := by
  refine mtd_of (fn_Manager_previous_item c) (cls_Manager c) (me_Manager_previous_item c) sc_Manager_previous_item bi_Manager_previous_item spMv1_len ?_
  rintro cdv A0 outer s H vs Q E hr ⟨A, T, cur, rov, rfl, hM, q⟩
  obtain ⟨mx, km, wt, h1⟩ := hM.mm
  refine sx_retE fun H1 y1 => sE_meth (mt_within c) hr (by decide) (ev_var 0 rfl) h1 rfl (args1 ev_str) y1 fun vs H2 y2 p2 => ?_
  rw [p2.vals]
  exact ⟨A, T, cur, rov, .prev, rfl, hM.up (y1.trans y2), fun H3 hM3 e3 => q H3 hM3 ((y1.trans y2).exc.trans e3)⟩
theorem mt_first_item (c : Says K mg base) : Mtd P w K mg base (He.ga K "Manager") "first_item" 18 ["self"] (spMv1 K .first) := by
  refine mtd_of (fn_Manager_first_item c) (cls_Manager c) (me_Manager_first_item c) sc_Manager_first_item bi_Manager_first_item spMv1_len ?_
  rintro cdv A0 outer s H vs Q E hr ⟨A, T, cur, rov, rfl, hM, q⟩
  obtain ⟨mx, km, wt, h1⟩ := hM.mm
  refine sx_retE fun H1 y1 => sE_meth (mt_within c) hr (by decide) (ev_var 0 rfl) h1 rfl (args1 ev_str) y1 fun vs H2 y2 p2 => ?_
  rw [p2.vals]
  exact ⟨A, T, cur, rov, .first, rfl, hM.up (y1.trans y2), fun H3 hM3 e3 => q H3 hM3 ((y1.trans y2).exc.trans e3)⟩
theorem mt_last_item (c : Says K mg base) : Mtd P w K mg base (He.ga K "Manager") "last_item" 18 ["self"] (spMv1 K .last) := by
  refine mtd_of (fn_Manager_last_item c) (cls_Manager c) (me_Manager_last_item c) sc_Manager_last_item bi_Manager_last_item spMv1_len ?_
  rintro cdv A0 outer s H vs Q E hr ⟨A, T, cur, rov, rfl, hM, q⟩
  obtain ⟨mx, km, wt, h1⟩ := hM.mm
  refine sx_retE fun H1 y1 => sE_meth (mt_within c) hr (by decide) (ev_var 0 rfl) h1 rfl (args1 ev_str) y1 fun vs H2 y2 p2 => ?_
  rw [p2.vals]
  exact ⟨A, T, cur, rov, .last, rfl, hM.up (y1.trans y2), fun H3 hM3 e3 => q H3 hM3 ((y1.trans y2).exc.trans e3)⟩
end
end K24
set_option Elab.async false
set_option linter.all false
set_option maxRecDepth 100000
set_option maxHeartbeats 4000000
/-! The manager's other readers, focus, its making; done. -/
namespace K24
open PySem PySem.Spec PyProof.Rows L2 Z
section
variable {P : Program} {w : World} {K : PySem.W.Frag} {mg : PySem.Str → Option Value} {base : Heap}
/-- of the manager and a node -/
def spMn (K : PySem.W.Frag) (pre : List Nd → Nd → Prop) (f : Option PySem.Str → List (L2.Key × V) → Nd → V) : Sp := fun vs H Q _ => ∃ A T cur rov d, vs = [.ref (Ad.m A), .str (Nd.name d)] ∧ MgrAt K H A T cur rov ∧ d ∈ T ∧ pre T d ∧ Ret (isV (f cur rov d)) H Q
theorem spMn_len {pre : List Nd → Nd → Prop} {f : Option PySem.Str → List (L2.Key × V) → Nd → V} : ∀ vs H Q E, spMn K pre f vs H Q E → vs.length = 2 := fun vs H Q E ⟨_, _, _, _, _, e, _⟩ => by rw [e]; rfl
theorem ev_mn {X : Cx} {σ : L2.St} {B : Hp} {o e : Expr} {m : PySem.Str} {j k : Nat} {apos pos : Pos} {A : Ad} {T : List Nd} {cur : Option PySem.Str} {rov : List (L2.Key × V)} {d : Nd} {ps : List PySem.Str} {pre : List Nd → Nd → Prop} {f : Option PySem.Str → List (L2.Key × V) → Nd → V} {pl : Sem Bool} (F : Mtd X.prog X.w X.K X.mg X.base (He.ga X.K "Manager") m k ps (spMn X.K pre f)) (hr : Room j X.A) (hk : k ≤ j) (hM : MgrAt X.K B A T cur rov) (hd : d ∈ T) (hp : pre T d) (ho : Ev X o σ B (isV (.ref A.m))) (he : Ev X e σ B (isV (.str d.name))) (hn : ∀ km wt, (mgrFs A km wt).lookup m = none := by exact fun _ _ => rfl)
    (hst : starEach [e] X.env = (false, eval e X.env) :: starEach [] X.env := by rfl) (hpl : (backTo pos (starEach [] X.env)).any (·.1) = false := by rfl)
    (ht : eval (.Call (.Attribute o m apos) [e] [] pos) X.env = (do
      let ov ← eval o X.env
      standAt apos.atName
      let (f, first) ← holding [ov] (getMethod ov m pl)
      callWith pos f first (backTo pos (starEach [e] X.env)) (backToKw pos (keywordEach [] X.env))) := by rfl) :
    Ev X (.Call (.Attribute o m apos) [e] [] pos) σ B (isV (f cur rov d)) := by
  obtain ⟨mx, km, wt, h1⟩ := hM.mm
  exact ev_meth F hr hk ho h1 (hn km wt) (args1 he hst) (fun vs H d2 p2 Q q => by
    rw [p2.vals]
    exact ⟨A, T, cur, rov, d, rfl, hM.up d2, hd, hp, q⟩) hst hpl ht
theorem mt_mneed (c : Says K mg base) : Mtd P w K mg base (He.ga K "Manager") "need" 2 ["self", "name"] (spMn K (fun _ _ => True) fun _ _ _ => .non) := by
  refine mtd_of (fn_Manager_need c) (cls_Manager c) (me_Manager_need c) sc_Manager_need bi_Manager_need spMn_len ?_
  rintro cdv A0 outer s H vs Q E hr ⟨A, T, cur, rov, d, rfl, hM, hd, _, q⟩
  have e : (!decide (d.name ∈ T.map (·.name))) = false := by
    rw [decide_eq_true (List.mem_map.mpr ⟨d, hd, rfl⟩)]
    rfl
  exact sx_no (EvT.to (et_not (et_val (ev_has c hr (by decide) hM.lay.tr.at_ (ev_mtree c hM (ev_var 0 rfl)) (ev_var 1 rfl)))) e) (sx_nil fun H2 d2 => q .non H2 d2 rfl)
def spKind (K : PySem.W.Frag) : Sp := fun vs H Q _ => ∃ A T cur rov d w, vs = [.ref (Ad.m A), .str (Nd.name d), .ref (He.ga K "COMPOSITES"), .str w] ∧ MgrAt K H A T cur rov ∧ d ∈ T ∧ isComp T d.name = true ∧ Ret (isV .non) H Q
theorem mt_need_kind (c : Says K mg base) : Mtd P w K mg base (He.ga K "Manager") "need_kind" 3 ["self", "name", "kinds", "what"] (spKind K) := by
  refine mtd_of (fn_Manager_need_kind c) (cls_Manager c) (me_Manager_need_kind c) sc_Manager_need_kind bi_Manager_need_kind (fun vs H Q E ⟨_, _, _, _, _, _, e, _⟩ => by rw [e]; rfl) ?_
  rintro cdv A0 outer s H vs Q E hr ⟨A, T, cur, rov, d, wx, rfl, hM, hd, hc, q⟩
  refine sx_call (ev_mn (mt_mneed c) hr (by decide) hM hd trivial (ev_var 0 rfl) (ev_var 1 rfl)) ?_
  unfold isComp at hc
  rw [kindOf_of hM.lay.tr.wf hd] at hc
  refine sx_no (EvT.to (et_notInQ (ev_mrd (mt_kind c) hr (by decide) hM.lay.tr.at_ hd trivial (ev_mtree c hM (ev_var 0 rfl)) (ev_var 1 rfl)) ((ev_var 2 rfl).qT (tup_COMPOSITES c H)) inT_of rfl rfl) ?_) (sx_nil fun H2 d2 => q .non H2 d2 rfl)
  rw [show inV (V.str d.kind) (tv_COMPOSITES.map (He.Dv.v _)) = true from (inV_comp d.kind).trans hc]
  rfl
theorem mt_current_item (c : Says K mg base) : Mtd P w K mg base (He.ga K "Manager") "current_item" 4 ["self", "composite"] (spMn K (fun T d => isComp T d.name = true) fun _ rov d => (valV rov (Sum.inr d.name : L2.Key)).getD .non) := by
  refine mtd_of (fn_Manager_current_item c) (cls_Manager c) (me_Manager_current_item c) sc_Manager_current_item bi_Manager_current_item spMn_len ?_
  rintro cdv A0 outer s H vs Q E hr ⟨A, T, cur, rov, d, rfl, hM, hd, hc, q⟩
  obtain ⟨mx, km, wt, h1⟩ := hM.mm
  obtain ⟨lx, h2⟩ := hM.lay.ll
  refine sx_call (S := isV .non) (ev_meth (mt_need_kind c) hr (by decide) (ev_var 0 rfl) h1 rfl (ea_cons (ev_var 1 rfl) (ea_cons (ev_gref (glo_COMPOSITES c)) (ea_cons ev_str ea_nil))) fun vs H2 d2 p2 Q2 q2 => ?_) ?_
  · obtain ⟨_, _, rfl, rfl, _, _, rfl, rfl, _, _, rfl, rfl, rfl⟩ := p2
    exact ⟨A, T, cur, rov, d, _, rfl, hM.up d2, hd, hc, q2⟩
  · exact sx_ret (ev_dget1 (k := (Sum.inr d.name : L2.Key)) (ev_fld (ev_mlay c hM (ev_var 0 rfl)) h2 (cls_Layers c) (no_Layers_roving c) rfl) hM.lay.ro (ev_var 1 rfl) (hu_of hr) ⟨rfl, rfl, rfl, rfl⟩) q
theorem mt_layer_item (c : Says K mg base) : Mtd P w K mg base (He.ga K "Manager") "layer_item" 3 ["self", "layer"] (spMn K (fun _ d => d.name = "root") fun cur _ _ => oV cur) := by
  refine mtd_of (fn_Manager_layer_item c) (cls_Manager c) (me_Manager_layer_item c) sc_Manager_layer_item bi_Manager_layer_item spMn_len ?_
  rintro cdv A0 outer s H vs Q E hr ⟨A, T, cur, rov, d, rfl, hM, hd, hc, q⟩
  obtain ⟨mx, km, wt, h1⟩ := hM.mm
  obtain ⟨lx, h2⟩ := hM.lay.ll
  refine sx_call (ev_mn (mt_mneed c) hr (by decide) hM hd trivial (ev_var 0 rfl) (ev_var 1 rfl)) ?_
  refine sx_no (EvT.to (et_notInQ (ev_var 1 rfl) ((ev_fld (ev_mlay c hM (ev_var 0 rfl)) h2 (cls_Layers c) (no_Layers_stack c) rfl).qL (SqL.of hM.lay.sk)) inL_of rfl rfl) (by rw [hc]; rfl)) ?_
  refine sx_ret (ev_dget (k := (Sum.inr d.name : L2.Key)) (ev_fld (ev_mlay c hM (ev_var 0 rfl)) h2 (cls_Layers c) (no_Layers_current c) rfl) hM.lay.cu (ev_var 1 rfl) (valV_pos (by rw [hc])) (hu_of hr)) q
theorem mt_need_target (c : Says K mg base) : Mtd P w K mg base (He.ga K "Manager") "need_target" 5 ["self", "name"] (spMn K (fun T d => d.name ∈ itemsOf T "root") fun _ _ _ => .non) := by
  refine mtd_of (fn_Manager_need_target c) (cls_Manager c) (me_Manager_need_target c) sc_Manager_need_target bi_Manager_need_target spMn_len ?_
  rintro cdv A0 outer s H vs Q E hr ⟨A, T, cur, rov, d, rfl, hM, hd, hi, q⟩
  obtain ⟨_, _, hf, hl⟩ := item_facts hi
  refine sx_call (ev_mn (mt_mneed c) hr (by decide) hM hd trivial (ev_var 0 rfl) (ev_var 1 rfl)) ?_
  have e1 : (!focB T d.name) = false := by rw [hf]; rfl
  have e2 : (!decide (V.str (layOf T d.name) = V.str "root")) = false := by rw [hl]; rfl
  have wf := hM.lay.tr.wf
  exact sx_no (EvT.to (ew_or (et_not (et_val (ev_crdT (fc_is_focusable c) hr (by decide) hM.lay.tr.tabs hM.lay.tr.at_ hd wf (ev_mtree c hM (ev_var 0 rfl)) (ev_var 1 rfl)))) fun _ => ew_or1 (et_neS (ev_crd (fc_layer_of c) hr (by decide) hM.lay.tr.at_ hd wf (ev_mtree c hM (ev_var 0 rfl)) (ev_var 1 rfl)) (ev_lay (mt_top c) hr (by decide) hM.lay (ev_mlay c hM (ev_var 0 rfl)) rfl) rfl)).t (by rw [e1, e2]; rfl)) (sx_nil fun H2 d2 => q .non H2 d2 rfl)
def spMfocus (K : PySem.W.Frag) : Sp := fun vs H Q _ => ∃ A T cur rov d, vs = [.ref (Ad.m A), .str (Nd.name d)] ∧ MgrAt K H A T cur rov ∧ d ∈ T ∧ d.name ∈ itemsOf T "root" ∧ ∀ H2, MgrAt K H2 A T (some d.name) (rovP T rov d.name) → Exc (Mf A) H H2 → Q .non H2
theorem mt_mfocus (c : Says K mg base) : Mtd P w K mg base (He.ga K "Manager") "focus" 17 ["self", "name"] (spMfocus K) := by
  refine mtd_of (fn_Manager_focus c) (cls_Manager c) (me_Manager_focus c) sc_Manager_focus bi_Manager_focus (fun vs H Q E ⟨_, _, _, _, _, e, _⟩ => by rw [e]; rfl) ?_
  rintro cdv A0 outer s H vs Q E hr ⟨A, T, cur, rov, d, rfl, hM, hd, hi, q⟩
  obtain ⟨mx, km, wt, h1⟩ := hM.mm
  refine sx_call (ev_mn (mt_need_target c) hr (by decide) hM hd hi (ev_var 0 rfl) (ev_var 1 rfl)) ?_
  refine sx_drop fun H1 y1 => sE_meth (mt_go c) hr (by decide) (ev_var 0 rfl) h1 rfl (args1 (ev_var 1 rfl)) y1 fun vs H2 y2 p2 => ?_
  rw [p2.vals]
  refine ⟨A, T, cur, rov, d, rfl, hM.up (y1.trans y2), hd, hi, fun H3 hM3 e3 => ?_⟩
  refine (show SX _ _ _ _ H3 from ?_) H3 (Z.Ex.refl H3)
  exact sx_nil fun H4 d4 => q H4 (hM3.up d4) (((y1.trans y2).exc.trans e3).trans d4.exc)
end
end K24
set_option Elab.async false
set_option linter.all false
set_option maxRecDepth 100000
set_option maxHeartbeats 4000000
/-! The manager's making. -/
namespace Z
open PySem PySem.Spec PyProof.Rows L2
theorem Exc.free {F : Addr → Prop} {H B : Hp} {p : Addr} (e : Exc F H B) (n : ¬ F p) (h : B p = none) : H p = none := by
  cases z : H p with
  | none => rfl
  | some o =>
    rcases e p o z n with w | ⟨_, _, _, _, w, _⟩
    · rw [h] at w; cases w
    · rw [h] at w; cases w
theorem Exc.also {F G : Addr → Prop} {H H1 H2 : Hp} (e : Exc F H H1) (d : Exc G H1 H2) (g : ∀ q, G q → H q = none) : Exc F H H2 := fun a o h n => by
  have ng : ¬ G a := fun z => by
    rw [g a z] at h
    cases h
  rcases e a o h n with h1 | ⟨ps, qs, eo, t1, h1, t2⟩
  · exact d a o h1 ng
  · rcases d a _ h1 ng with h2 | ⟨ps', qs', eo', t1', h2, t2'⟩
    · exact Or.inr ⟨ps, qs, eo, t1, h2, t2⟩
    · exact Or.inr ⟨ps, qs', eo, t1, h2, t2'⟩
end Z
namespace K24
open PySem PySem.Spec PyProof.Rows L2 Z
theorem Good.nm {rows : List Nd} (g : Good rows) : Nm (rdg rows).1 := by
  have key : ∀ n, n ≤ rows.length → Nm (rdg (rows.take n)).1 := by
    intro n
    induction n with
    | zero => intro _ d hd; cases hd
    | succ n ih =>
      intro hn d hd
      have h1 := List.getElem?_eq_getElem (show n < rows.length from hn)
      obtain ⟨ok, _⟩ := g.ok n _ h1
      rw [take_snoc h1, rdg_snoc] at hd
      rcases List.mem_append.mp hd with z | z
      · exact ih (by omega) d z
      · rw [List.mem_singleton.mp z]
        exact ⟨ok.name, ok.label⟩
  have z := key rows.length (Nat.le_refl _)
  rwa [List.take_length] at z
section
variable {P : Program} {w : World} {K : PySem.W.Frag} {mg : PySem.Str → Option Value} {base : Heap}
def spBindI (K : PySem.W.Frag) : Sp := fun vs H Q _ => ∃ b dx, vs = [.ref b] ∧ H b = some (.ins (He.ga K "Bindings") dx []) ∧ ∀ H2, Exc (fun q => q = b) H H2 → Q .non H2
theorem mk_Bindings (c : Says K mg base) : Mak P w K mg base "Bindings" (He.ga K "Bindings") 1 ["self"] (spBindI K) := by
  refine mak_of (fn_Bindings_init c) (glo_Bindings c) (mkr_Bindings c) sc_Bindings_init bi_Bindings_init (fun vs H Q E ⟨b, dx, e, _⟩ => by rw [e]; rfl) ?_
  rintro cdv A outer s H vs Q E hr ⟨b, dx, rfl, hb, q⟩
  exact sx_fldN (ev_lst (vs := []) ea_nil (Nat.zero_le _)) (ev_var 0 rfl) hb (cls_Bindings c) (no_Bindings_rows c) (show (0 : Nat) < 1000 by decide) fun r f1 => sx_nil fun H2 d2 => q H2 (((Z.Ex.new f1).exc.put (F := fun q => q = b) rfl).trans d2.exc)
def spMgrI (K : PySem.W.Frag) : Sp := fun vs H Q _ => ∃ b dx rows, vs = [.ref b, .str (textOf rows)] ∧ H b = some (.ins (He.ga K "Manager") dx []) ∧ Good rows ∧ TabsOn K H ∧ (textOf rows).length ≤ 100000 ∧
  ∀ A H2, A.m = b → MgrAt K H2 A (rdg rows).1 (itemsOf (rdg rows).1 "root").head? (rovI (rdg rows).1 (outsOf (rdg rows).1)) → H A.cu = none → H A.ro = none → H A.an = none → Exc (fun q => q = b) H H2 → Q .non H2
theorem mk_Manager (c : Says K mg base) : Mak P w K mg base "Manager" (He.ga K "Manager") 15 ["self", "outline"] (spMgrI K) := by
  refine mak_of (fn_Manager_init c) (glo_Manager c) (mkr_Manager c) sc_Manager_init bi_Manager_init (fun vs H Q E ⟨_, _, _, e, _⟩ => by rw [e]; rfl) ?_
  rintro cdv A0 outer s H vs Q E hr ⟨b, dx, rows, rfl, hb, g, hS, hz, q⟩
  have S := sc_Manager_init
  have stp : ∀ {B B2 : Hp} {fs : List (PySem.Str × V)} {f : PySem.Str} {v : V}, Exc (fun q => q = b) H B → Z.Ex B B2 → Exc (fun q => q = b) H (upd B2 b (.ins (He.ga K "Manager") dx (putF f v fs))) := fun e x => (e.trans x.exc).put rfl
  -- self.tree
  refine sx_fldE (p := b) (fun H1 y1 => ?_) (cls_Manager c) (no_Manager_tree c)
  refine sE_call (fc_parse_outline c) hr (by decide) (args1 (ev_var 1 rfl)) y1 fun vs H2 d2 p2 => ?_
  rw [p2.vals]
  refine ⟨rows, rfl, g, hS.up (y1.trans d2), hz, fun t H3 x3 tr => ?_⟩
  refine (ev_var 0 rfl : Ev _ _ _ H3 (isV (.ref b))) H3 (Z.Ex.refl _) _ fun w4 H4 d4 p4 => ⟨p4, dx, [], (x3.trans d4 |> fun z => ((y1.trans d2).trans z).get hb), (show (0 : Nat) < 1000 by decide), ?_⟩
  have hb4 : H4 b = some (.ins (He.ga K "Manager") dx []) := ((y1.trans d2).trans (x3.trans d4)).get hb
  have tr4 := tr.up d4
  have e5 : Exc (fun q => q = b) H (upd H4 b (.ins (He.ga K "Manager") dx (putF "tree" (.ref t) []))) := stp (((y1.trans d2).trans (x3.trans d4)).exc) (Z.Ex.refl _)
  have m4 : Mus (fun q => q = b) H4 := fun q o hq ho => by
    rw [hq, hb4] at ho
    cases ho
    rfl
  have tr5 : Tr K (upd H4 b (.ins (He.ga K "Manager") dx (putF "tree" (.ref t) []))) t (rdg rows).1 := tr4.exc (((Z.Ex.refl H4).exc.put (F := fun q => q = b)) rfl) m4
  refine (show SX _ _ _ _ (upd H4 b (.ins (He.ga K "Manager") dx (putF "tree" (.ref t) []))) from ?_) _ (Z.Ex.refl _)
  have hb5 : (upd H4 b (.ins (He.ga K "Manager") dx (putF "tree" (.ref t) []))) b = some (.ins (He.ga K "Manager") dx [("tree", .ref t)]) := upd_same
  generalize upd H4 b (.ins (He.ga K "Manager") dx (putF "tree" (.ref t) [])) = B1 at e5 tr5 hb5
  clear m4 hb4 tr4
  -- self.layers
  refine sx_fldE (p := b) (fun H5 y5 => ?_) (cls_Manager c) (no_Manager_layers c)
  refine sE_make (mk_Layers c) hr (by decide) (args1 (ev_fld (ev_var 0 rfl) hb5 (cls_Manager c) (no_Manager_tree c) rfl)) y5 fun vs H6 d6 p6 ly lx n1 n2 n3 => ?_
  rw [p6.vals]
  have xL : Z.Ex H6 (upd (upd H6 lx (.own ly)) ly (.ins (He.ga K "Layers") lx [])) := (Z.Ex.new n2).mut n1
  refine ⟨ly, lx, t, _, rfl, upd_same, tr5.up ((y5.trans d6).trans xL), fun A1 H7 a1 a2 hL fcu fro e7 => ⟨rfl, ?_⟩⟩
  have x7 : Z.Ex B1 H7 := (y5.trans d6).trans (Exc.low xL e7 fun q z => by rw [z]; exact n1)
  have fcu6 := xL.free fcu
  have fro6 := xL.free fro
  refine (ev_var 0 rfl : Ev _ _ _ H7 (isV (.ref b))) H7 (Z.Ex.refl _) _ fun w8 H8 d8 p8 => ⟨p8, dx, _, (x7.trans d8).get hb5, (show (1 : Nat) < 1000 by decide), ?_⟩
  have hb8 := (x7.trans d8).get hb5
  have e8 : Exc (fun q => q = b) H (upd H8 b (.ins (He.ga K "Manager") dx (putF "layers" (.ref ly) [("tree", .ref t)]))) := stp e5 (x7.trans d8)
  have m8 : Mus (fun q => q = b) H8 := fun q o hq ho => by
    rw [hq, hb8] at ho
    cases ho
    rfl
  have lyb : A1.ly ≠ b := fun z => by
    rw [a1] at z
    rw [z, (y5.trans d6).get hb5] at n1
    cases n1
  have cub : A1.cu ≠ b := fun z => by
    rw [z, (y5.trans d6).get hb5] at fcu6
    cases fcu6
  have rob : A1.ro ≠ b := fun z => by
    rw [z, (y5.trans d6).get hb5] at fro6
    cases fro6
  have fcuH : H A1.cu = none := (e5.trans (y5.trans d6).exc).free cub fcu6
  have froH : H A1.ro = none := (e5.trans (y5.trans d6).exc).free rob fro6
  have hL9 : LayAt K (upd H8 b (.ins (He.ga K "Manager") dx (putF "layers" (.ref ly) [("tree", .ref t)]))) A1 (rdg rows).1 _ _ := (hL.up d8).exc (((Z.Ex.refl H8).exc.put (F := fun q => q = b)) rfl) m8 lyb cub rob
  refine (show SX _ _ _ _ (upd H8 b (.ins (He.ga K "Manager") dx (putF "layers" (.ref ly) [("tree", .ref t)]))) from ?_) _ (Z.Ex.refl _)
  have hb9 : (upd H8 b (.ins (He.ga K "Manager") dx (putF "layers" (.ref ly) [("tree", .ref t)]))) b = some (.ins (He.ga K "Manager") dx [("tree", .ref t), ("layers", .ref ly)]) := upd_same
  generalize upd H8 b (.ins (He.ga K "Manager") dx (putF "layers" (.ref ly) [("tree", .ref t)])) = B2 at e8 hL9 hb9
  clear m8 hb8
  -- self.keymap
  refine sx_fldE (p := b) (fun H5 y5 => ?_) (cls_Manager c) (no_Manager_keymap c)
  refine sE_make0 (mk_Bindings c) hr (by decide) fun kb kx k1 k2 k3 => ?_
  have xK : Z.Ex H5 (upd (upd H5 kx (.own kb)) kb (.ins (He.ga K "Bindings") kx [])) := (Z.Ex.new k2).mut k1
  refine ⟨kb, kx, rfl, upd_same, fun H10 e10 => ⟨rfl, ?_⟩⟩
  have x10 : Z.Ex B2 H10 := y5.trans (Exc.low xK e10 fun q z => by rw [z]; exact k1)
  refine (ev_var 0 rfl : Ev _ _ _ H10 (isV (.ref b))) H10 (Z.Ex.refl _) _ fun w11 H11 d11 p11 => ⟨p11, dx, _, (x10.trans d11).get hb9, (show (2 : Nat) < 1000 by decide), ?_⟩
  have hb11 := (x10.trans d11).get hb9
  have m11 : Mus (fun q => q = b) H11 := fun q o hq ho => by
    rw [hq, hb11] at ho
    cases ho
    rfl
  have e12 : Exc (fun q => q = b) H (upd H11 b (.ins (He.ga K "Manager") dx (putF "keymap" (.ref kb) [("tree", .ref t), ("layers", .ref ly)]))) := stp e8 (x10.trans d11)
  have hL12 := (hL9.up (x10.trans d11)).exc (((Z.Ex.refl H11).exc.put (F := fun q => q = b) (p := b) (o := .ins (He.ga K "Manager") dx (putF "keymap" (.ref kb) [("tree", .ref t), ("layers", .ref ly)]))) rfl) m11 lyb cub rob
  refine (show SX _ _ _ _ (upd H11 b (.ins (He.ga K "Manager") dx (putF "keymap" (.ref kb) [("tree", .ref t), ("layers", .ref ly)]))) from ?_) _ (Z.Ex.refl _)
  have hb12 : (upd H11 b (.ins (He.ga K "Manager") dx (putF "keymap" (.ref kb) [("tree", .ref t), ("layers", .ref ly)]))) b = some (.ins (He.ga K "Manager") dx [("tree", .ref t), ("layers", .ref ly), ("keymap", .ref kb)]) := upd_same
  generalize upd H11 b (.ins (He.ga K "Manager") dx (putF "keymap" (.ref kb) [("tree", .ref t), ("layers", .ref ly)])) = B3 at e12 hL12 hb12
  clear m11 hb11
  -- self.waiting
  refine sx_fldN (ob := .tup []) (nb := rfl) (ev_tup (vs := []) ea_nil (Nat.zero_le _)) (ev_var 0 rfl) hb12 (cls_Manager c) (no_Manager_waiting c) (show (3 : Nat) < 1000 by decide) fun wt fw => ?_
  have xw : Z.Ex B3 (upd B3 wt (.tup [])) := Z.Ex.new fw
  have hbw := xw.get hb12
  have mw : Mus (fun q => q = b) (upd B3 wt (.tup [])) := fun q o hq ho => by
    rw [hq, hbw] at ho
    cases ho
    rfl
  have e13 : Exc (fun q => q = b) H (upd (upd B3 wt (.tup [])) b (.ins (He.ga K "Manager") dx (putF "waiting" (.ref wt) [("tree", .ref t), ("layers", .ref ly), ("keymap", .ref kb)]))) := stp e12 xw
  have hL13 := (hL12.up xw).exc (((Z.Ex.refl _).exc.put (F := fun q => q = b) (p := b) (o := .ins (He.ga K "Manager") dx (putF "waiting" (.ref wt) [("tree", .ref t), ("layers", .ref ly), ("keymap", .ref kb)]))) rfl) mw lyb cub rob
  have hb13 : (upd (upd B3 wt (.tup [])) b (.ins (He.ga K "Manager") dx (putF "waiting" (.ref wt) [("tree", .ref t), ("layers", .ref ly), ("keymap", .ref kb)]))) b = some (.ins (He.ga K "Manager") dx [("tree", .ref t), ("layers", .ref ly), ("keymap", .ref kb), ("waiting", .ref wt)]) := upd_same
  generalize upd (upd B3 wt (.tup [])) b (.ins (He.ga K "Manager") dx (putF "waiting" (.ref wt) [("tree", .ref t), ("layers", .ref ly), ("keymap", .ref kb)])) = B4 at e13 hL13 hb13
  clear mw hbw
  -- self.announcements
  refine sx_fldE (p := b) (fun H5 y5 => ?_) (cls_Manager c) (no_Manager_announcements c)
  refine sE_make0 (mk_Announcements c) hr (by decide) fun an ax k4 k5 k6 => ?_
  have xA : Z.Ex H5 (upd (upd H5 ax (.own an)) an (.ins (He.ga K "Announcements") ax [])) := (Z.Ex.new k5).mut k4
  refine ⟨an, ax, rfl, upd_same, fun H14 hA14 e14 => ⟨rfl, ?_⟩⟩
  have x14 : Z.Ex B4 H14 := y5.trans (Exc.low xA e14 fun q z => by rw [z]; exact k4)
  refine (ev_var 0 rfl : Ev _ _ _ H14 (isV (.ref b))) H14 (Z.Ex.refl _) _ fun w15 H15 d15 p15 => ⟨p15, dx, _, (x14.trans d15).get hb13, (show (4 : Nat) < 1000 by decide), ?_⟩
  have hb15 := (x14.trans d15).get hb13
  have m15 : Mus (fun q => q = b) H15 := fun q o hq ho => by
    rw [hq, hb15] at ho
    cases ho
    rfl
  have anb : an ≠ b := fun z => by
    rw [z, y5.get hb13] at k4
    cases k4
  have fanH : H an = none := (e13.trans y5.exc).free anb k4
  have e16 : Exc (fun q => q = b) H (upd H15 b (.ins (He.ga K "Manager") dx (putF "announcements" (.ref an) [("tree", .ref t), ("layers", .ref ly), ("keymap", .ref kb), ("waiting", .ref wt)]))) := stp e13 (x14.trans d15)
  have eb : Exc (fun q => q = b) H15 (upd H15 b (.ins (He.ga K "Manager") dx (putF "announcements" (.ref an) [("tree", .ref t), ("layers", .ref ly), ("keymap", .ref kb), ("waiting", .ref wt)]))) := (Z.Ex.refl H15).exc.put rfl
  have hL16 := (hL13.up (x14.trans d15)).exc eb m15 lyb cub rob
  have hA16 := (hA14.up d15).exc eb m15 anb
  refine (show SX _ _ _ _ (upd H15 b (.ins (He.ga K "Manager") dx (putF "announcements" (.ref an) [("tree", .ref t), ("layers", .ref ly), ("keymap", .ref kb), ("waiting", .ref wt)]))) from ?_) _ (Z.Ex.refl _)
  have hb16 : (upd H15 b (.ins (He.ga K "Manager") dx (putF "announcements" (.ref an) [("tree", .ref t), ("layers", .ref ly), ("keymap", .ref kb), ("waiting", .ref wt)]))) b = some (.ins (He.ga K "Manager") dx [("tree", .ref t), ("layers", .ref ly), ("keymap", .ref kb), ("waiting", .ref wt), ("announcements", .ref an)]) := upd_same
  generalize upd H15 b (.ins (He.ga K "Manager") dx (putF "announcements" (.ref an) [("tree", .ref t), ("layers", .ref ly), ("keymap", .ref kb), ("waiting", .ref wt)])) = B5 at e16 hL16 hA16 hb16
  obtain ⟨_, at_, aly, ask, aop, acu, aro, _⟩ := A1
  have a1 : aly = ly := a1
  have a2 : at_ = t := a2
  subst a1 a2
  have hM : MgrAt K B5 ⟨b, at_, aly, ask, aop, acu, aro, an⟩ (rdg rows).1 (itemsOf (rdg rows).1 "root").head? (rovI (rdg rows).1 (outsOf (rdg rows).1)) :=
    ⟨⟨dx, .ref kb, .ref wt, hb16⟩, ⟨hL16.ll, hL16.sk, hL16.cu, hL16.ro, hL16.ne, hL16.tr, hL16.ci, hL16.rm, hL16.rl⟩, hA16, g.nm, fun n hn => List.mem_of_mem_head? (Option.mem_def.mpr hn)⟩
  refine sx_drop fun H17 y17 => ?_
  refine sE_meth0 (mt_told c) hr (by decide) (ev_var 0 rfl) hb16 rfl y17 fun H18 d18 => ?_
  refine ⟨_, _, _, _, rfl, hM.up (y17.trans d18), fun H19 hM19 e19 => ?_⟩
  refine (show SX _ _ _ _ H19 from ?_) H19 (Z.Ex.refl H19)
  exact sx_nil fun H20 d20 => q _ H20 rfl (hM19.up d20) fcuH froH fanH (((e16.trans (y17.trans d18).exc).also e19 fun q z => by rw [z]; exact fanH).trans d20.exc)
end
end K24
set_option Elab.async false
set_option linter.all false
set_option maxRecDepth 100000
set_option maxHeartbeats 4000000
/-! done_as_move, done, _law_did. -/
namespace Z
open PySem PySem.Spec PyProof.Rows L2
section
variable {X : Cx} {σ : L2.St} {B : Hp} {a b c e : Expr} {pos p : Pos} {D : Ends} {rest body : List Stmt}
theorem sE_ifT {H : Hp} {Q : VK} (h : EvT X c σ B true) (d : Ex B H) (k : ∀ H2, Ex H H2 → sE X a σ H2 Q) : sE X (.IfExp c a b pos) σ H Q := fun pins s I =>
  (pe_ifExp (pt_s c) (pe_s a) (pe_s b)).run pins s σ H Q I (h H d _ fun H2 d2 => iteT (k H2 d2))
theorem sE_ifF {H : Hp} {Q : VK} (h : EvT X c σ B false) (d : Ex B H) (k : ∀ H2, Ex H H2 → sE X b σ H2 Q) : sE X (.IfExp c a b pos) σ H Q := fun pins s I =>
  (pe_ifExp (pt_s c) (pe_s a) (pe_s b)).run pins s σ H Q I (h H d _ fun H2 d2 => iteF (k H2 d2))
end
theorem sx_try {Y : Cx} {σ : L2.St} {B : Hp} {pos : Pos} {D : Ends} {rest body : List Stmt} {h0 : ExceptHandler} {hs : List ExceptHandler} (k : SX Y.nox body { D with nx := sS Y.nox rest D } σ B) : SX Y.nox (.Try body (h0 :: hs) [] [] pos :: rest) D σ B :=
  sx_step (ps_try_thru0 (t := sS Y.nox body) (ps_s (X := Y.nox) body)) fun H d => k H d
end Z
namespace K24
open PySem PySem.Spec PyProof.Rows L2 Z
/-- a deed of the law -/
inductive Dd where
  | mv (m : Mv)
  | tx (x : PySem.Str)
def mvL : Mv → PySem.Str
  | .next => "next_item"
  | .prev => "previous_item"
  | .first => "first_item"
  | .last => "last_item"
def ddV : Dd → List V
  | .mv m => [.str (mvL m)]
  | .tx x => [.str "typeahead", .str x]
def ddOk : Dd → Prop
  | .mv _ => True
  | .tx x => x ∈ textsL
def stepD (T : List Nd) (s : St2) : Dd → St2
  | .mv m => movS T s m
  | .tx x => typS T s x
section
variable {P : Program} {w : World} {K : PySem.W.Frag} {mg : PySem.Str → Option Value} {base : Heap}
def spDone (K : PySem.W.Frag) : Sp := fun vs H Q _ => ∃ A T cur rov dd D, vs = [.ref (Ad.m A), .ref dd] ∧ MgrAt K H A T cur rov ∧ H dd = some (.tup (ddV D)) ∧ ddOk D ∧ ∀ H2, MgrAt K H2 A T (stepD T (cur, rov) D).1 (stepD T (cur, rov) D).2 → Exc (Mf A) H H2 → Q (oV (stepD T (cur, rov) D).1) H2
theorem spDone_len : ∀ vs H Q E, spDone K vs H Q E → vs.length = 2 := fun vs H Q E ⟨_, _, _, _, _, _, e, _⟩ => by rw [e]; rfl
theorem dd_at0 (D : Dd) : ∃ x, atI (ddV D) 0 = some (.str x) ∧ (∀ m, D = .mv m → x = mvL m) ∧ ∀ t, D = .tx t → x = "typeahead" := by
  cases D with
  | mv m => exact ⟨mvL m, atI_nat (j := 0) rfl, fun m2 e => (by cases e; rfl), fun t e => by cases e⟩
  | tx x => exact ⟨"typeahead", atI_nat (j := 0) rfl, fun m2 e => (by cases e), fun t e => rfl⟩
theorem fc_done_as_move (c : Says K mg base) : Cal P w K mg base "done_as_move" 19 ["manager", "deed"] (spDone K) := by
  refine cal_of (fn_done_as_move c) (glo_done_as_move c) sc_done_as_move bi_done_as_move spDone_len ?_
  rintro cdv A0 outer s H vs Q E hr ⟨A, T, cur, rov, dd, D, rfl, hM, hd, ok, q⟩
  have S := sc_done_as_move
  obtain ⟨mx, km, wt, h1⟩ := hM.mm
  have no : ∀ {X : Cx} {σ : L2.St} {e : Expr} {x y : PySem.Str} {i : Nat} {p2 p3 : Pos}, Ev X e σ H (isV (.str x)) → x ≠ y → EvT X (.Compare e [.Eq] [.Constant (.str y) i p2] p3) σ H false := fun h n => EvT.to (et_eqS h ev_str rfl) (by rw [str_dec]; exact decide_eq_false n)
  have yes : ∀ {X : Cx} {σ : L2.St} {e : Expr} {x : PySem.Str} {i : Nat} {p2 p3 : Pos}, Ev X e σ H (isV (.str x)) → EvT X (.Compare e [.Eq] [.Constant (.str x) i p2] p3) σ H true := fun h => EvT.to (et_eqS h ev_str rfl) (decide_eq_true rfl)
  cases D with
  | mv m =>
    refine sx_asgV 2 (v := .str (mvL m)) (ev_ixT ((ev_var 1 rfl).qT (SqT.of hd)) ev_int (atI_nat (j := 0) rfl)) ?_
    cases m with
    | next =>
      refine sx_no (no (ev_var 2 rfl) (by decide +kernel)) (sx_no (no (ev_var 2 rfl) (by decide +kernel)) (sx_yes (yes (ev_var 2 rfl)) (sx_retE fun H1 y1 => sE_meth0 (mt_next_item c) hr (by decide) (ev_var 0 rfl) h1 rfl y1 fun H2 y2 => ?_)))
      exact ⟨A, T, cur, rov, rfl, hM.up (y1.trans y2), fun H3 hM3 e3 => q H3 hM3 ((y1.trans y2).exc.trans e3)⟩
    | prev =>
      refine sx_no (no (ev_var 2 rfl) (by decide +kernel)) (sx_no (no (ev_var 2 rfl) (by decide +kernel)) (sx_no (no (ev_var 2 rfl) (by decide +kernel)) (sx_yes (yes (ev_var 2 rfl)) (sx_retE fun H1 y1 => sE_meth0 (mt_previous_item c) hr (by decide) (ev_var 0 rfl) h1 rfl y1 fun H2 y2 => ?_))))
      exact ⟨A, T, cur, rov, rfl, hM.up (y1.trans y2), fun H3 hM3 e3 => q H3 hM3 ((y1.trans y2).exc.trans e3)⟩
    | first =>
      refine sx_no (no (ev_var 2 rfl) (by decide +kernel)) (sx_no (no (ev_var 2 rfl) (by decide +kernel)) (sx_no (no (ev_var 2 rfl) (by decide +kernel)) (sx_no (no (ev_var 2 rfl) (by decide +kernel)) (sx_yes (yes (ev_var 2 rfl)) (sx_retE fun H1 y1 => sE_meth0 (mt_first_item c) hr (by decide) (ev_var 0 rfl) h1 rfl y1 fun H2 y2 => ?_)))))
      exact ⟨A, T, cur, rov, rfl, hM.up (y1.trans y2), fun H3 hM3 e3 => q H3 hM3 ((y1.trans y2).exc.trans e3)⟩
    | last =>
      refine sx_no (no (ev_var 2 rfl) (by decide +kernel)) (sx_no (no (ev_var 2 rfl) (by decide +kernel)) (sx_no (no (ev_var 2 rfl) (by decide +kernel)) (sx_no (no (ev_var 2 rfl) (by decide +kernel)) (sx_no (no (ev_var 2 rfl) (by decide +kernel)) (sx_retE fun H1 y1 => sE_ifT (yes (ev_var 2 rfl)) y1 fun H2 y2 => sE_meth0 (mt_last_item c) hr (by decide) (ev_var 0 rfl) h1 rfl (y1.trans y2) fun H3 y3 => ?_)))))
      exact ⟨A, T, cur, rov, rfl, hM.up ((y1.trans y2).trans y3), fun H4 hM4 e4 => q H4 hM4 (((y1.trans y2).trans y3).exc.trans e4)⟩
  | tx x =>
    refine sx_asgV 2 (v := .str "typeahead") (ev_ixT ((ev_var 1 rfl).qT (SqT.of hd)) ev_int (atI_nat (j := 0) rfl)) ?_
    refine sx_no (no (ev_var 2 rfl) (by decide +kernel)) (sx_no (no (ev_var 2 rfl) (by decide +kernel)) (sx_no (no (ev_var 2 rfl) (by decide +kernel)) (sx_no (no (ev_var 2 rfl) (by decide +kernel)) (sx_no (no (ev_var 2 rfl) (by decide +kernel)) (sx_retE fun H1 y1 => sE_ifF (no (ev_var 2 rfl) (by decide +kernel)) y1 fun H2 y2 => sE_meth (mt_typeahead c) hr (by decide) (ev_var 0 rfl) h1 rfl (args1 (v := .str x) (ev_ixT ((ev_var 1 rfl).qT (SqT.of hd)) ev_int (atI_nat (j := 1) rfl))) (y1.trans y2) fun vs H3 y3 p3 => ?_)))))
    rw [p3.vals]
    exact ⟨A, T, cur, rov, x, rfl, ok, hM.up ((y1.trans y2).trans y3), fun H4 hM4 e4 => q H4 hM4 (((y1.trans y2).trans y3).exc.trans e4)⟩
theorem dd_first (D : Dd) : ∃ x, (ddV D)[0]? = some (.str x) ∧ inV (.str x) (tv_TREE_DEEDS.map (He.Dv.v K)) = false ∧ inV (.str x) (tv_MOVES.map (He.Dv.v K)) = true := by
  cases D with
  | mv m => cases m <;> exact ⟨_, rfl, rfl, rfl⟩
  | tx x => exact ⟨_, rfl, rfl, rfl⟩
theorem fc_done (c : Says K mg base) : Cal P w K mg base "done" 20 ["manager", "deed"] (spDone K) := by
  refine cal_of (fn_done c) (glo_done c) sc_done bi_done spDone_len ?_
  rintro cdv A0 outer s H vs Q E hr ⟨A, T, cur, rov, dd, D, rfl, hM, hd, ok, q⟩
  obtain ⟨x, hx, i1, i2⟩ := dd_first (K := K) D
  refine sx_no (EvT.to (et_inQ (ev_ixT ((ev_var 1 rfl).qT (SqT.of hd)) ev_int (atI_nat (j := 0) hx)) ((ev_gref (glo_TREE_DEEDS c)).qT (tup_TREE_DEEDS c H)) inT_of rfl rfl) i1) ?_
  refine sx_yes (EvT.to (et_inQ (ev_ixT ((ev_var 1 rfl).qT (SqT.of hd)) ev_int (atI_nat (j := 0) hx)) ((ev_gref (glo_MOVES c)).qT (tup_MOVES c H)) inT_of rfl rfl) i2) (sx_retE fun H1 y1 => sE_call (fc_done_as_move c) hr (by decide) (args2 (ev_var 0 rfl) (ev_var 1 rfl)) y1 fun vs H2 y2 p2 => ?_)
  rw [p2.vals]
  exact ⟨A, T, cur, rov, dd, D, rfl, hM.up (y1.trans y2), (y1.trans y2).get hd, ok, fun H3 hM3 e3 => q H3 hM3 ((y1.trans y2).exc.trans e3)⟩
theorem fc_law_did (c : Says K mg base) : Cal P w K mg base "_law_did" 21 ["_law_manager", "_law_deed"] (spDone K) := by
  refine cal_of (fn__law_did c) (glo__law_did c) sc__law_did bi__law_did spDone_len ?_
  rintro cdv A0 outer s H vs Q E hr ⟨A, T, cur, rov, dd, D, rfl, hM, hd, ok, q⟩
  refine sx_try (sx_retE fun H1 y1 => sE_call (fc_done c) hr (by decide) (args2 (ev_var 0 rfl) (ev_var 1 rfl)) y1 fun vs H2 y2 p2 => ?_)
  rw [p2.vals]
  exact ⟨A, T, cur, rov, dd, D, rfl, hM.up (y1.trans y2), (y1.trans y2).get hd, ok, fun H3 hM3 e3 => q H3 hM3 ((y1.trans y2).exc.trans e3)⟩
end
end K24
set_option Elab.async false
set_option linter.all false
set_option maxRecDepth 100000
set_option maxHeartbeats 400000
/-! The law's own tree. -/
namespace Z
open PySem PySem.Spec PyProof.Rows L2
section
variable {X : Cx} {σ : L2.St} {B : Hp} {S : VS} {a e c kx vx : Expr} {pos p p2 : Pos} {D : Ends} {rest body : List Stmt}
/-- over the list at p, whatever the target -/
theorem sx_forG {tg : Expr} {g : TG} {xs : List V} {p : Addr} (hl : Ev X e σ B (isV (.ref p))) (hg : PG X tg g) (W : Nat → L2.St → Hp → Prop) (w0 : W 0 σ B) (wl : ∀ i σ B, W i σ B → SqL X.K B p xs)
    (ws : ∀ i v σ B, xs[i]? = some v → W i σ B → ∀ H, Ex B H → g v σ H fun σ2 H2 => sS X body (Turned X D rest (Up (W (i + 1)))) σ2 H2) (wd : ∀ σ B, W xs.length σ B → SX X rest D σ B)
    (hp : PassesOwn (model X.prog X.w) X.A X.env X.xe := by exact PassesOwn.never) (hc : X.calm = true := by rfl) (hs : ∀ x, foldedSetIterable e X.env x = pure x := by intro _; rfl) : SX X (.For tg e body [] pos :: rest) D σ B :=
  sx_step (ps_for hp hc (pi_list (pe_s e)) hg (ps_s body) hs) fun H d => hl H d _ fun u H2 d2 z => by
    have z : u = .ref p := z
    subst z
    exact ⟨p, rfl, ⟨xs, (d.trans d2).seqL (wl 0 σ B w0)⟩, for_list (xs := xs) (fun i σ H => Up (W i) σ H) ⟨B, d.trans d2, w0⟩ (fun i σ H _ ⟨B1, x1, w1⟩ => x1.seqL (wl i σ B1 w1)) (fun i v σ H hi ⟨B1, x1, w1⟩ => ws i v σ B1 hi w1 H x1) (fun σ H ⟨B1, x1, w1⟩ => wd σ B1 w1 H x1)⟩
/-- {k: v, ..}, pair by pair: kept shut, so that nobody looks inside -/
def trsOf (X : Cx) : List (Option Expr) → List Expr → List (TE × TE)
  | some k :: ks, v :: vs => (sE X k, sE X v) :: trsOf X ks vs
  | _, _ => []
theorem pps_of (X : Cx) (pos : Pos) : ∀ (keys : List (Option Expr)) (values : List Expr), keys.all (·.isSome) = true → keys.length = values.length → PPs X pos keys values (trsOf X keys values)
  | [], [], _, _ => pps_nil
  | [], _ :: _, _, h => by cases h
  | _ :: _, [], _, h => by cases h
  | none :: _, _ :: _, h, _ => by cases h
  | some k :: ks, v :: vs, h, h2 => pps_cons (pe_s k) (pe_s v) (pps_of X pos ks vs h (Nat.succ.inj h2))
structure TPw (X : Cx) (keys : List (Option Expr)) (values : List Expr) (σ : L2.St) (H : Hp) (Q : List (V × V) → Hp → Prop) : Prop where
  h : tPairs (trsOf X keys values) σ H Q
/-- x = {k: v, ..} -/
structure DispK (X : Cx) (D : Ends) (rest : List Stmt) (i : Nat) (σ : L2.St) (keys : List (Option Expr)) (values : List Expr) (H : Hp) : Prop where
  h : ∀ p, H p = none → TPw X keys values σ (upd H p (.dK [])) fun ps H2 => H2 p = some (.dK []) ∧ ∃ xs : List (L2.Key × V), ps = xs.map (fun kv => (kV kv.1, kv.2)) ∧ xs.length ≤ 15 ∧ sS X rest D (σ.set i (some (.ref p))) (upd H2 p (.dK (mergeK [] xs)))
theorem sx_asgD (i : Nat) {x : Str} {pos2 : Pos} {keys : List (Option Expr)} {values : List Expr} (k : ∀ H, Ex B H → DispK X D rest i σ keys values H)
    (hall : keys.all (·.isSome) = true := by rfl) (hl : keys.length = values.length := by rfl) (h0 : keys.isEmpty = false := by rfl) (h15 : Nat.ble keys.length 15 = true := by rfl)
    (hN : X.N.Nodup := by exact FnScope.nd (by assumption)) (hi : X.N[i]? = some x := by rfl) (hx : Loc X.env.scope x := by first | exact Or.inl rfl | exact Or.inr rfl)
    (hf : X.fn x = true ∨ X.env.scope.names.lookup x = some .local := by first | exact .inl rfl | exact .inr rfl) : SX X (.Assign [.Name x p2] (.Dict keys values pos) pos2 :: rest) D σ B :=
  sx_asgE i (fun H d pins s I => (pe_disp (pps_of X pos keys values hall hl) hall hl (fun z => by rw [z] at h0; cases h0) (Nat.le_of_ble_eq_true h15)).run pins s σ H _ I fun p fp => ((k H d).h p fp).h) hN hi hx rfl hf
theorem tp_cons {H : Hp} {key : L2.Key} {ks : List (Option Expr)} {vs : List Expr} {Q : List (V × V) → Hp → Prop} (hk : Ev X kx σ H (isV (kV key))) (hv : Ev X vx σ H S) (k : ∀ y H2, Ex H H2 → S.P H2 y → TPw X ks vs σ H2 fun ps H3 => Q ((kV key, y) :: ps) H3) : TPw X (some kx :: ks) (vx :: vs) σ H Q :=
  ⟨hk H (Ex.refl H) _ fun x H1 d1 p1 => hv H1 d1 _ fun y H2 d2 p2 => by
    have p1 : x = kV key := p1
    subst p1
    exact (k y H2 (d1.trans d2) p2).h⟩
theorem tp_nil {H : Hp} {Q : List (V × V) → Hp → Prop} (h : Q [] H) : TPw X [] [] σ H Q := ⟨h⟩
end
end Z
namespace K24
open PySem PySem.Spec PyProof.Rows L2 Z
/-- values by the nodes' names -/
def kvN (f : Nd → V) (T : List Nd) : List (L2.Key × V) := T.map fun d => ((Sum.inr d.name : L2.Key), f d)
theorem kvN_get {f : Nd → V} : ∀ {T : List Nd} {d : Nd}, (T.map (·.name)).Nodup → d ∈ T → valV (kvN f T) (Sum.inr d.name : L2.Key) = some (f d)
  | [], d, _, h => by cases h
  | a :: r, d, nd, h => by
    have nd2 := List.nodup_cons.mp (show (a.name :: r.map (·.name)).Nodup from nd)
    show valV (((Sum.inr a.name : L2.Key), f a) :: kvN f r) _ = _
    rcases List.mem_cons.mp h with z | z
    · rw [z]
      exact valV_pos rfl
    · have ne : ¬ (Sum.inr a.name : L2.Key) = Sum.inr d.name := fun e => nd2.1 (by
        rw [Sum.inr.inj e]
        exact List.mem_map.mpr ⟨d, z, rfl⟩)
      rw [valV_neg ne]
      exact kvN_get nd2.2 z
theorem kvN_none {f : Nd → V} : ∀ {T : List Nd} {n : PySem.Str}, n ∉ T.map (·.name) → valV (kvN f T) (Sum.inr n : L2.Key) = none
  | [], n, _ => rfl
  | a :: r, n, h => by
    have ne : ¬ (Sum.inr a.name : L2.Key) = Sum.inr n := fun e => h (by
      rw [← Sum.inr.inj e]
      exact List.mem_cons_self)
    show valV (((Sum.inr a.name : L2.Key), f a) :: kvN f r) _ = _
    rw [valV_neg ne]
    exact kvN_none fun z => h (List.mem_cons_of_mem _ z)
theorem kvN_put {f : Nd → V} {T : List Nd} {d : Nd} (h : d.name ∉ T.map (·.name)) : putK (kvN f T) (Sum.inr d.name : L2.Key) (f d) = kvN f (T ++ [d]) := by
  rw [putK_new _ (kvN_none h)]
  unfold kvN
  rw [List.map_append]
  rfl
abbrev ltKs (od kd lb on pd : Addr) : List (L2.Key × V) := [((Sum.inr "order" : L2.Key), .ref od), ((Sum.inr "kind" : L2.Key), .ref kd), ((Sum.inr "label" : L2.Key), .ref lb), ((Sum.inr "on" : L2.Key), .ref on), ((Sum.inr "parent" : L2.Key), .ref pd)]
abbrev fKind (d : Nd) : V := .str d.kind
abbrev fLab (d : Nd) : V := .str d.label
abbrev fOn (d : Nd) : V := .bl (d.vis && d.en)
abbrev fPar (d : Nd) : V := oV d.par
structure LTx (H : Hp) (lt od kd lb on pd : Addr) (T : List Nd) : Prop where
  lt : H lt = some (.dK (ltKs od kd lb on pd))
  od : H od = some (.lst (sV (T.map (·.name))))
  kd : H kd = some (.dK (kvN fKind T))
  lb : H lb = some (.dK (kvN fLab T))
  on : H on = some (.dK (kvN fOn T))
  pd : H pd = some (.dK (kvN fPar T))
def LT (H : Hp) (lt : Addr) (T : List Nd) : Prop := ∃ od kd lb on pd, LTx H lt od kd lb on pd T
section
variable {H H' : Hp} {lt : Addr} {T : List Nd}
/-- with what its addresses keep -/
def LTf (G : Addr → Prop) (H : Hp) (lt : Addr) (T : List Nd) : Prop := ∃ od kd lb on pd, LTx H lt od kd lb on pd T ∧ G lt ∧ G od ∧ G kd ∧ G lb ∧ G on ∧ G pd
theorem LTf.here {G : Addr → Prop} (h : LTf G H lt T) : LT H lt T := by
  obtain ⟨od, kd, lb, on, pd, h, _⟩ := h
  exact ⟨od, kd, lb, on, pd, h⟩
theorem LTf.imp {G G' : Addr → Prop} (h : LTf G H lt T) (g : ∀ q, G q → G' q) : LTf G' H lt T := by
  obtain ⟨od, kd, lb, on, pd, h, h1, h2, h3, h4, h5, h6⟩ := h
  exact ⟨od, kd, lb, on, pd, h, g _ h1, g _ h2, g _ h3, g _ h4, g _ h5, g _ h6⟩
theorem LTf.exc {F G : Addr → Prop} (e : Exc F H H') (n : ∀ q, G q → ¬ F q) (h : LTf G H lt T) : LTf G H' lt T := by
  obtain ⟨od, kd, lb, on, pd, h, h1, h2, h3, h4, h5, h6⟩ := h
  exact ⟨od, kd, lb, on, pd, ⟨e.get h.lt (n _ h1), e.get h.od (n _ h2), e.get h.kd (n _ h3), e.get h.lb (n _ h4), e.get h.on (n _ h5), e.get h.pd (n _ h6)⟩, h1, h2, h3, h4, h5, h6⟩
theorem LTf.up {G : Addr → Prop} (e : Z.Ex H H') (h : LTf G H lt T) : LTf G H' lt T := by
  obtain ⟨od, kd, lb, on, pd, h, h1⟩ := h
  exact ⟨od, kd, lb, on, pd, ⟨e.get h.lt, e.get h.od, e.get h.kd, e.get h.lb, e.get h.on, e.get h.pd⟩, h1⟩
theorem LTx.up {od kd lb on pd : Addr} (e : Z.Ex H H') (h : LTx H lt od kd lb on pd T) : LTx H' lt od kd lb on pd T := ⟨e.get h.lt, e.get h.od, e.get h.kd, e.get h.lb, e.get h.on, e.get h.pd⟩
theorem LT.up (e : Z.Ex H H') (h : LT H lt T) : LT H' lt T := by
  obtain ⟨od, kd, lb, on, pd, h⟩ := h
  exact ⟨od, kd, lb, on, pd, h.up e⟩
end
/-- the rows as tuples -/
def RowsL (H : Hp) (r : Addr) (rows : List Nd) : Prop := ∃ as : List Addr, H r = some (.lst (as.map V.ref)) ∧ as.length = rows.length ∧ ∀ (i : Nat) (a : Addr) (d : Nd), as[i]? = some a → rows[i]? = some d → H a = some (.tup (infoV d))
theorem RowsL.up {H H' : Hp} {r : Addr} {rows : List Nd} (e : Z.Ex H H') (h : RowsL H r rows) : RowsL H' r rows := by
  obtain ⟨as, h1, h2, h3⟩ := h
  exact ⟨as, e.get h1, h2, fun i a d k1 k2 => e.get (h3 i a d k1 k2)⟩
section
variable {P : Program} {w : World} {K : PySem.W.Frag} {mg : PySem.Str → Option Value} {base : Heap}
def spLTree (K : PySem.W.Frag) : Sp := fun vs H Q _ => ∃ r rows, vs = [.ref r] ∧ RowsL H r rows ∧ Good rows ∧ ∀ lt H2, Z.Ex H H2 → LTf (fun q => H q = none) H2 lt (rdg rows).1 → Q (.ref lt) H2
theorem fc_law_tree (c : Says K mg base) : Cal P w K mg base "_law_tree" 1 ["_law_infos"] (spLTree K) := by
  refine cal_of (fn__law_tree c) (glo__law_tree c) sc__law_tree bi__law_tree (fun vs H Q E ⟨_, _, e, _⟩ => by rw [e]; rfl) ?_
  rintro cdv A0 outer s H vs Q E hr ⟨r, rows, rfl, hR, g, q⟩
  have S := sc__law_tree
  obtain ⟨as, hr1, hlen, hat⟩ := hR
  refine sx_asgD 1 ?_
  intro H1 y1
  refine ⟨?_⟩
  intro lt f0
  have z0 := y1.trans (Z.Ex.new (o := .dK []) f0)
  have l0 : (upd H1 lt (.dK [])) lt = some (.dK []) := upd_same
  generalize upd H1 lt (.dK []) = G0 at z0 l0
  refine tp_cons (key := (Sum.inr "order" : L2.Key)) ev_str (ev_lst (vs := []) ea_nil (Nat.zero_le _)) fun v1 G1 d1 ⟨od, hv1, f1, g1⟩ => ?_
  refine tp_cons (key := (Sum.inr "kind" : L2.Key)) ev_str ev_disp0 fun v2 G2 d2 ⟨kd, hv2, f2, g2⟩ => ?_
  refine tp_cons (key := (Sum.inr "label" : L2.Key)) ev_str ev_disp0 fun v3 G3 d3 ⟨lb, hv3, f3, g3⟩ => ?_
  refine tp_cons (key := (Sum.inr "on" : L2.Key)) ev_str ev_disp0 fun v4 G4 d4 ⟨on, hv4, f4, g4⟩ => ?_
  refine tp_cons (key := (Sum.inr "parent" : L2.Key)) ev_str ev_disp0 fun v5 G5 d5 ⟨pd, hv5, f5, g5⟩ => ?_
  subst hv1 hv2 hv3 hv4 hv5
  refine tp_nil ?_
  have lt5 : G5 lt = some (.dK []) := (d1.trans (d2.trans (d3.trans (d4.trans d5)))).get l0
  refine ⟨lt5, ltKs od kd lb on pd, rfl, (Nat.le_of_ble_eq_true rfl), ?_⟩
  have n12 := ne_of_none g1 f2
  have n13 := ne_of_none (d2.get g1) f3
  have n14 := ne_of_none ((d2.trans d3).get g1) f4
  have n15 := ne_of_none ((d2.trans (d3.trans d4)).get g1) f5
  have n23 := ne_of_none g2 f3
  have n24 := ne_of_none (d3.get g2) f4
  have n25 := ne_of_none ((d3.trans d4).get g2) f5
  have n34 := ne_of_none g3 f4
  have n35 := ne_of_none (d4.get g3) f5
  have n45 := ne_of_none g4 f5
  have m1 := ne_of_none l0 f1
  have m2 := ne_of_none (d1.get l0) f2
  have m3 := ne_of_none ((d1.trans d2).get l0) f3
  have m4 := ne_of_none ((d1.trans (d2.trans d3)).get l0) f4
  have m5 := ne_of_none ((d1.trans (d2.trans (d3.trans d4))).get l0) f5
  have b1 : H od = none := z0.free f1
  have b2 : H kd = none := (z0.trans d1).free f2
  have b3 : H lb = none := (z0.trans (d1.trans d2)).free f3
  have b4 : H on = none := (z0.trans (d1.trans (d2.trans d3))).free f4
  have b5 : H pd = none := (z0.trans (d1.trans (d2.trans (d3.trans d4)))).free f5
  have b0 : H lt = none := y1.free f0
  have zG : Z.Ex H (upd G5 lt (.dK (ltKs od kd lb on pd))) := (z0.trans (d1.trans (d2.trans (d3.trans (d4.trans d5))))).mut b0
  have iG : LTx (upd G5 lt (.dK (ltKs od kd lb on pd))) lt od kd lb on pd [] :=
    ⟨upd_same, by rw [upd_ne (Ne.symm m1)]; exact (d2.trans (d3.trans (d4.trans d5))).get g1, by rw [upd_ne (Ne.symm m2)]; exact (d3.trans (d4.trans d5)).get g2, by rw [upd_ne (Ne.symm m3)]; exact (d4.trans d5).get g3, by rw [upd_ne (Ne.symm m4)]; exact d5.get g4, by rw [upd_ne (Ne.symm m5)]; exact g5⟩
  have mk0 : mergeK [] (ltKs od kd lb on pd) = ltKs od kd lb on pd := rfl
  rw [mk0]
  refine (show SX _ _ _ _ (upd G5 lt (.dK (ltKs od kd lb on pd))) from ?_) _ (Z.Ex.refl _)
  generalize upd G5 lt (.dK (ltKs od kd lb on pd)) = G at zG iG
  clear mk0 lt5 g1 g2 g3 g4 g5 l0 f0 f1 f2 f3 f4 f5 d1 d2 d3 d4 d5
  refine sx_asgN 2 (ev_lst (vs := []) ea_nil (Nat.zero_le _)) fun p0 fp0 => ?_
  have zP : Z.Ex G (upd G p0 (.lst [])) := Z.Ex.new fp0
  refine sx_forG (p := r) (xs := as.map V.ref) (ev_var 0 rfl) (pg_info S.nd (i1 := 3) (i2 := 4) (i3 := 5) (i4 := 6) (i5 := 7) (i6 := 8)) (fun i σ B => Z.Ex H B ∧ LTx B lt od kd lb on pd (rdg (rows.take i)).1 ∧ ∃ pp v3 v4 v5 v6 v7 v8, σ = [some (.ref r), some (.ref lt), some (.ref pp), v3, v4, v5, v6, v7, v8] ∧ B pp = some (.lst (sV (rdg (rows.take i)).2)))
    ⟨zG.trans zP, iG.up zP, p0, none, none, none, none, none, none, rfl, upd_same⟩ (fun i σ B z => SqL.of (z.1.get hr1)) ?_ ?_
  · rintro i v σ B hi ⟨xB, hL, pp, v3, v4, v5, v6, v7, v8, rfl, hpp⟩ H7 x7
    obtain ⟨a, ha, rfl⟩ : ∃ a, as[i]? = some a ∧ v = .ref a := by
      rw [List.getElem?_map] at hi
      cases h : as[i]? with
      | none => rw [h] at hi; cases hi
      | some a => rw [h] at hi; exact ⟨a, rfl, (Option.some.inj hi).symm⟩
    have li : i < rows.length := by rw [← hlen]; exact (List.getElem?_eq_some_iff.mp ha).1
    have hd := List.getElem?_eq_getElem li
    generalize rows[i] = d at hd
    obtain ⟨ok, okd⟩ := g.ok i d hd
    have hav := xB.get (hat i a d ha hd)
    refine ⟨a, infoV d, rfl, SqT.of (x7.get hav), rfl, _, _, rfl, _, _, rfl, _, _, rfl, _, _, rfl, _, _, rfl, _, _, rfl, rfl, ?_⟩
    refine (show SX _ _ _ _ B from ?_) H7 x7
    -- the row's own facts
    have hnew : d.name ∉ (rdg (rows.take i)).1.map (·.name) := by
      rcases okd with ⟨e, _⟩ | ⟨_, _, _, _, h, _⟩
      · rw [e]
        exact List.not_mem_nil
      · exact h
    have hdl : d.dep ≤ (rdg (rows.take i)).2.length := by
      rcases okd with ⟨e, _, _, _, _, h⟩ | ⟨_, _, _, h, _⟩
      · rw [h]; exact Nat.zero_le _
      · exact h
    have tl : (rdg (rows.take i)).1.length ≤ 60 := by
      rw [rdg_len, List.length_take]
      have := g.len
      omega
    have big : 1000 ≤ sizeLine := by decide
    have kl : ∀ f : Nd → V, (kvN f (rdg (rows.take i)).1).length < sizeLine := fun f => by
      unfold kvN
      rw [List.length_map]
      omega
    have nx : rdg (rows.take (i + 1)) = ((rdg (rows.take i)).1 ++ [{ d with par := ((rdg (rows.take i)).2.take d.dep).getLast? }], (rdg (rows.take i)).2.take d.dep ++ [d.name]) := by
      rw [take_snoc hd, rdg_snoc]
      rfl
    generalize hT : (rdg (rows.take i)).1 = T at *
    generalize hP : (rdg (rows.take i)).2 = path at *
    have d8 := ok.dep
    have tkl := List.length_take_le d.dep path
    have cv : cutV (sV path) none (some (d.dep : Int)) = sV (path.take d.dep) := by
      show ((sV path).drop 0).take (HT.sIx _ _ (some (d.dep : Int)) - 0) = _
      rw [HT.sIx_nat, List.drop_zero, Nat.sub_zero, len_of_sV, Nat.min_eq_left hdl, ← List.map_take]
    refine sx_asgN 2 (o := .lst (sV (path.take d.dep))) (n := rfl) (Ev.to (ev_cut ((ev_var 2 rfl).qL (SqL.of hpp)) eo_none (eo_some (ev_var 8 rfl))) fun v H2 d2 h => by rw [cv] at h; exact h) fun p1 fp1 => ?_
    have x1 : Z.Ex B (upd B p1 (.lst (sV (path.take d.dep)))) := Z.Ex.new fp1
    have hp1 : (upd B p1 (.lst (sV (path.take d.dep)))) p1 = some (.lst (sV (path.take d.dep))) := upd_same
    have n1o := ne_of_none hL.od fp1
    have hL1 := hL.up x1
    have xB1 := xB.trans x1
    generalize upd B p1 (.lst (sV (path.take d.dep))) = B1 at x1 hp1 hL1 xB1
    have q1 : p1 ≠ kd := fun z => by rw [z, hL1.kd] at hp1; cases hp1
    have q2 : p1 ≠ lb := fun z => by rw [z, hL1.lb] at hp1; cases hp1
    have q3 : p1 ≠ on := fun z => by rw [z, hL1.on] at hp1; cases hp1
    have q4 : p1 ≠ pd := fun z => by rw [z, hL1.pd] at hp1; cases hp1
    -- order
    refine sx_app (ev_dget (k := (Sum.inr "order" : L2.Key)) (ev_var 1 rfl) hL1.lt ev_str rfl (hu_of hr)) (ev_var 3 rfl) hL1.od (by rw [len_of_sV, List.length_map]; omega) ?_
    -- kind
    refine sx_dput (key := (Sum.inr d.name : L2.Key)) (ev_var 4 rfl) (ev_dget (k := (Sum.inr "kind" : L2.Key)) (ev_var 1 rfl) (by rw [upd_ne m1]; exact hL1.lt) ev_str rfl (hu_of hr)) (ev_var 3 rfl) (by rw [upd_ne (Ne.symm n12)]; exact hL1.kd) (kl _) (hu_of hr) ?_
    refine sx_dput (key := (Sum.inr d.name : L2.Key)) (ev_var 5 rfl) (ev_dget (k := (Sum.inr "label" : L2.Key)) (ev_var 1 rfl) (by rw [upd_ne m2, upd_ne m1]; exact hL1.lt) ev_str rfl (hu_of hr)) (ev_var 3 rfl) (by rw [upd_ne (Ne.symm n23), upd_ne (Ne.symm n13)]; exact hL1.lb) (kl _) (hu_of hr) ?_
    refine sx_dput (key := (Sum.inr d.name : L2.Key)) (v := .bl (d.vis && d.en)) (ev_and (ev_var 6 rfl) fun _ => ev_one (ev_var 7 rfl)) (ev_dget (k := (Sum.inr "on" : L2.Key)) (ev_var 1 rfl) (by rw [upd_ne m3, upd_ne m2, upd_ne m1]; exact hL1.lt) ev_str rfl (hu_of hr)) (ev_var 3 rfl) (by rw [upd_ne (Ne.symm n34), upd_ne (Ne.symm n24), upd_ne (Ne.symm n14)]; exact hL1.on) (kl _) (hu_of hr) ?_
    have hpp4 : (upd (upd (upd (upd B1 od (.lst (sV (T.map (·.name)) ++ [.str d.name]))) kd (.dK (putK (kvN fKind T) (Sum.inr d.name : L2.Key) (.str d.kind)))) lb (.dK (putK (kvN fLab T) (Sum.inr d.name : L2.Key) (.str d.label)))) on (.dK (putK (kvN fOn T) (Sum.inr d.name : L2.Key) (.bl (d.vis && d.en))))) p1 = some (.lst (sV (path.take d.dep))) := by
      rw [upd_ne q3, upd_ne q2, upd_ne q1, upd_ne (Ne.symm n1o)]
      exact hp1
    refine sx_dput (key := (Sum.inr d.name : L2.Key)) (v := oV (path.take d.dep).getLast?) (ev_if (et_list ((ev_var 2 rfl).qL (SqL.of hpp4))) (fun hv => ?_) (fun hv => ?_)) (ev_dget (k := (Sum.inr "parent" : L2.Key)) (ev_var 1 rfl) (by rw [upd_ne m4, upd_ne m3, upd_ne m2, upd_ne m1]; exact hL1.lt) ev_str rfl (hu_of hr)) (ev_var 3 rfl) (by rw [upd_ne (Ne.symm n45), upd_ne (Ne.symm n35), upd_ne (Ne.symm n25), upd_ne (Ne.symm n15)]; exact hL1.pd) (kl _) (hu_of hr) ?_
    · have hne : path.take d.dep ≠ [] := fun z => by
        rw [z] at hv
        cases hv
      obtain ⟨ys, y, e⟩ : ∃ ys y, path.take d.dep = ys ++ [y] := ⟨_, _, (List.dropLast_concat_getLast hne).symm⟩
      rw [e] at hpp4 ⊢
      rw [List.getLast?_concat]
      refine ev_ixL ((ev_var 2 rfl).qL (SqL.of hpp4)) ev_negc ?_
      rw [← sV_snoc]
      exact atI_last _ (V.str y)
    · have e : path.take d.dep = [] := by
        cases z : path.take d.dep with
        | nil => rfl
        | cons a r =>
          rw [z] at hv
          cases hv
      rw [e]
      exact ev_none
    have hpp5 : ∀ o, (upd (upd (upd (upd (upd B1 od (.lst (sV (T.map (·.name)) ++ [.str d.name]))) kd (.dK (putK (kvN fKind T) (Sum.inr d.name : L2.Key) (.str d.kind)))) lb (.dK (putK (kvN fLab T) (Sum.inr d.name : L2.Key) (.str d.label)))) on (.dK (putK (kvN fOn T) (Sum.inr d.name : L2.Key) (.bl (d.vis && d.en))))) pd o) p1 = some (.lst (sV (path.take d.dep))) := fun o => by
      rw [upd_ne q4]
      exact hpp4
    refine sx_asgN 2 (o := .lst (sV (path.take d.dep ++ [d.name]))) (n := rfl) (Ev.to (ev_cat (Ev.at (ev_var 2 rfl) rfl (hpp5 _)) (ev_lst (vs := [.str d.name]) (ea_cons (ev_var 3 rfl) ea_nil) (by show 1 ≤ sizeLine; omega)).nA (by rw [len_of_sV]; show _ + 1 ≤ _; omega)) fun v H2 d2 h => by rw [← sV_snoc]; exact h) fun p2 fp2 => sx_nil fun H8 d8' => ?_
    have k1 : putK (kvN fKind T) (Sum.inr d.name : L2.Key) (.str d.kind) = kvN fKind (T ++ [{ d with par := (path.take d.dep).getLast? }]) := kvN_put (f := fKind) (d := { d with par := (path.take d.dep).getLast? }) hnew
    have k2 : putK (kvN fLab T) (Sum.inr d.name : L2.Key) (.str d.label) = kvN fLab (T ++ [{ d with par := (path.take d.dep).getLast? }]) := kvN_put (f := fLab) (d := { d with par := (path.take d.dep).getLast? }) hnew
    have k3 : putK (kvN fOn T) (Sum.inr d.name : L2.Key) (.bl (d.vis && d.en)) = kvN fOn (T ++ [{ d with par := (path.take d.dep).getLast? }]) := kvN_put (f := fOn) (d := { d with par := (path.take d.dep).getLast? }) hnew
    have k4 : putK (kvN fPar T) (Sum.inr d.name : L2.Key) (oV (path.take d.dep).getLast?) = kvN fPar (T ++ [{ d with par := (path.take d.dep).getLast? }]) := kvN_put (f := fPar) (d := { d with par := (path.take d.dep).getLast? }) hnew
    rw [k1, k2, k3, k4] at fp2 d8'
    refine ⟨_, d8', ?_, ?_, p2, _, _, _, _, _, _, rfl, by rw [upd_same, nx]⟩
    · exact (((((xB1.mut b1).mut b2).mut b3).mut b4).mut b5).trans (Z.Ex.new fp2)
    · rw [nx]
      refine LTx.up (Z.Ex.new fp2) ⟨?_, ?_, ?_, ?_, ?_, upd_same⟩
      · rw [upd_ne m5, upd_ne m4, upd_ne m3, upd_ne m2, upd_ne m1]
        exact hL1.lt
      · rw [upd_ne n15, upd_ne n14, upd_ne n13, upd_ne n12, upd_same]
        rw [sV_snoc, List.map_append]
        rfl
      · rw [upd_ne n25, upd_ne n24, upd_ne n23, upd_same]
      · rw [upd_ne n35, upd_ne n34, upd_same]
      · rw [upd_ne n45, upd_same]
  · rintro σ B ⟨xB, hL, pp, v3, v4, v5, v6, v7, v8, rfl, hpp⟩
    rw [List.length_map, hlen, List.take_length] at hL
    exact sx_ret (ev_var 1 rfl) fun v H2 d2 p2 => by
      have p2 : v = .ref lt := p2
      rw [p2]
      exact q lt H2 (xB.trans d2) ⟨od, kd, lb, on, pd, hL.up d2, b0, b1, b2, b3, b4, b5⟩
end
end K24
set_option Elab.async false
set_option linter.all false
set_option maxRecDepth 100000
set_option maxHeartbeats 1000000
/-! The law's readers of its tree. -/
namespace K24
open PySem PySem.Spec PyProof.Rows L2 Z
end K24
namespace Z
open PySem PySem.Spec PyProof.Rows L2
section
variable {X : Cx} {σ : L2.St} {B : Hp} {D : Ends} {rest : List Stmt} {iter elt t : Expr} {x y : Str} {px py pos spos : Pos} {scope : Scope} {f : V → Bool} {g : V → V} {xs : List V} {j : Nat}
/-- y = [elt for x in iter if t] -/
theorem sx_asgLc (i : Nat) (hl : Ev X iter σ B (seqL X.K xs)) (hz : xs.length ≤ 100000) (hj : X.N[j]? = some x) (hw : ∀ v, wipe ((wipe σ [j]).set j (some v)) [j] = wipe σ [j])
    (ht : ∀ s H C cl fp v, v ∈ xs → ∀ B1, Ex B B1 → EvT (Blk X scope s H C cl fp) t ((wipe σ [j]).set j (some v)) B1 (f v)) (he : ∀ s H C cl fp v, v ∈ xs → f v = true → ∀ B1, Ex B B1 → Ev (Blk X scope s H C cl fp) elt ((wipe σ [j]).set j (some v)) B1 (isV (g v)))
    (k : ∀ q, B q = none → SX X rest D (σ.set i (some (.ref q))) (upd B q (.lst (keepF f g xs))))
    (ok : blkC X.N X.env.scope scope [(x, j)] = true) (hN : X.N.Nodup := by exact FnScope.nd (by assumption)) (hi : X.N[i]? = some y := by rfl) (hy : X.env.scope.names.lookup y = some .local := by rfl)
    (hsw : swapsWith (.ListComp elt [⟨.Name x px, iter, [t], 0⟩] scope pos) (some (.Name y py)) spos.line X.env = pure true := by exact sw_true rfl rfl rfl rfl) (hc : X.calm = true := by rfl)
    (hx : ∀ s H C cl fp, Loc (Blk X scope s H C cl fp).env.scope x := by first | exact fun _ _ _ _ _ => Or.inl rfl | exact fun _ _ _ _ _ => Or.inr rfl)
    (hf : ∀ s H C cl fp, (Blk X scope s H C cl fp).fn x = true ∨ (Blk X scope s H C cl fp).env.scope.names.lookup x = some .local := by first | exact fun _ _ _ _ _ => .inr rfl | exact fun _ _ _ _ _ => .inl rfl)
    (hs : ∀ x, foldedSetIterable iter X.env x = pure x := by intro _; rfl) :
    SX X (.Assign [.Name y py] (.ListComp elt [⟨.Name x px, iter, [t], 0⟩] scope pos) spos :: rest) D σ B := by
  let tt : TT := fun σ H Q => ∀ s H0 C cl fp, sT (Blk X scope s H0 C cl fp) t σ H Q
  let te : TE := fun σ H Q => ∀ s H0 C cl fp, sE (Blk X scope s H0 C cl fp) elt σ H Q
  refine sx_step (ps_setLc (i := i) (own := [(x, j)]) (g := gName j) (tt := tt) (te := te) hc hN hi hy hsw (pi_list (pe_s iter)) (blkOk_by ok) (fun s H C cl fp => pg_name hN hj (hx s H C cl fp) (hf s H C cl fp)) (fun s H C cl fp => pts_one ⟨fun pins s1 σ1 H1 Q I h => h s H C cl fp pins s1 I⟩)
    (fun s H C cl fp => ⟨fun pins s1 σ1 H1 Q I h => h s H C cl fp pins s1 I⟩) hs) fun H d => ?_
  refine hl H d _ fun u H1 d1 ⟨p, z, hp⟩ => ⟨p, z, ⟨xs, hp⟩, fun DD hD => ?_⟩
  refine lc_list (xs := xs) (fun i H' => Ex H1 H' ∧ H' DD = some (.lst (keepF f g (xs.take i)))) ⟨Ex.new hD, upd_same⟩ (fun i H' _ w => w.1.seqL hp) (fun i v H' hi w => ⟨hw v, ?_⟩) (fun H' w => ?_)
  · refine lc_turns (te := te) (tt := tt) (σ2 := (wipe σ [j]).set j (some v)) (xs := xs) (H1 := H1) w.1 hD w.2 hi hz (fun H2 x2 Q2 q2 s H0 C cl fp => ht s H0 C cl fp v (List.mem_of_getElem? hi) H1 (d.trans d1) H2 x2 Q2 q2)
      (fun hv H2 x2 Q2 q2 s H0 C cl fp => he s H0 C cl fp v (List.mem_of_getElem? hi) hv H1 (d.trans d1) H2 x2 Q2 q2) (fun H2 x2 h2 => ⟨x2, h2⟩)
  · have h := w.2
    rw [List.take_length] at h
    exact k DD ((d.trans d1).free hD) H' (((d.trans d1).trans w.1).put h)
end
end Z
namespace K24
open PySem PySem.Spec PyProof.Rows L2 Z
structure LTr (H : Hp) (lt : Addr) (T : List Nd) : Prop where
  at_ : LT H lt T
  bt : ∃ path, Built T path
  len : T.length ≤ 60
theorem LTr.up {H H' : Hp} {lt : Addr} {T : List Nd} (e : Z.Ex H H') (h : LTr H lt T) : LTr H' lt T := ⟨h.at_.up e, h.bt, h.len⟩
theorem LTr.wf {H : Hp} {lt : Addr} {T : List Nd} (h : LTr H lt T) : WF T := h.bt.elim fun _ b => b.wf
/-! mathematics -/
theorem lay_some {T : List Nd} (wf : WF T) : ∀ (k : Nat) {d : Nd}, d ∈ T → d.dep = k → d.par ≠ none → (anc T d.name).find? (isLay T) ≠ none
  | 0, d, hd, e, hp => by
    rcases wf.up d hd with ⟨z, _⟩ | ⟨q, hq, z, y⟩
    · exact absurd z hp
    · omega
  | k + 1, d, hd, e, hp => by
    rcases wf.up d hd with ⟨z, _⟩ | ⟨q, hq, z, y⟩
    · exact absurd z hp
    · rw [anc_some wf hd hq z, List.find?_cons]
      cases h : isLay T q.name with
      | true =>
        intro w
        cases w
      | false =>
        refine lay_some wf k hq (by omega) fun w => ?_
        rcases wf.up q hq with ⟨_, _, _, z2⟩ | ⟨q2, _, z2, _⟩
        · unfold isLay at h
          rw [kindOf_of wf hq, z2] at h
          exact absurd h (by decide +kernel)
        · rw [w] at z2
          cases z2
theorem root_top {T : List Nd} (wf : WF T) {d : Nd} (hd : d ∈ T) (h : (anc T d.name).find? (isLay T) = none) : d.par = none ∧ d.name = "root" := by
  have hp : d.par = none := by
    cases z : d.par with
    | none => rfl
    | some p => exact absurd h (lay_some wf d.dep hd rfl (by rw [z]; simp))
  rcases wf.up d hd with ⟨_, _, z, _⟩ | ⟨q, _, z, _⟩
  · exact ⟨hp, z⟩
  · rw [hp] at z
    cases z
theorem lay_eq {T : List Nd} (wf : WF T) {d : Nd} (hd : d ∈ T) : (((anc T d.name).filter (isLay T)).head?).getD "root" = layOf T d.name := by
  have e : ((anc T d.name).filter (isLay T)).head? = (anc T d.name).find? (isLay T) := List.head?_filter
  rw [e]
  unfold layOf
  cases h : (anc T d.name).find? (isLay T) with
  | some x => rfl
  | none => exact (root_top wf hd h).2.symm
theorem take_ix {p : PySem.Str → Bool} : ∀ {l : List PySem.Str} {y : PySem.Str}, l.find? p = some y → l.take (ix l y) = l.takeWhile fun a => !p a
  | [], y, h => by cases h
  | a :: r, y, h => by
    rw [List.find?_cons] at h
    rw [List.takeWhile_cons]
    cases ha : p a with
    | true =>
      rw [ha] at h
      have e : a = y := Option.some.inj h
      unfold ix
      rw [if_pos e]
      rfl
    | false =>
      rw [ha] at h
      have h : r.find? p = some y := h
      have ne : a ≠ y := fun z => by
        have w := List.find?_some h
        rw [← z, ha] at w
        cases w
      unfold ix
      rw [if_neg ne, List.take_succ_cons, take_ix h]
      rfl
theorem inner_eq {T : List Nd} (wf : WF T) {d : Nd} (hd : d ∈ T) : (if layOf T d.name ∈ anc T d.name then (anc T d.name).take (ix (anc T d.name) (layOf T d.name)) else []) = betw T d.name := by
  cases h : (anc T d.name).find? (isLay T) with
  | some x =>
    have e : layOf T d.name = x := by
      unfold layOf
      rw [h]
      rfl
    rw [e, if_pos (List.mem_of_find?_eq_some h), take_ix h]
    rfl
  | none =>
    have e := anc_none wf hd (root_top wf hd h).1
    have e2 : betw T d.name = [] := by
      unfold betw
      rw [e]
      rfl
    rw [e2, e, if_neg (List.not_mem_nil)]
section
variable {P : Program} {w : World} {K : PySem.W.Frag} {mg : PySem.Str → Option Value} {base : Heap}
/-- a value, a new list of the law's tree and a node -/
def spL (K : PySem.W.Frag) (f : List Nd → PySem.Str → V) : Sp := fun vs H Q _ => ∃ lt T d, vs = [.ref lt, .str (Nd.name d)] ∧ LTr H lt T ∧ d ∈ T ∧ Ret (isV (f T d.name)) H Q
def spLL (K : PySem.W.Frag) (pre : List Nd → PySem.Str → Prop) (f : List Nd → PySem.Str → List PySem.Str) : Sp := fun vs H Q _ => ∃ lt T n, vs = [.ref lt, .str n] ∧ LTr H lt T ∧ pre T n ∧ Ret (newO H (.lst (sV (f T n)))) H Q
theorem spL_len {f : List Nd → PySem.Str → V} : ∀ vs H Q E, spL K f vs H Q E → vs.length = 2 := fun vs H Q E ⟨_, _, _, e, _⟩ => by rw [e]; rfl
theorem spLL_len {pre : List Nd → PySem.Str → Prop} {f : List Nd → PySem.Str → List PySem.Str} : ∀ vs H Q E, spLL K pre f vs H Q E → vs.length = 2 := fun vs H Q E ⟨_, _, _, e, _⟩ => by rw [e]; rfl
section
variable {X : Cx} {σ : L2.St} {B : Hp} {o e e2 : Expr} {x : PySem.Str} {p pos p1 p2 p3 : Pos} {j k i : Nat} {lt : Addr} {T : List Nd} {d : Nd} {n : PySem.Str} {ps : List PySem.Str}
theorem ev_cl {f : List Nd → PySem.Str → V} (F : Cal X.prog X.w X.K X.mg X.base x k ps (spL X.K f)) (hr : Room j X.A) (hk : k ≤ j) (hT : LTr B lt T) (hd : d ∈ T) (ho : Ev X e σ B (isV (.ref lt))) (he : Ev X e2 σ B (isV (.str d.name)))
    (hg : Gl X x := by rfl) (hdb : (x == ("__debug__" : PySem.Str)) = false := by decide) (hs : starEach [e, e2] X.env = (false, eval e X.env) :: starEach [e2] X.env := by rfl) (hs2 : starEach [e2] X.env = (false, eval e2 X.env) :: starEach [] X.env := by rfl)
    (hpl : (backTo pos (starEach [e2] X.env)).any (·.1) = false := by rfl) : Ev X (.Call (.Name x p) [e, e2] [] pos) σ B (isV (f T d.name)) :=
  ev_call F hr hk (args2 ho he hs hs2) (fun vs H d2 p2 Q q => by
    rw [p2.vals]
    exact ⟨lt, T, d, rfl, hT.up d2, hd, q⟩) hg hdb hs hpl
theorem ev_cll {pre : List Nd → PySem.Str → Prop} {f : List Nd → PySem.Str → List PySem.Str} (F : Cal X.prog X.w X.K X.mg X.base x k ps (spLL X.K pre f)) (hr : Room j X.A) (hk : k ≤ j) (hT : LTr B lt T) (hp : pre T n) (ho : Ev X e σ B (isV (.ref lt))) (he : Ev X e2 σ B (isV (.str n)))
    (hg : Gl X x := by rfl) (hdb : (x == ("__debug__" : PySem.Str)) = false := by decide) (hs : starEach [e, e2] X.env = (false, eval e X.env) :: starEach [e2] X.env := by rfl) (hs2 : starEach [e2] X.env = (false, eval e2 X.env) :: starEach [] X.env := by rfl)
    (hpl : (backTo pos (starEach [e2] X.env)).any (·.1) = false := by rfl) : Ev X (.Call (.Name x p) [e, e2] [] pos) σ B (newO B (.lst (sV (f T n)))) :=
  ev_call F hr hk (args2 ho he hs hs2) (fun vs H d2 p2 Q q => by
    rw [p2.vals]
    exact ⟨lt, T, n, rfl, hT.up d2, hp, q.imp fun v H2 _ ⟨p, z, fr, h⟩ => ⟨p, z, d2.free fr, h⟩⟩) hg hdb hs hpl
/-- tree['kind'][name] .. -/
theorem ev_lkind (hr : Room j X.A) (hT : LTr B lt T) (hd : d ∈ T) (ho : Ev X o σ B (isV (.ref lt))) (he : Ev X e σ B (isV (.str d.name))) (hs : NoSl e := by intro _ _; rfl) (hs2 : NoSl (.Constant (.str "kind") i p1) := by intro _ _; rfl) : Ev X (.Subscript (.Subscript o (.Constant (.str "kind") i p1) p2) e p3) σ B (isV (.str d.kind)) := by
  obtain ⟨od, kd, lb, on, pd, h⟩ := hT.at_
  exact ev_dget (k := (Sum.inr d.name : L2.Key)) (ev_dget (k := (Sum.inr "kind" : L2.Key)) ho h.lt ev_str rfl (hu_of hr) hs2) h.kd he (kvN_get hT.wf.nd hd) (hu_of hr) hs
theorem ev_llabel (hr : Room j X.A) (hT : LTr B lt T) (hd : d ∈ T) (ho : Ev X o σ B (isV (.ref lt))) (he : Ev X e σ B (isV (.str d.name))) (hs : NoSl e := by intro _ _; rfl) (hs2 : NoSl (.Constant (.str "label") i p1) := by intro _ _; rfl) : Ev X (.Subscript (.Subscript o (.Constant (.str "label") i p1) p2) e p3) σ B (isV (.str d.label)) := by
  obtain ⟨od, kd, lb, on, pd, h⟩ := hT.at_
  exact ev_dget (k := (Sum.inr d.name : L2.Key)) (ev_dget (k := (Sum.inr "label" : L2.Key)) ho h.lt ev_str rfl (hu_of hr) hs2) h.lb he (kvN_get hT.wf.nd hd) (hu_of hr) hs
theorem ev_lon (hr : Room j X.A) (hT : LTr B lt T) (hd : d ∈ T) (ho : Ev X o σ B (isV (.ref lt))) (he : Ev X e σ B (isV (.str d.name))) (hs : NoSl e := by intro _ _; rfl) (hs2 : NoSl (.Constant (.str "on") i p1) := by intro _ _; rfl) : Ev X (.Subscript (.Subscript o (.Constant (.str "on") i p1) p2) e p3) σ B (isV (.bl (d.vis && d.en))) := by
  obtain ⟨od, kd, lb, on, pd, h⟩ := hT.at_
  exact ev_dget (k := (Sum.inr d.name : L2.Key)) (ev_dget (k := (Sum.inr "on" : L2.Key)) ho h.lt ev_str rfl (hu_of hr) hs2) h.on he (kvN_get hT.wf.nd hd) (hu_of hr) hs
theorem ev_lpar (hr : Room j X.A) (hT : LTr B lt T) (hd : d ∈ T) (ho : Ev X o σ B (isV (.ref lt))) (he : Ev X e σ B (isV (.str d.name))) (hs : NoSl e := by intro _ _; rfl) (hs2 : NoSl (.Constant (.str "parent") i p1) := by intro _ _; rfl) : Ev X (.Subscript (.Subscript o (.Constant (.str "parent") i p1) p2) e p3) σ B (isV (oV d.par)) := by
  obtain ⟨od, kd, lb, on, pd, h⟩ := hT.at_
  exact ev_dget (k := (Sum.inr d.name : L2.Key)) (ev_dget (k := (Sum.inr "parent" : L2.Key)) ho h.lt ev_str rfl (hu_of hr) hs2) h.pd he (kvN_get hT.wf.nd hd) (hu_of hr) hs
/-- tree['order'] -/
theorem ev_lorder (hr : Room j X.A) (hT : LTr B lt T) (ho : Ev X o σ B (isV (.ref lt))) (hs2 : NoSl (.Constant (.str "order") i p1) := by intro _ _; rfl) : Ev X (.Subscript o (.Constant (.str "order") i p1) p2) σ B (seqL X.K (sV (namesOf T))) := by
  obtain ⟨od, kd, lb, on, pd, h⟩ := hT.at_
  exact (ev_dget (k := (Sum.inr "order" : L2.Key)) ho h.lt ev_str rfl (hu_of hr) hs2).qL (SqL.of h.od)
end
abbrev nodeP : List Nd → PySem.Str → Prop := fun T n => ∃ d ∈ T, d.name = n
theorem fc_law_up (c : Says K mg base) : Cal P w K mg base "_law_up" 1 ["_law_tree_here", "_law_name"] (spLL K nodeP anc) := by
  refine cal_of (fn__law_up c) (glo__law_up c) sc__law_up bi__law_up spLL_len ?_
  rintro cdv A0 outer s H vs Q E hr ⟨lt, T, n, rfl, hT, ⟨d, hd, rfl⟩, q⟩
  have S := sc__law_up
  have wf := hT.wf
  have al := anc_len wf d.dep hd rfl
  have low := wf.low d hd
  refine sx_asgN 2 (ev_lst (vs := []) ea_nil (Nat.zero_le _)) fun l fl => ?_
  have x0 : Z.Ex H (upd H l (.lst [])) := Z.Ex.new fl
  refine sx_asgV 3 (ev_lpar hr (hT.up x0) hd (ev_var 0 rfl) (ev_var 1 rfl)) ?_
  refine sx_range 4 (free_range c) ev_int ⟨by decide, by decide⟩ (fun i σ B => Z.Ex H B ∧ ∃ (cur : Option PySem.Str) (seen : List PySem.Str) (v : Option V), σ = [some (.ref lt), some (.str d.name), some (.ref l), some (oV cur), v] ∧ seen ++ restOf T cur = anc T d.name ∧ (restOf T cur).length ≤ 8 - i ∧ (∀ p, cur = some p → ∃ q ∈ T, q.name = p) ∧ B l = some (.lst (sV seen)))
    (fun B' d2 => ⟨x0.trans d2, d.par, [], none, rfl, restOf_anc wf hd, by rw [restOf_anc wf hd]; omega, fun p e => ?_, d2.get upd_same⟩) ?_ ?_
  · obtain ⟨q2, hq2, e2, _⟩ := wf.parIn hd e
    exact ⟨q2, hq2, e2⟩
  · rintro i σ B hi ⟨xB, cur, seen, v, rfl, hs, hm, hc, hl⟩
    refine sx_if (et_notN (ev_var 3 rfl)) (fun hv => ?_) (fun hv => ?_)
    · cases cur with
      | none => exact absurd hv (by simp)
      | some p =>
        obtain ⟨q2, hq2, rfl⟩ := hc p rfl
        have hm : (anc T q2.name).length + 1 ≤ 8 - i := hm
        have len : seen.length ≤ 8 := by
          have e := congrArg List.length hs
          rw [List.length_append] at e
          omega
        refine sx_app (ev_var 2 rfl) (ev_var 3 rfl) hl (by rw [len_of_sV]; omega) ?_
        rw [sV_snoc]
        have x2 : Z.Ex H (upd B l (.lst (sV (seen ++ [q2.name])))) := xB.mut fl
        refine sx_asgV 3 (ev_lpar hr (hT.up x2) hq2 (ev_var 0 rfl) (ev_var 3 rfl)) (sx_skip (sx_nil fun H2 d2 => ⟨_, d2, x2, q2.par, seen ++ [q2.name], _, rfl, ?_, ?_, fun p e => ?_, upd_same⟩))
        · rw [restOf_anc wf hq2, List.append_assoc]
          exact hs
        · rw [restOf_anc wf hq2]
          omega
        · obtain ⟨q3, hq3, e3, _⟩ := wf.parIn hq2 e
          exact ⟨q3, hq3, e3⟩
    · cases cur with
      | some p => exact absurd hv (by simp)
      | none => exact sx_skip (sx_nil fun H2 d2 => ⟨_, d2, xB, none, seen, _, rfl, hs, Nat.zero_le _, fun p e => (by cases e), hl⟩)
  · rintro σ B ⟨xB, cur, seen, v, rfl, hs, hm, hc, hl⟩
    have e0 : restOf T cur = [] := List.length_eq_zero_iff.mp (by have hm : (restOf T cur).length ≤ 8 - 9 := hm; omega)
    rw [e0, List.append_nil] at hs
    rw [hs] at hl
    exact sx_ret (ev_var 2 rfl) fun v H2 d2 p2 => q v H2 (xB.trans d2) ⟨l, p2, fl, d2.get hl⟩
theorem anc_node {T : List Nd} (wf : WF T) {d : Nd} (hd : d ∈ T) {v : V} (h : v ∈ sV (anc T d.name)) : ∃ q ∈ T, v = .str q.name := by
  obtain ⟨n, hn, e⟩ := List.mem_map.mp h
  obtain ⟨q, hq, e2⟩ := anc_mem wf d.dep hd rfl n hn
  exact ⟨q, hq, by rw [← e, ← e2]⟩
theorem anc_100 {T : List Nd} (wf : WF T) {d : Nd} (hd : d ∈ T) : (sV (anc T d.name)).length ≤ 100000 := by
  have := anc_len wf d.dep hd rfl
  have := wf.low d hd
  rw [len_of_sV]
  omega
theorem betw_100 {T : List Nd} (wf : WF T) {d : Nd} (hd : d ∈ T) : (betw T d.name).length ≤ 8 := by
  have h1 := anc_len wf d.dep hd rfl
  have h2 := wf.low d hd
  have h3 : (betw T d.name).length ≤ (anc T d.name).length := (List.takeWhile_sublist _).length_le
  omega
theorem fc_law_layer (c : Says K mg base) : Cal P w K mg base "_law_layer" 2 ["_law_tree_here", "_law_name"] (spL K fun T n => .str (layOf T n)) := by
  refine cal_of (fn__law_layer c) (glo__law_layer c) sc__law_layer bi__law_layer spL_len ?_
  rintro cdv A0 outer s H vs Q E hr ⟨lt, T, d, rfl, hT, hd, q⟩
  have S := sc__law_layer
  have wf := hT.wf
  refine sx_asgLc 2 (j := 3) (f := onS (isLay T)) (g := fun v => v) (ev_cll (fc_law_up c) hr (by decide) hT ⟨d, hd, rfl⟩ (ev_var 0 rfl) (ev_var 1 rfl)).nL (anc_100 wf hd) rfl (fun v => rfl) (fun s H C cl fp v hv B1 x1 => ?_) (fun s H C cl fp v hv _ B1 x1 => ev_var 3 rfl) (fun l fl => ?_) rfl
  · obtain ⟨q2, hq2, rfl⟩ := anc_node wf hd hv
    refine EvT.to (et_eqS (ev_lkind hr (hT.up x1) hq2 (ev_var 0 rfl) (ev_var 3 rfl)) ev_str rfl) ?_
    rw [str_dec]
    show _ = isLay T q2.name
    unfold isLay
    rw [kindOf_of wf hq2]
  · rw [keepF_names]
    have x0 : Z.Ex H (upd H l (.lst (sV ((anc T d.name).filter (isLay T))))) := Z.Ex.new fl
    have hl : (upd H l (.lst (sV ((anc T d.name).filter (isLay T))))) l = some (.lst (sV ((anc T d.name).filter (isLay T)))) := upd_same
    have e := lay_eq wf hd
    generalize (anc T d.name).filter (isLay T) = xs at x0 hl e
    generalize upd H l (.lst (sV xs)) = B at x0 hl
    have fin : ∀ v H2, Z.Ex B H2 → (isV (.str (layOf T d.name))).P H2 v → (endsOf Q).rt v H2 := fun v H2 d2 p2 => q v H2 (x0.trans d2) p2
    cases xs with
    | nil =>
      rw [← e] at fin
      exact sx_ret (ev_if (et_list ((ev_var 2 rfl).qL (SqL.of hl))) (fun z => by cases z) fun _ => ev_str) fin
    | cons a r =>
      rw [← e] at fin
      exact sx_ret (ev_if (et_list ((ev_var 2 rfl).qL (SqL.of hl))) (fun _ => ev_ixL ((ev_var 2 rfl).qL (SqL.of hl)) ev_int (atI_nat (j := 0) rfl)) fun z => by cases z) fin
theorem fc_law_inner (c : Says K mg base) : Cal P w K mg base "_law_inner" 3 ["_law_tree_here", "_law_name"] (spLL K nodeP betw) := by
  refine cal_of (fn__law_inner c) (glo__law_inner c) sc__law_inner bi__law_inner spLL_len ?_
  rintro cdv A0 outer s H vs Q E hr ⟨lt, T, n, rfl, hT, ⟨d, hd, rfl⟩, q⟩
  have S := sc__law_inner
  have wf := hT.wf
  refine sx_asgV 2 (ev_cl (fc_law_layer c) hr (by decide) hT hd (ev_var 0 rfl) (ev_var 1 rfl)) ?_
  refine sx_asgN 3 (ev_cll (fc_law_up c) hr (by decide) hT ⟨d, hd, rfl⟩ (ev_var 0 rfl) (ev_var 1 rfl)) fun l fl => ?_
  have x0 : Z.Ex H (upd H l (.lst (sV (anc T d.name)))) := Z.Ex.new fl
  have hl : (upd H l (.lst (sV (anc T d.name)))) l = some (.lst (sV (anc T d.name))) := upd_same
  generalize upd H l (.lst (sV (anc T d.name))) = B at x0 hl
  have e := inner_eq wf hd
  refine sx_ret (S := newO B (.lst (sV (betw T d.name)))) (ev_if (EvT.to (et_inQ (ev_var 2 rfl) ((ev_var 3 rfl).qL (SqL.of hl)) inL_of rfl (sV_flat _)) (inV_sV _ _)) (fun hv => ?_) (fun hv => ?_)) fun v H2 d2 ⟨p, z, fr, h⟩ => q v H2 (x0.trans d2) ⟨p, z, x0.free fr, h⟩
  · have hm := of_decide_eq_true hv
    rw [if_pos hm] at e
    rw [← e]
    refine Ev.to (ev_cut ((ev_var 3 rfl).qL (SqL.of hl)) eo_none (eo_some (ev_indexS ((ev_var 3 rfl).qL (SqL.of hl)) (ev_var 2 rfl) hm))) fun v H2 d2 h => ?_
    have lt2 : ix (anc T d.name) (layOf T d.name) < (anc T d.name).length := (List.getElem?_eq_some_iff.mp (ix_at hm)).1
    have cv : cutV (sV (anc T d.name)) none (some (ix (anc T d.name) (layOf T d.name) : Int)) = sV ((anc T d.name).take (ix (anc T d.name) (layOf T d.name))) := by
      show ((sV (anc T d.name)).drop 0).take (HT.sIx _ _ (some (ix (anc T d.name) (layOf T d.name) : Int)) - 0) = _
      rw [HT.sIx_nat, List.drop_zero, Nat.sub_zero, len_of_sV, Nat.min_eq_left (Nat.le_of_lt lt2), ← List.map_take]
    rw [cv] at h
    exact h
  · have hm := of_decide_eq_false hv
    rw [if_neg hm] at e
    rw [← e]
    exact ev_lst (vs := []) ea_nil (Nat.zero_le _)
theorem et_lcomp {X : Cx} {σ : L2.St} {B : Hp} {o e : Expr} {j i i1 i2 i3 : Nat} {lt : Addr} {T : List Nd} {d : Nd} {p1 p2 p3 p4 p5 p6 pos : Pos} (hr : Room j X.A) (hT : LTr B lt T) (hd : d ∈ T) (ho : Ev X o σ B (isV (.ref lt))) (he : Ev X e σ B (isV (.str d.name))) (hs : NoSl e := by intro _ _; rfl) :
    EvT X (.Compare (.Subscript (.Subscript o (.Constant (.str "kind") i p1) p2) e p3) [.In] [.Tuple [.Constant (.str "linear") i1 p4, .Constant (.str "circular") i2 p5] i3 p6] pos) σ B (isComp T d.name) := by
  refine (et_inQ (ev_lkind hr hT hd ho he hs) (ev_tup (vs := [.str "linear", .str "circular"]) (ea_cons ev_str (ea_cons ev_str ea_nil)) (by decide +kernel)).nT inT_of rfl rfl rfl).to ?_
  unfold isComp
  rw [kindOf_of hT.wf hd]
  exact inV_comp (K := X.K) d.kind
theorem fc_law_composite (c : Says K mg base) : Cal P w K mg base "_law_composite" 4 ["_law_tree_here", "_law_name"] (spL K fun T n => oV (compOf T n)) := by
  refine cal_of (fn__law_composite c) (glo__law_composite c) sc__law_composite bi__law_composite spL_len ?_
  rintro cdv A0 outer s H vs Q E hr ⟨lt, T, d, rfl, hT, hd, q⟩
  have S := sc__law_composite
  have wf := hT.wf
  have b8 := betw_100 wf hd
  refine sx_asgLc 2 (j := 3) (f := onS (isComp T)) (g := fun v => v) (ev_cll (fc_law_inner c) hr (by decide) hT ⟨d, hd, rfl⟩ (ev_var 0 rfl) (ev_var 1 rfl)).nL (by rw [len_of_sV]; omega) rfl (fun v => rfl) (fun s H C cl fp v hv B1 x1 => ?_) (fun s H C cl fp v hv _ B1 x1 => ev_var 3 rfl) (fun l fl => ?_) rfl
  · obtain ⟨n, hn, e⟩ := List.mem_map.mp hv
    obtain ⟨q2, hq2, e2⟩ := betw_mem wf hd n hn
    rw [← e, ← e2]
    exact et_lcomp hr (hT.up x1) hq2 (ev_var 0 rfl) (ev_var 3 rfl)
  · rw [keepF_names]
    have x0 : Z.Ex H (upd H l (.lst (sV ((betw T d.name).filter (isComp T))))) := Z.Ex.new fl
    have hl : (upd H l (.lst (sV ((betw T d.name).filter (isComp T))))) l = some (.lst (sV ((betw T d.name).filter (isComp T)))) := upd_same
    have e : ((betw T d.name).filter (isComp T)).getLast? = compOf T d.name := rfl
    generalize (betw T d.name).filter (isComp T) = xs at x0 hl e
    generalize upd H l (.lst (sV xs)) = B at x0 hl
    have fin : ∀ v H2, Z.Ex B H2 → (isV (oV (compOf T d.name))).P H2 v → (endsOf Q).rt v H2 := fun v H2 d2 p2 => q v H2 (x0.trans d2) p2
    rw [← e] at fin
    rcases List.eq_nil_or_concat xs with rfl | ⟨r, a, rfl⟩
    · exact sx_ret (ev_if (et_list ((ev_var 2 rfl).qL (SqL.of hl))) (fun z => by cases z) fun _ => ev_none) fin
    · have e3 : (r ++ [a]).getLast? = some a := by simp
      rw [List.concat_eq_append] at hl fin
      rw [e3] at fin
      rw [show sV (r ++ [a]) = sV r ++ [V.str a] from by simp [sV]] at hl
      exact sx_ret (ev_if (EvT.to (et_list ((ev_var 2 rfl).qL (SqL.of hl))) (by cases r <;> rfl)) (fun _ => ev_ixL ((ev_var 2 rfl).qL (SqL.of hl)) ev_negc (atI_neg1 (by simp))) fun z => by cases z) fin
end
end K24
set_option Elab.async false
set_option linter.all false
set_option maxRecDepth 100000
set_option maxHeartbeats 1000000
/-! The law's items, composites, members. -/
namespace K24
open PySem PySem.Spec PyProof.Rows L2 Z
section
variable {P : Program} {w : World} {K : PySem.W.Frag} {mg : PySem.Str → Option Value} {base : Heap}
/-- all([..]) -/
theorem ev_allL {X : Cx} {σ : L2.St} {B : Hp} {a : Expr} {p pos : Pos} {bs : List Bool} (hm : X.mg "all" = none) (ha : Ev X a σ B (seqL X.K (bs.map V.bl))) (hg : Gl X "all" := by rfl) (he : starEach [a] X.env = (false, eval a X.env) :: starEach [] X.env := by rfl) (hpl : (backTo pos (starEach [] X.env)).any (·.1) = false := by rfl) (hc : X.calm = true := by rfl) :
    Ev X (.Call (.Name "all" p) [a] [] pos) σ B (isV (.bl (bs.all id))) :=
  ev_bfn (cr_all hc) hm (by decide +kernel) (ea_cons ha ea_nil he) (fun vs H d p2 Q q => by
    obtain ⟨v, ws, e, ⟨q1, z, h⟩, e2⟩ := p2
    have e2 : ws = [] := e2
    rw [e, e2, z]
    exact ⟨q1, bs, rfl, h, q _ H (Z.Ex.refl H) rfl⟩) hg (by decide) (by decide) he hpl
abbrev anyL : List Nd → PySem.Str → Prop := fun _ _ => True
theorem sV_ix {ns : List PySem.Str} {i : Nat} {v : V} (z : (sV ns)[i]? = some v) : ∃ n, ns[i]? = some n ∧ v = .str n := by
  unfold sV at z
  rw [List.getElem?_map] at z
  cases h : ns[i]? with
  | none => rw [h] at z; cases z
  | some n =>
    rw [h] at z
    exact ⟨n, rfl, (Option.some.inj z).symm⟩
def onV (T : List Nd) : V → V
  | .str n => .bl (onOf T n)
  | v => v
theorem onV_map (T : List Nd) (ns : List PySem.Str) : keepF (fun _ => true) (onV T) (sV ns) = (ns.map (onOf T)).map V.bl := by
  induction ns with
  | nil => rfl
  | cons n r ih =>
    show onV T (.str n) :: keepF (fun _ => true) (onV T) (sV r) = _
    rw [ih]
    rfl
theorem all_map (p : PySem.Str → Bool) (ns : List PySem.Str) : (ns.map p).all id = ns.all p := by rw [List.all_map]; rfl
theorem fc_law_items (c : Says K mg base) : Cal P w K mg base "_law_items" 4 ["_law_tree_here", "_law_layer_here"] (spLL K anyL itemsOf) := by
  refine cal_of (fn__law_items c) (glo__law_items c) sc__law_items bi__law_items spLL_len ?_
  rintro cdv A0 outer s H vs Q E hr ⟨lt, T, L, rfl, hT, _, q⟩
  have S := sc__law_items
  have wf := hT.wf
  refine sx_asgN 2 (ev_lst (vs := []) ea_nil (Nat.zero_le _)) fun l fl => ?_
  have x0 : Z.Ex H (upd H l (.lst [])) := Z.Ex.new fl
  obtain ⟨od, kd, lb, on, pd, hh⟩ := hT.at_
  refine sx_forAt 3 (p := od) (xs := sV (namesOf T)) (ev_dget (k := (Sum.inr "order" : L2.Key)) (ev_var 0 rfl) (x0.get hh.lt) ev_str rfl (hu_of hr) (by intro _ _; rfl)) (fun i σ B => Z.Ex H B ∧ (∃ v1 v2, σ = [some (.ref lt), some (.str L), some (.ref l), v1, v2]) ∧ B l = some (.lst (sV (((namesOf T).take i).filter fun n => focB T n && decide (layOf T n = L))))) ⟨x0, ⟨_, _, rfl⟩, upd_same⟩ (fun i σ B z => SqL.of (z.1.get hh.od)) ?_ ?_
  · rintro i v σ B hi ⟨xB, ⟨v1, v2, rfl⟩, hl⟩
    obtain ⟨n, ns, rfl⟩ := sV_ix hi
    obtain ⟨d2, hd, rfl⟩ := List.mem_map.mp (List.mem_of_getElem? ns)
    have hT1 := hT.up xB
    have tk : ((namesOf T).take (i + 1)).filter (fun n => focB T n && decide (layOf T n = L)) = ((namesOf T).take i).filter (fun n => focB T n && decide (layOf T n = L)) ++ (if focB T d2.name && decide (layOf T d2.name = L) then [d2.name] else []) := by
      rw [take_snoc ns, List.filter_append]
      congr 1
      rw [List.filter_cons, List.filter_nil]
    have hlen : (((namesOf T).take i).filter fun n => focB T n && decide (layOf T n = L)).length ≤ 60 := by
      refine Nat.le_trans (List.length_filter_le _ _) ?_
      rw [List.length_take]
      have := hT.len
      have : (namesOf T).length = T.length := List.length_map _
      omega
    have no : ∀ B3 : Hp, Z.Ex B B3 → (focB T d2.name && decide (layOf T d2.name = L)) = false → B3 l = some (.lst (sV (((namesOf T).take (i + 1)).filter fun n => focB T n && decide (layOf T n = L)))) := fun B3 x3 e => by
      rw [tk, e]
      rw [if_neg (by decide), List.append_nil]
      exact x3.get hl
    refine sx_if (ew_and (et_eqS (ev_lkind hr hT1 hd (ev_var 0 rfl) (ev_var 3 rfl)) ev_str rfl) fun _ => ew_and1 (et_eqS (ev_cl (fc_law_layer c) hr (by decide) hT1 hd (ev_var 0 rfl) (ev_var 3 rfl)) (ev_var 1 rfl) rfl)).t (fun hv => ?_) (fun hv => ?_)
    · rw [Bool.and_eq_true, str_dec, str_dec] at hv
      have al : (d2.name :: betw T d2.name).length ≤ 9 := Nat.succ_le_succ (betw_100 wf hd)
      refine sx_if (et_val (ev_allL (bs := (d2.name :: betw T d2.name).map (onOf T)) (free_all c) (Ev.nL (Ev.to (ev_lc (j := 4) (g := onV T) (xs := sV (d2.name :: betw T d2.name)) (Ev.nL (ev_cat (xs := [.str d2.name]) (ev_lst (vs := [.str d2.name]) (ea_cons (ev_var 3 rfl) ea_nil) (show 1 ≤ sizeLine from by decide +kernel)).nA (ev_cll (fc_law_inner c) hr (by decide) hT1 ⟨d2, hd, rfl⟩ (ev_var 0 rfl) (ev_var 3 rfl)).nA (by rw [len_of_sV]; have := betw_100 wf hd; exact Nat.le_trans (Nat.add_le_add_left this _) (show 1 + 8 ≤ sizeLine from by decide +kernel)))) (by rw [len_of_sV]; exact Nat.le_trans al (by decide)) rfl (fun v => rfl) (fun s H C cl fp v hv B1 x1 => ?_) rfl) fun v H2 d2 h => by
          rw [onV_map] at h
          exact h)))) (fun h2 => ?_) (fun h2 => ?_)
      · obtain ⟨n, hn, rfl⟩ := List.mem_map.mp hv
        have hm : ∃ q2 ∈ T, q2.name = n := by
          rcases List.mem_cons.mp hn with rfl | hn
          · exact ⟨d2, hd, rfl⟩
          · exact betw_mem wf hd n hn
        obtain ⟨q2, hq2, rfl⟩ := hm
        show Ev _ _ _ _ (isV (.bl (onOf T q2.name)))
        rw [onOf_of wf hq2]
        exact ev_lon hr (hT1.up x1) hq2 (ev_var 0 rfl) (ev_var 4 rfl)
      · rw [all_map] at h2
        have e : (focB T d2.name && decide (layOf T d2.name = L)) = true := by
          unfold focB
          rw [kindOf_of wf hd, hv.1, h2, hv.2]
          rfl
        refine sx_app (ev_var 2 rfl) (ev_var 3 rfl) hl (by rw [len_of_sV]; omega) ?_
        refine sx_skip (sx_skip (sx_nil fun H2 d2 => ⟨_, d2, xB.mut fl, ⟨_, _, rfl⟩, ?_⟩))
        rw [upd_same, tk, e, if_pos rfl, sV_snoc]
      · rw [all_map] at h2
        have e : (focB T d2.name && decide (layOf T d2.name = L)) = false := by
          unfold focB
          rw [h2, Bool.and_false, Bool.false_and]
        exact sx_skip (sx_skip (sx_nil fun H2 d2 => ⟨B, d2, xB, ⟨_, _, rfl⟩, no B (Z.Ex.refl B) e⟩))
    · rw [str_dec, str_dec] at hv
      have e : (focB T d2.name && decide (layOf T d2.name = L)) = false := by
        unfold focB
        rw [kindOf_of wf hd]
        revert hv
        cases decide (d2.kind = "item") <;> cases decide (layOf T d2.name = L) <;> simp
      exact sx_skip (sx_nil fun H2 d2 => ⟨B, d2, xB, ⟨_, _, rfl⟩, no B (Z.Ex.refl B) e⟩)
  · rintro σ B ⟨xB, ⟨v1, v2, rfl⟩, hl⟩
    rw [List.take_of_length_le (by rw [len_of_sV]; exact Nat.le_refl _)] at hl
    exact sx_ret (ev_var 2 rfl) fun v H2 d2 p2 => q v H2 (xB.trans d2) ⟨l, p2, fl, d2.get hl⟩
theorem fc_law_composites (c : Says K mg base) : Cal P w K mg base "_law_composites" 5 ["_law_tree_here"] (fun vs H Q _ => ∃ lt T, vs = [.ref lt] ∧ LTr H lt T ∧ Ret (newO H (.lst (sV (outsOf T)))) H Q) := by
  refine cal_of (fn__law_composites c) (glo__law_composites c) sc__law_composites bi__law_composites (fun vs H Q E ⟨t, T, e, _⟩ => by rw [e]; rfl) ?_
  rintro cdv A0 outer s H vs Q E hr ⟨lt, T, rfl, hT, q⟩
  have S := sc__law_composites
  have wf := hT.wf
  have nl : (namesOf T).length ≤ 60 := by
    have := hT.len
    rw [show (namesOf T).length = T.length from List.length_map _]
    exact this
  refine sx_asgLc 1 (j := 2) (f := onS (isComp T)) (g := fun v => v) (ev_lorder hr hT (ev_var 0 rfl)) (by rw [len_of_sV]; omega) rfl (fun v => rfl) (fun s H C cl fp v hv B1 x1 => ?_) (fun s H C cl fp v hv _ B1 x1 => ev_var 2 rfl) (fun l fl => ?_) rfl
  · obtain ⟨n, hn, rfl⟩ := List.mem_map.mp hv
    obtain ⟨q2, hq2, rfl⟩ := List.mem_map.mp hn
    exact et_lcomp hr (hT.up x1) hq2 (ev_var 0 rfl) (ev_var 2 rfl)
  · rw [keepF_names]
    have x0 : Z.Ex H (upd H l (.lst (sV ((namesOf T).filter (isComp T))))) := Z.Ex.new fl
    have e : outsOf T = ((namesOf T).filter (isComp T)).filter fun n => decide (compOf T n = none) := by
      rw [List.filter_filter]
      refine List.filter_congr fun n _ => Bool.and_comm _ _
    have ll : ((namesOf T).filter (isComp T)).length ≤ 60 := Nat.le_trans (List.length_filter_le _ _) nl
    rw [e, ← keepF_names] at q
    refine sx_ret (ev_lcIf (j := 2) (f := onS fun n => decide (compOf T n = none)) (g := fun v => v) ((ev_var 1 rfl).qL (SqL.of upd_same)) (by rw [len_of_sV]; omega) rfl (fun v => rfl) (fun s H C cl fp v hv B1 x1 => ?_) (fun s H C cl fp v hv _ B1 x1 => ev_var 2 rfl) rfl) fun v H2 d2 ⟨p, z, fr, h⟩ => q v H2 (x0.trans d2) ⟨p, z, x0.free fr, h⟩
    obtain ⟨n, hn, rfl⟩ := List.mem_map.mp hv
    obtain ⟨q2, hq2, rfl⟩ := List.mem_map.mp (List.mem_filter.mp hn).1
    exact (et_isN (ev_cl (fc_law_composite c) hr (by decide) ((hT.up x0).up x1) hq2 (ev_var 0 rfl) (ev_var 2 rfl))).to (oV_non _)
theorem fc_law_members (c : Says K mg base) : Cal P w K mg base "_law_members" 5 ["_law_tree_here", "_law_composite_here"] (spLL K nodeP membs) := by
  refine cal_of (fn__law_members c) (glo__law_members c) sc__law_members bi__law_members spLL_len ?_
  rintro cdv A0 outer s H vs Q E hr ⟨lt, T, L, rfl, hT, ⟨d, hd, rfl⟩, q⟩
  have S := sc__law_members
  refine sx_asgN 2 (ev_cll (fc_law_items c) hr (by decide) hT trivial (ev_var 0 rfl) (ev_cl (fc_law_layer c) hr (by decide) hT hd (ev_var 0 rfl) (ev_var 1 rfl))) fun l fl => ?_
  have x0 : Z.Ex H (upd H l (.lst (sV (itemsOf T (layOf T d.name))))) := Z.Ex.new fl
  have e : membs T d.name = (itemsOf T (layOf T d.name)).filter fun n => decide (compOf T n = some d.name) := rfl
  rw [e, ← keepF_names] at q
  refine sx_ret (ev_lcIf (j := 3) ((ev_var 2 rfl).qL (SqL.of upd_same)) (by rw [len_of_sV]; exact Nat.le_trans (items_len hT.len) (by decide)) rfl (fun v => rfl) (fun s H C cl fp v hv B1 x1 => ?_) (fun s H C cl fp v hv _ B1 x1 => ev_var 3 rfl) rfl) fun v H2 d2 ⟨p, z, fr, h⟩ => q v H2 (x0.trans d2) ⟨p, z, x0.free fr, h⟩
  obtain ⟨d2, hd2, rfl⟩ := items_in hv
  have hT1 := hT.up (x0.trans x1)
  refine (et_eqS (ev_cl (fc_law_composite c) hr (by decide) hT1 hd2 (ev_var 0 rfl) (ev_var 3 rfl)) (ev_var 1 rfl) ?_).to (oV_str _ _)
  cases compOf T d2.name with
  | none => rfl
  | some x => rfl
end
end K24
set_option Elab.async false
set_option linter.all false
set_option maxRecDepth 100000
set_option maxHeartbeats 1000000
/-! The law's state. -/
namespace K24
open PySem PySem.Spec PyProof.Rows L2 Z
/-- the addresses of a law's state -/
structure La where
  s : Addr
  lt : Addr
  sk : Addr
  cu : Addr
  ro : Addr
  op : Addr
abbrev lsKs (L : La) : List (L2.Key × V) := [((Sum.inr "tree" : L2.Key), .ref L.lt), ((Sum.inr "stack" : L2.Key), .ref L.sk), ((Sum.inr "current" : L2.Key), .ref L.cu), ((Sum.inr "roving" : L2.Key), .ref L.ro), ((Sum.inr "openings" : L2.Key), .ref L.op), ((Sum.inr "count" : L2.Key), .int 0)]
/-- what a step of the law may change -/
def Lf (L : La) (q : Addr) : Prop := q = L.cu ∨ q = L.ro
structure LS (Hb H : Hp) (L : La) (T : List Nd) (cur : Option PySem.Str) (rov : List (L2.Key × V)) : Prop where
  st : H L.s = some (.dK (lsKs L))
  sk : H L.sk = some (.lst [.str "root"])
  cu : H L.cu = some (.dK [((Sum.inr "root" : L2.Key), oV cur)])
  ro : H L.ro = some (.dK rov)
  ne : L.cu ≠ L.ro
  tr : LTf (fun q => Hb q = none ∧ ¬ Lf L q) H L.lt T
  bt : ∃ path, Built T path
  len : T.length ≤ 60
  ci : ∀ n, cur = some n → ∃ d ∈ T, d.name = n
  rm : muB (.dK rov) = true
  rl : Keyed T rov
  f1 : Hb L.s = none
  f2 : Hb L.sk = none
  f3 : Hb L.cu = none
  f4 : Hb L.ro = none
section
variable {Hb H H' H2 : Hp} {L : La} {T : List Nd} {cur : Option PySem.Str} {rov : List (L2.Key × V)} {F : Addr → Prop}
theorem LS.up (e : Z.Ex H H') (h : LS Hb H L T cur rov) : LS Hb H' L T cur rov :=
  ⟨e.get h.st, e.get h.sk, e.get h.cu, e.get h.ro, h.ne, h.tr.up e, h.bt, h.len, h.ci, h.rm, h.rl, h.f1, h.f2, h.f3, h.f4⟩
theorem LS.exc (e : Exc F H H') (n : ∀ q, F q → Hb q ≠ none) (h : LS Hb H L T cur rov) : LS Hb H' L T cur rov :=
  ⟨e.get h.st fun z => n _ z h.f1, e.get h.sk fun z => n _ z h.f2, e.get h.cu fun z => n _ z h.f3, e.get h.ro fun z => n _ z h.f4, h.ne, h.tr.exc e fun q g z => n _ z g.1, h.bt, h.len, h.ci, h.rm, h.rl, h.f1, h.f2, h.f3, h.f4⟩
theorem LS.ltr (h : LS Hb H L T cur rov) : LTr H L.lt T := ⟨h.tr.here, h.bt, h.len⟩
theorem LS.wf (h : LS Hb H L T cur rov) : WF T := h.ltr.wf
theorem LS.mus (h : LS Hb H L T cur rov) : Mus (Lf L) H := fun q o hq ho => by
  rcases hq with z | z
  · rw [z, h.cu] at ho
    cases ho
    show (notRef (oV cur) && true) = true
    rw [oV_notRef]
    rfl
  · rw [z, h.ro] at ho
    cases ho
    exact h.rm
/-- one's own change -/
theorem LS.putC (h : LS Hb H L T cur rov) {d : Nd} (hd : d ∈ T) : LS Hb (upd H L.cu (.dK [((Sum.inr "root" : L2.Key), .str d.name)])) L T (some d.name) rov := by
  have e : Exc (Lf L) H (upd H L.cu (.dK [((Sum.inr "root" : L2.Key), .str d.name)])) := (Z.Ex.refl H).exc.put (Or.inl rfl)
  exact ⟨keepE e h.mus h.st rfl, keepE e h.mus h.sk rfl, upd_same, by rw [upd_ne (Ne.symm h.ne)]; exact h.ro, h.ne, h.tr.exc e fun q g => g.2, h.bt, h.len, fun n hn => ⟨d, hd, Option.some.inj hn⟩, h.rm, h.rl, h.f1, h.f2, h.f3, h.f4⟩
theorem LS.putR (h : LS Hb H L T cur rov) {d : Nd} {v : V} (hd : d ∈ T) (hv : notRef v = true) : LS Hb (upd H L.ro (.dK (putK rov (Sum.inr d.name : L2.Key) v))) L T cur (putK rov (Sum.inr d.name : L2.Key) v) := by
  have e : Exc (Lf L) H (upd H L.ro (.dK (putK rov (Sum.inr d.name : L2.Key) v))) := (Z.Ex.refl H).exc.put (Or.inr rfl)
  exact ⟨keepE e h.mus h.st rfl, keepE e h.mus h.sk rfl, by rw [upd_ne h.ne]; exact h.cu, upd_same, h.ne, h.tr.exc e fun q g => g.2, h.bt, h.len, h.ci, mu_put h.rm hv, h.rl.put hd, h.f1, h.f2, h.f3, h.f4⟩
/-- the manager where the law changes its state -/
def Kn (Hb : Hp) (A : Ad) : Prop := ∀ q, Mf A q ∨ q = A.ly → Hb q ≠ none
theorem MgrAt.lexc {K : PySem.W.Frag} {A : Ad} {cur2 : Option PySem.Str} {rov2 : List (L2.Key × V)} (h : MgrAt K H A T cur2 rov2) (l : LS Hb H L T cur rov) (k : Kn Hb A) (e : Exc (Lf L) H H') : MgrAt K H' A T cur2 rov2 := by
  have n : ∀ q, Mf A q ∨ q = A.ly → ¬ Lf L q := fun q hq z => by
    rcases z with z | z
    · rw [z] at hq
      exact k _ hq l.f3
    · rw [z] at hq
      exact k _ hq l.f4
  obtain ⟨mx, km, wt, h1⟩ := h.mm
  exact ⟨⟨mx, km, wt, e.get h1 (n _ (Or.inl (Or.inl rfl)))⟩, h.lay.exc e l.mus (n _ (Or.inr rfl)) (n _ (Or.inl (Or.inr (Or.inl rfl)))) (n _ (Or.inl (Or.inr (Or.inr (Or.inl rfl))))), h.ann.exc e l.mus (n _ (Or.inl (Or.inr (Or.inr (Or.inr rfl))))), h.nm, h.cb⟩
end
section
variable {P : Program} {w : World} {K : PySem.W.Frag} {mg : PySem.Str → Option Value} {base : Heap}
section
variable {X : Cx} {σ : L2.St} {Hb B : Hp} {o e e2 : Expr} {x : PySem.Str} {p pos p1 p2 p3 : Pos} {j k i : Nat} {L : La} {T : List Nd} {cur : Option PySem.Str} {rov : List (L2.Key × V)}
theorem ev_stree (hr : Room j X.A) (h : LS Hb B L T cur rov) (ho : Ev X o σ B (isV (.ref L.s))) (hs : NoSl (.Constant (.str "tree") i p1) := by intro _ _; rfl) : Ev X (.Subscript o (.Constant (.str "tree") i p1) p2) σ B (isV (.ref L.lt)) :=
  ev_dget (k := (Sum.inr "tree" : L2.Key)) ho h.st ev_str rfl (hu_of hr) hs
theorem ev_sstack (hr : Room j X.A) (h : LS Hb B L T cur rov) (ho : Ev X o σ B (isV (.ref L.s))) (hs : NoSl (.Constant (.str "stack") i p1) := by intro _ _; rfl) : Ev X (.Subscript o (.Constant (.str "stack") i p1) p2) σ B (isV (.ref L.sk)) :=
  ev_dget (k := (Sum.inr "stack" : L2.Key)) ho h.st ev_str rfl (hu_of hr) hs
theorem ev_scur (hr : Room j X.A) (h : LS Hb B L T cur rov) (ho : Ev X o σ B (isV (.ref L.s))) (hs : NoSl (.Constant (.str "current") i p1) := by intro _ _; rfl) : Ev X (.Subscript o (.Constant (.str "current") i p1) p2) σ B (isV (.ref L.cu)) :=
  ev_dget (k := (Sum.inr "current" : L2.Key)) ho h.st ev_str rfl (hu_of hr) hs
theorem ev_srov (hr : Room j X.A) (h : LS Hb B L T cur rov) (ho : Ev X o σ B (isV (.ref L.s))) (hs : NoSl (.Constant (.str "roving") i p1) := by intro _ _; rfl) : Ev X (.Subscript o (.Constant (.str "roving") i p1) p2) σ B (isV (.ref L.ro)) :=
  ev_dget (k := (Sum.inr "roving" : L2.Key)) ho h.st ev_str rfl (hu_of hr) hs
/-- state['stack'][-1] -/
theorem ev_stop {i1 : Nat} {q1 q2 q3 q4 q5 : Pos} (hr : Room j X.A) (h : LS Hb B L T cur rov) (ho : Ev X o σ B (isV (.ref L.s))) (hs : NoSl (.Constant (.str "stack") i q1) := by intro _ _; rfl) (hs2 : NoSl (.UnaryOp .USub (.Constant (.int 1) i1 q2) q3) := by intro _ _; rfl) : Ev X (.Subscript (.Subscript o (.Constant (.str "stack") i q1) q4) (.UnaryOp .USub (.Constant (.int 1) i1 q2) q3) q5) σ B (isV (.str "root")) :=
  ev_ixL (xs := [.str "root"]) ((ev_sstack hr h ho hs).qL (SqL.of h.sk)) ev_negc rfl hs2
end
/-- what a reader of the state gives -/
def spLs (f : List Nd → Option PySem.Str → List (L2.Key × V) → V) : Sp := fun vs H Q _ => ∃ Hb L T cur rov, vs = [.ref (La.s L)] ∧ LS Hb H L T cur rov ∧ Ret (isV (f T cur rov)) H Q
def spLsL (f : List Nd → Option PySem.Str → List PySem.Str) : Sp := fun vs H Q _ => ∃ Hb L T cur rov, vs = [.ref (La.s L)] ∧ LS Hb H L T cur rov ∧ Ret (newO H (.lst (sV (f T cur)))) H Q
theorem fc_law_focused (c : Says K mg base) : Cal P w K mg base "_law_focused" 1 ["_law_state"] (spLs fun _ cur _ => oV cur) := by
  refine cal_of (fn__law_focused c) (glo__law_focused c) sc__law_focused bi__law_focused (fun vs H Q E ⟨_, _, _, _, _, e, _⟩ => by rw [e]; rfl) ?_
  rintro cdv A0 outer s H vs Q E hr ⟨Hb, L, T, cur, rov, rfl, h, q⟩
  exact sx_ret (ev_dget (k := (Sum.inr "root" : L2.Key)) (ev_scur hr h (ev_var 0 rfl)) h.cu (ev_stop hr h (ev_var 0 rfl)) (valV_pos rfl) (hu_of hr)) q
end
end K24
set_option Elab.async false
set_option linter.all false
set_option maxRecDepth 100000
set_option maxHeartbeats 1000000
/-! The law's path, its focus. -/
namespace K24
open PySem PySem.Spec PyProof.Rows L2 Z
section
variable {P : Program} {w : World} {K : PySem.W.Frag} {mg : PySem.Str → Option Value} {base : Heap}
section
variable {X : Cx} {σ : L2.St} {Hb B : Hp} {e : Expr} {x : PySem.Str} {p pos : Pos} {j k : Nat} {L : La} {T : List Nd} {cur : Option PySem.Str} {rov : List (L2.Key × V)}
theorem ev_ls {f : List Nd → Option PySem.Str → List (L2.Key × V) → V} {ps : List PySem.Str} (F : Cal X.prog X.w X.K X.mg X.base x k ps (spLs f)) (hr : Room j X.A) (hk : k ≤ j) (h : LS Hb B L T cur rov) (he : Ev X e σ B (isV (.ref L.s)))
    (hg : Gl X x := by rfl) (hdb : (x == ("__debug__" : PySem.Str)) = false := by decide) (hs : starEach [e] X.env = (false, eval e X.env) :: starEach [] X.env := by rfl) (hpl : (backTo pos (starEach [] X.env)).any (·.1) = false := by rfl) :
    Ev X (.Call (.Name x p) [e] [] pos) σ B (isV (f T cur rov)) :=
  ev_call F hr hk (args1 he hs) (fun vs H d2 p2 Q q => by
    rw [p2.vals]
    exact ⟨Hb, L, T, cur, rov, rfl, h.up d2, q⟩) hg hdb hs hpl
end
theorem fc_law_path (c : Says K mg base) : Cal P w K mg base "_law_path" 4 ["_law_state"] (spLsL pathOf) := by
  refine cal_of (fn__law_path c) (glo__law_path c) sc__law_path bi__law_path (fun vs H Q E ⟨_, _, _, _, _, e, _⟩ => by rw [e]; rfl) ?_
  rintro cdv A0 outer s H vs Q E hr ⟨Hb, L, T, cur, rov, rfl, h, q⟩
  have S := sc__law_path
  have big : 100 ≤ sizeLine := by decide
  refine sx_asgV 1 (ev_ls (fc_law_focused c) hr (by decide) h (ev_var 0 rfl)) (sx_asgV 2 (ev_stop hr h (ev_var 0 rfl)) ?_)
  cases cur with
  | none => exact sx_ret (ev_if (v := true) (EvT.to (et_isN (ev_var 1 rfl)) rfl) (fun _ => ev_lst (vs := [.str "root"]) (ea_cons (ev_var 2 rfl) ea_nil) (by show 1 ≤ sizeLine; omega)) fun z => by cases z) q
  | some n =>
    obtain ⟨d, hd, rfl⟩ := h.ci n rfl
    have wf := h.wf
    have l3 := betw_100 wf hd
    have e : sV (pathOf T (some d.name)) = ([V.str "root"] ++ (sV (betw T d.name)).reverse) ++ [.str d.name] := by
      show ([("root" : PySem.Str)] ++ (betw T d.name).reverse ++ [d.name]).map V.str = _
      rw [List.map_append, List.map_append, List.map_reverse]
      rfl
    rw [e] at q
    refine sx_ret (ev_if (v := false) (EvT.to (et_isN (ev_var 1 rfl)) rfl) (fun z => by cases z) fun _ => ev_cat (ev_cat (ev_lst (vs := [.str "root"]) (ea_cons (ev_var 2 rfl) ea_nil) (by show 1 ≤ sizeLine; omega)).nA (ev_rev (ev_cll (fc_law_inner c) hr (by decide) h.ltr ⟨d, hd, rfl⟩ (ev_stree hr h (ev_var 0 rfl)) (ev_var 1 rfl)).nL).nA ?_).nA (ev_lst (vs := [.str d.name]) (ea_cons (ev_var 1 rfl) ea_nil) (by show 1 ≤ sizeLine; omega)).nA ?_) q
    · rw [List.length_reverse, len_of_sV]
      show 1 + _ ≤ _
      omega
    · rw [List.length_append, List.length_reverse, len_of_sV]
      show (1 + _) + 1 ≤ _
      omega
def spLFoc : Sp := fun vs H Q _ => ∃ Hb L T cur rov d, vs = [.ref (La.s L), .str (Nd.name d)] ∧ LS Hb H L T cur rov ∧ d ∈ T ∧ ∀ H2, LS Hb H2 L T (some d.name) (rovP T rov d.name) → Exc (Lf L) H H2 → Q .non H2
theorem fc_law_focus (c : Says K mg base) : Cal P w K mg base "_law_focus" 5 ["_law_state", "_law_item"] spLFoc := by
  refine cal_of (fn__law_focus c) (glo__law_focus c) sc__law_focus bi__law_focus (fun vs H Q E ⟨_, _, _, _, _, _, e, _⟩ => by rw [e]; rfl) ?_
  rintro cdv A0 outer s H vs Q E hr ⟨Hb, L, T, cur, rov, d, rfl, h, hd, q⟩
  have S := sc__law_focus
  have wf := h.wf
  refine sx_dput (key := (Sum.inr "root" : L2.Key)) (ev_var 1 rfl) (ev_scur hr h (ev_var 0 rfl)) (ev_stop hr h (ev_var 0 rfl)) h.cu (by show 1 < sizeLine; decide) (hu_of hr) ?_
  have e0 : putK [((Sum.inr "root" : L2.Key), oV cur)] (Sum.inr "root" : L2.Key) (.str d.name) = [((Sum.inr "root" : L2.Key), .str d.name)] := rfl
  rw [e0]
  have e1 : Exc (Lf L) H (upd H L.cu (.dK [((Sum.inr "root" : L2.Key), .str d.name)])) := (Z.Ex.refl H).exc.put (Or.inl rfl)
  have h2 := h.putC hd
  generalize upd H L.cu (.dK [((Sum.inr "root" : L2.Key), .str d.name)]) = B at e1 h2
  refine sx_asgV 2 (ev_cl (fc_law_composite c) hr (by decide) h2.ltr hd (ev_stree hr h2 (ev_var 0 rfl)) (ev_var 1 rfl)) ?_
  unfold rovP at q
  cases hc : compOf T d.name with
  | none =>
    rw [hc] at q
    exact sx_no (EvT.to (et_notN (ev_var 2 rfl)) rfl) (sx_nil fun H2 d2 => q H2 (h2.up d2) (e1.trans d2.exc))
  | some x =>
    rw [hc] at q
    obtain ⟨y, hy, rfl⟩ := comp_node wf hd hc
    have kl : rov.length < sizeLine := by
      have z1 := h.rl.len
      have z2 := h.len
      have : 100 ≤ sizeLine := by decide
      omega
    refine sx_yes (EvT.to (et_notN (ev_var 2 rfl)) rfl) (sx_dput (key := (Sum.inr y.name : L2.Key)) (ev_var 1 rfl) (ev_srov hr h2 (ev_var 0 rfl)) (ev_var 2 rfl) h2.ro kl (hu_of hr) (sx_skip (sx_nil fun H2 d2 => ?_)))
    exact q H2 ((h2.putR hy rfl).up d2) (e1.trans (((Z.Ex.refl B).exc.put (F := Lf L) (Or.inr rfl)).trans d2.exc))
end
end K24
set_option Elab.async false
set_option linter.all false
set_option maxRecDepth 100000
set_option maxHeartbeats 1000000
/-! The law's movements and texts typed ahead. -/
namespace K24
open PySem PySem.Spec PyProof.Rows L2 Z
/-- the roving item of the focused item's composite is the focused one -/
def Rv (T : List Nd) (cur : Option PySem.Str) (rov : List (L2.Key × V)) : Prop := ∀ n x, cur = some n → compOf T n = some x → valV rov (Sum.inr x : L2.Key) = some (.str n)
theorem putK_same (k : L2.Key) (v : V) (rov : List (L2.Key × V)) (nd : (rov.map (·.1)).Nodup) (h : valV rov k = some v) : putK rov k v = rov := by
  unfold putK
  rw [if_pos (by rw [valV_any, h]; rfl)]
  have key : ∀ l : List (L2.Key × V), (l.map (·.1)).Nodup → valV l k = some v → (l.map fun kv => if kv.1 = k then (kv.1, v) else kv) = l := by
    intro l
    induction l with
    | nil => intro _ h; cases h
    | cons p r ih =>
      intro nd h
      have nd2 := List.nodup_cons.mp nd
      rw [List.map_cons]
      by_cases e : p.1 = k
      · rw [valV_pos e] at h
        have e2 : p.2 = v := Option.some.inj h
        rw [if_pos e, ← e2]
        congr 1
        have no : ∀ q ∈ r, ¬ q.1 = k := fun q hq z => nd2.1 (by
          show p.1 ∈ _
          rw [e, ← z]
          exact List.mem_map.mpr ⟨q, hq, rfl⟩)
        refine (List.map_congr_left fun q hq => if_neg (no q hq)).trans (List.map_id' _)
      · rw [valV_neg e] at h
        rw [if_neg e, ih nd2.2 h]
  exact key rov nd h
theorem Rv.mk (T : List Nd) (n : PySem.Str) (rov : List (L2.Key × V)) : Rv T (some n) (rovP T rov n) := fun m x e hc => by
  have e : n = m := Option.some.inj e
  subst e
  unfold rovP
  rw [hc]
  rw [valV_put, if_pos rfl]
section
variable {P : Program} {w : World} {K : PySem.W.Frag} {mg : PySem.Str → Option Value} {base : Heap}
def spLW : Sp := fun vs H Q _ => ∃ Hb L T cur rov m, vs = [.ref (La.s L), .str (mvL m)] ∧ LS Hb H L T cur rov ∧ (∀ n, cur = some n → n ∈ itemsOf T "root") ∧ ∀ v H2, LS Hb H2 L T (movS T (cur, rov) m).1 (movS T (cur, rov) m).2 → Exc (Lf L) H H2 → Q v H2
theorem fc_law_within (c : Says K mg base) : Cal P w K mg base "_law_within" 6 ["_law_state", "_law_word"] spLW := by
  refine cal_of (fn__law_within c) (glo__law_within c) sc__law_within bi__law_within (fun vs H Q E ⟨_, _, _, _, _, _, e, _⟩ => by rw [e]; rfl) ?_
  rintro cdv A0 outer s H vs Q E hr ⟨Hb, L, T, cur, rov, m, rfl, h, cb, q⟩
  have S := sc__law_within
  have wf := h.wf
  refine sx_asgV 2 (ev_ls (fc_law_focused c) hr (by decide) h (ev_var 0 rfl)) (sx_asgV 3 (ev_stree hr h (ev_var 0 rfl)) ?_)
  cases cur with
  | none =>
    rw [movS_no (show hasC T none = false from rfl)] at q
    exact sx_yes (EvT.to (ew_or (w := false) (et_isN (ev_var 2 rfl)) fun z => by cases z).t rfl) (sx_ret ev_bool fun v H2 d2 p2 => q v H2 (h.up d2) d2.exc)
  | some n =>
    obtain ⟨d, hd, rfl⟩ := h.ci n rfl
    have hi := cb _ rfl
    cases hc : compOf T d.name with
    | none =>
      rw [movS_no (show hasC T (some d.name) = false from by show (!decide (compOf T d.name = none)) = false; rw [hc]; rfl)] at q
      refine sx_yes (EvT.to (ew_or (et_isN (ev_var 2 rfl)) fun _ => ew_or1 (et_isN (ev_cl (fc_law_composite c) hr (by decide) h.ltr hd (ev_var 3 rfl) (ev_var 2 rfl)))).t ?_) (sx_ret ev_bool fun v H2 d2 p2 => q v H2 (h.up d2) d2.exc)
      rw [hc]
      rfl
    | some x =>
      rw [movS_yes hc] at q
      obtain ⟨path, b⟩ := h.bt
      obtain ⟨hl, hm⟩ := comp_lay b hi hc
      obtain ⟨cx, hcx, rfl⟩ := comp_node wf hd hc
      refine sx_no (EvT.to (ew_or (et_isN (ev_var 2 rfl)) fun _ => ew_or1 (et_isN (ev_cl (fc_law_composite c) hr (by decide) h.ltr hd (ev_var 3 rfl) (ev_var 2 rfl)))).t (by rw [hc]; rfl)) ?_
      refine sx_asgV 4 (v := .str cx.name) (Ev.to (ev_cl (fc_law_composite c) hr (by decide) h.ltr hd (ev_var 3 rfl) (ev_var 2 rfl)) fun v H2 d2 z => by
        have z : v = oV (compOf T d.name) := z
        rw [z, hc]
        rfl) ?_
      refine sx_asgN 5 (ev_cll (fc_law_members c) hr (by decide) h.ltr ⟨cx, hcx, rfl⟩ (ev_var 3 rfl) (ev_var 4 rfl)) fun l fl => ?_
      have x0 : Z.Ex H (upd H l (.lst (sV (membs T cx.name)))) := Z.Ex.new fl
      have hl2 : (upd H l (.lst (sV (membs T cx.name)))) l = some (.lst (sV (membs T cx.name))) := upd_same
      generalize upd H l (.lst (sV (membs T cx.name))) = B at x0 hl2
      have hB := h.up x0
      refine sx_asgV 6 (ev_indexS ((ev_var 5 rfl).qL (SqL.of hl2)) (ev_var 2 rfl) hm) ?_
      obtain ⟨y, hy, hyin⟩ := membs_at hm m
      have em : movedF T d.name m = y := by
        unfold movedF
        rw [hc]
        show ((membs T cx.name)[_]?).getD _ = y
        rw [hy]
        rfl
      rw [em] at q
      obtain ⟨yd, hyd, rfl⟩ := membs_in hyin
      have ck : circB T cx.name = decide (cx.kind = "circular") := by
        unfold circB
        rw [kindOf_of wf hcx]
      have np : (0 : Int) < ((sV (membs T cx.name)).length : Int) := by
        rw [len_of_sV]
        have := List.length_pos_of_mem hm
        omega
      -- behind the choice of the place
      have fin : ∀ (i : Int), atI (sV (membs T cx.name)) i = some (.str yd.name) →
          SX (cxN P w K mg base n__law_within "_law_within" (defScope b__law_within) (He.ga K "_law_within") cdv A0 outer s H E) ((defBody b__law_within).drop 7) (endsOf Q) [some (.ref L.s), some (.str (mvL m)), some (.str d.name), some (.ref L.lt), some (.str cx.name), some (.ref l), some (.int i)] B := by
        intro i hi
        refine sx_drop fun H1 y1 => ?_
        refine sE_call (fc_law_focus c) hr (by decide) (args2 (ev_var 0 rfl) (ev_ixL ((ev_var 5 rfl).qL (SqL.of hl2)) (ev_var 6 rfl) hi)) y1 fun vs H2 d2 p2 => ?_
        rw [p2.vals]
        refine ⟨Hb, L, T, _, rov, yd, rfl, hB.up (y1.trans d2), hyd, fun H3 h3 e3 => ?_⟩
        refine (show SX _ _ _ _ H3 from ?_) H3 (Z.Ex.refl H3)
        exact sx_ret ev_bool fun v H4 d4 p4 => q v H4 (h3.up d4) (((x0.trans (y1.trans d2)).exc.trans e3).trans d4.exc)
      have wi : ∀ {i : Int}, (membs T cx.name)[(wrapI (circB T cx.name) i (membs T cx.name).length).toNat]? = some yd.name → atI (sV (membs T cx.name)) (wrapI (circB T cx.name) i ((sV (membs T cx.name)).length : Int)) = some (.str yd.name) := fun {i} hh => by
        have z := @wrapI_in (circB T cx.name) i _ np
        rw [len_of_sV] at z ⊢
        exact atI_sV (by omega) hh
      cases m with
      | first => exact sx_yes (EvT.to (et_eqS (ev_var 1 rfl) ev_str rfl) rfl) (sx_asgV 6 ev_int (sx_skip (fin _ (atI_sV (j := 0) rfl hy))))
      | last =>
        refine sx_noE (EvT.to (et_eqS (ev_var 1 rfl) ev_str rfl) rfl) (sx_yes (EvT.to (et_eqS (ev_var 1 rfl) ev_str rfl) rfl) (sx_asgV 6 (ev_sub (ev_lenL (free_len c) ((ev_var 5 rfl).qL (SqL.of hl2))) ev_int) (sx_skip (sx_skip (fin _ (atI_sV (j := (membs T cx.name).length - 1) ?_ hy))))))
        rw [len_of_sV]
        have := List.length_pos_of_mem hm
        omega
      | next =>
        refine sx_noE (EvT.to (et_eqS (ev_var 1 rfl) ev_str rfl) rfl) (sx_noE (EvT.to (et_eqS (ev_var 1 rfl) ev_str rfl) rfl) (sx_asgV 6 (ev_add (ev_var 6 rfl) (ev_if (v := true) (S := isV (.int 1)) (EvT.to (et_eqS (ev_var 1 rfl) ev_str rfl) rfl) (fun _ => ev_int) fun z => by cases z)) (sx_asgV 6 (v := .int (wrapI (circB T cx.name) ((ix (membs T cx.name) d.name : Int) + 1) ((sV (membs T cx.name)).length : Int))) (ev_if (v := circB T cx.name) (EvT.to (et_eqS (ev_lkind hr hB.ltr hcx (ev_var 3 rfl) (ev_var 4 rfl)) ev_str rfl) (by rw [ck, str_dec])) (fun z => ?_) (fun z => ?_)) (sx_skip (sx_skip (fin _ (wi hy)))))))
        · rw [z]
          exact ev_mod (ev_var 6 rfl) (ev_lenL (free_len c) ((ev_var 5 rfl).qL (SqL.of hl2))) np
        · rw [z]
          exact ev_max rfl (free_max c) ev_int (ev_min rfl (free_min c) (ev_sub (ev_lenL (free_len c) ((ev_var 5 rfl).qL (SqL.of hl2))) ev_int) (ev_var 6 rfl))
      | prev =>
        refine sx_noE (EvT.to (et_eqS (ev_var 1 rfl) ev_str rfl) rfl) (sx_noE (EvT.to (et_eqS (ev_var 1 rfl) ev_str rfl) rfl) (sx_asgV 6 (ev_add (ev_var 6 rfl) (ev_if (v := false) (S := isV (.int (-1))) (EvT.to (et_eqS (ev_var 1 rfl) ev_str rfl) rfl) (fun z => by cases z) fun _ => ev_negc)) (sx_asgV 6 (v := .int (wrapI (circB T cx.name) ((ix (membs T cx.name) d.name : Int) + -1) ((sV (membs T cx.name)).length : Int))) (ev_if (v := circB T cx.name) (EvT.to (et_eqS (ev_lkind hr hB.ltr hcx (ev_var 3 rfl) (ev_var 4 rfl)) ev_str rfl) (by rw [ck, str_dec])) (fun z => ?_) (fun z => ?_)) (sx_skip (sx_skip (fin _ (wi hy)))))))
        · rw [z]
          exact ev_mod (ev_var 6 rfl) (ev_lenL (free_len c) ((ev_var 5 rfl).qL (SqL.of hl2))) np
        · rw [z]
          exact ev_max rfl (free_max c) ev_int (ev_min rfl (free_min c) (ev_sub (ev_lenL (free_len c) ((ev_var 5 rfl).qL (SqL.of hl2))) ev_int) (ev_var 6 rfl))
/-! ### texts typed ahead -/
theorem low_facts : ∀ l ∈ labelsL, ∀ t ∈ textsL, decide (cutS (Txt.lower l) none (some (t.length : Int)) = Txt.lower t) = begB l t := by decide +kernel
theorem low_len : ∀ l ∈ labelsL, (Txt.lower l).length ≤ 4 := by decide +kernel
def spLT2 : Sp := fun vs H Q _ => ∃ Hb L T cur rov x, vs = [.ref (La.s L), .str x] ∧ x ∈ textsL ∧ LS Hb H L T cur rov ∧ Nm T ∧ Rv T cur rov ∧ (∀ n, cur = some n → n ∈ itemsOf T "root") ∧ ∀ v H2, LS Hb H2 L T (typS T (cur, rov) x).1 (typS T (cur, rov) x).2 → Exc (Lf L) H H2 → Q v H2
theorem fc_law_typed (c : Says K mg base) : Cal P w K mg base "_law_typed" 6 ["_law_state", "_law_text"] spLT2 := by
  refine cal_of (fn__law_typed c) (glo__law_typed c) sc__law_typed bi__law_typed (fun vs H Q E ⟨_, _, _, _, _, _, e, _⟩ => by rw [e]; rfl) ?_
  rintro cdv A0 outer s H vs Q E hr ⟨Hb, L, T, cur, rov, tx, rfl, htx, h, nm, rv, cb, q⟩
  have S := sc__law_typed
  have wf := h.wf
  refine sx_asgV 2 (ev_ls (fc_law_focused c) hr (by decide) h (ev_var 0 rfl)) (sx_asgV 3 (ev_stree hr h (ev_var 0 rfl)) ?_)
  cases cur with
  | none =>
    rw [typS_no (show hasC T none = false from rfl)] at q
    exact sx_no (EvT.to (ew_and (w := false) (et_notN (ev_var 2 rfl)) fun z => by cases z).t rfl) (sx_nil fun H2 d2 => q .non H2 (h.up d2) d2.exc)
  | some n =>
    obtain ⟨d, hd, rfl⟩ := h.ci n rfl
    have hi := cb _ rfl
    cases hc : compOf T d.name with
    | none =>
      rw [typS_no (show hasC T (some d.name) = false from by show (!decide (compOf T d.name = none)) = false; rw [hc]; rfl)] at q
      refine sx_no (EvT.to (ew_and (et_notN (ev_var 2 rfl)) fun _ => ew_and1 (et_notN (ev_cl (fc_law_composite c) hr (by decide) h.ltr hd (ev_var 3 rfl) (ev_var 2 rfl)))).t ?_) (sx_nil fun H2 d2 => q .non H2 (h.up d2) d2.exc)
      rw [hc]
      rfl
    | some x =>
      rw [typS_yes hc] at q
      obtain ⟨path, b⟩ := h.bt
      obtain ⟨hl, hm⟩ := comp_lay b hi hc
      obtain ⟨cx, hcx, rfl⟩ := comp_node wf hd hc
      have ln := membs_len (L := cx.name) h.len
      have big : 1000 ≤ sizeLine := by decide
      refine sx_yes (EvT.to (ew_and (et_notN (ev_var 2 rfl)) fun _ => ew_and1 (et_notN (ev_cl (fc_law_composite c) hr (by decide) h.ltr hd (ev_var 3 rfl) (ev_var 2 rfl)))).t (by rw [hc]; rfl)) ?_
      refine sx_asgN 4 (ev_cll (fc_law_members c) hr (by decide) h.ltr ⟨cx, hcx, rfl⟩ (ev_var 3 rfl) (Ev.to (ev_cl (fc_law_composite c) hr (by decide) h.ltr hd (ev_var 3 rfl) (ev_var 2 rfl)) fun v H2 d2 z => by
        have z : v = oV (compOf T d.name) := z
        rw [z, hc]
        rfl)) fun l fl => ?_
      have x0 : Z.Ex H (upd H l (.lst (sV (membs T cx.name)))) := Z.Ex.new fl
      have hl2 : (upd H l (.lst (sV (membs T cx.name)))) l = some (.lst (sV (membs T cx.name))) := upd_same
      generalize upd H l (.lst (sV (membs T cx.name))) = B at x0 hl2
      have hB := h.up x0
      refine sx_asgV 5 (ev_indexS ((ev_var 4 rfl).qL (SqL.of hl2)) (ev_var 2 rfl) hm) ?_
      have lt : ix (membs T cx.name) d.name < (membs T cx.name).length := (List.getElem?_eq_some_iff.mp (ix_at hm)).1
      have e1 : cutV (sV (membs T cx.name)) (some ((ix (membs T cx.name) d.name : Int) + 1)) none = sV ((membs T cx.name).drop (ix (membs T cx.name) d.name + 1)) := by
        show ((sV (membs T cx.name)).drop (HT.sIx _ _ (some ((ix (membs T cx.name) d.name : Int) + 1)))).take (HT.sIx (sV (membs T cx.name)).length _ none - _) = _
        rw [show ((ix (membs T cx.name) d.name : Int) + 1) = ((ix (membs T cx.name) d.name + 1 : Nat) : Int) by omega, HT.sIx_nat, HT.sIx_none, len_of_sV, Nat.min_eq_left lt, List.take_of_length_le, ← List.map_drop]
        rw [List.length_drop, len_of_sV]
        omega
      have e2 : cutV (sV (membs T cx.name)) none (some ((ix (membs T cx.name) d.name : Int) + 1)) = sV ((membs T cx.name).take (ix (membs T cx.name) d.name + 1)) := by
        show ((sV (membs T cx.name)).drop 0).take (HT.sIx _ _ (some ((ix (membs T cx.name) d.name : Int) + 1)) - 0) = _
        rw [show ((ix (membs T cx.name) d.name : Int) + 1) = ((ix (membs T cx.name) d.name + 1 : Nat) : Int) by omega, HT.sIx_nat, List.drop_zero, Nat.sub_zero, len_of_sV, Nat.min_eq_left lt, ← List.map_take]
      have rl : (roundF (membs T cx.name) d.name).length ≤ 200 := by
        unfold roundF
        rw [List.length_append, List.length_drop, List.length_take]
        omega
      have rin : ∀ y ∈ roundF (membs T cx.name) d.name, y ∈ membs T cx.name := fun y hy => by
        rcases List.mem_append.mp hy with z | z
        · exact List.mem_of_mem_drop z
        · exact List.mem_of_mem_take z
      have ef : foundF T d.name tx = ((roundF (membs T cx.name) d.name).find? fun o => begB (labelOf T o) tx).getD d.name := by
        unfold foundF
        rw [hc]
      rw [ef] at q
      have lx := text_facts tx htx
      refine sx_asgLc 6 (j := 7) (xs := sV (roundF (membs T cx.name) d.name)) (f := onS fun o => begB (labelOf T o) tx) (g := fun v => v) (Ev.nL (Ev.to (ev_cat (ev_cut ((ev_var 4 rfl).qL (SqL.of hl2)) (eo_some (ev_add (ev_var 5 rfl) ev_int)) eo_none).nA (ev_cut ((ev_var 4 rfl).qL (SqL.of hl2)) eo_none (eo_some (ev_add (ev_var 5 rfl) ev_int))).nA ?_) fun v H2 d2 h => ?_)) (by rw [len_of_sV]; omega) rfl (fun v => rfl) (fun s H C cl fp v hv B1 x1 => ?_) (fun s H C cl fp v hv _ B1 x1 => ev_var 7 rfl) (fun g fg => ?_) rfl
      · rw [e1, e2, len_of_sV, len_of_sV, List.length_drop, List.length_take]
        omega
      · rw [e1, e2, ← List.map_append] at h
        exact h
      · obtain ⟨a, ha, rfl⟩ := List.mem_map.mp hv
        obtain ⟨y, hy, rfl⟩ := membs_in (rin a ha)
        have lo := low_len y.label (nm y hy).2
        refine EvT.to (et_eqS (ev_cutS (ev_lower (ev_llabel hr (hB.ltr.up x1) hy (ev_var 3 rfl) (ev_var 7 rfl)) (by have := label_len y.label (nm y hy).2; omega)) eo_none (eo_some (ev_lenS (free_len c) (ev_var 1 rfl) (by omega))) (by omega)) (ev_lower (ev_var 1 rfl) (by omega)) rfl) ?_
        rw [str_dec, low_facts _ (nm y hy).2 _ htx]
        show _ = begB (labelOf T y.name) tx
        rw [labelOf_of wf hy]
      · rw [keepF_names]
        have x1 : Z.Ex B (upd B g (.lst (sV ((roundF (membs T cx.name) d.name).filter fun o => begB (labelOf T o) tx)))) := Z.Ex.new fg
        have hg : (upd B g (.lst (sV ((roundF (membs T cx.name) d.name).filter fun o => begB (labelOf T o) tx)))) g = some (.lst (sV ((roundF (membs T cx.name) d.name).filter fun o => begB (labelOf T o) tx))) := upd_same
        have eh : ((roundF (membs T cx.name) d.name).filter fun o => begB (labelOf T o) tx).head? = (roundF (membs T cx.name) d.name).find? fun o => begB (labelOf T o) tx := List.head?_filter
        have ein : ∀ y ∈ (roundF (membs T cx.name) d.name).filter fun o => begB (labelOf T o) tx, y ∈ membs T cx.name := fun y hy => rin y (List.mem_filter.mp hy).1
        rw [← eh] at q
        generalize ((roundF (membs T cx.name) d.name).filter fun o => begB (labelOf T o) tx) = gs at x1 hg q ein
        generalize upd B g (.lst (sV gs)) = B2 at x1 hg
        have hB2 := hB.up x1
        cases gs with
        | nil =>
          have same : rovP T rov d.name = rov := by
            unfold rovP
            rw [hc]
            exact putK_same _ _ _ h.rl.1 (rv _ _ rfl hc)
          have q : ∀ v H2, LS Hb H2 L T (some d.name) (rovP T rov d.name) → Exc (Lf L) H H2 → Q v H2 := q
          rw [same] at q
          exact sx_no (EvT.to (et_list ((ev_var 6 rfl).qL (SqL.of hg))) rfl) (sx_skip (sx_nil fun H2 d2 => q .non H2 (hB2.up d2) ((x0.trans x1).exc.trans d2.exc)))
        | cons y r =>
          obtain ⟨yd, hyd, rfl⟩ := membs_in (ein y List.mem_cons_self)
          have q : ∀ v H2, LS Hb H2 L T (some yd.name) (rovP T rov yd.name) → Exc (Lf L) H H2 → Q v H2 := q
          refine sx_yes (EvT.to (et_list ((ev_var 6 rfl).qL (SqL.of hg))) rfl) (sx_drop fun H1 y1 => ?_)
          refine sE_call (fc_law_focus c) hr (by decide) (args2 (ev_var 0 rfl) (ev_ixL ((ev_var 6 rfl).qL (SqL.of hg)) ev_int (atI_sV (j := 0) rfl rfl))) y1 fun vs H2 d2 p2 => ?_
          rw [p2.vals]
          refine ⟨Hb, L, T, _, rov, yd, rfl, hB2.up (y1.trans d2), hyd, fun H3 h3 e3 => ?_⟩
          refine (show SX _ _ _ _ H3 from ?_) H3 (Z.Ex.refl H3)
          exact sx_skip (sx_skip (sx_nil fun H4 d4 => q .non H4 (h3.up d4) ((((x0.trans x1).trans (y1.trans d2)).exc.trans e3).trans d4.exc)))
end
end K24
set_option Elab.async false
set_option linter.all false
set_option maxRecDepth 100000
set_option maxHeartbeats 1000000
/-! The law's state at the start. -/
namespace K24
open PySem PySem.Spec PyProof.Rows L2 Z
theorem Good.bt {rows : List Nd} (g : Good rows) (K : PySem.W.Frag) : ∃ path, Built (rdg rows).1 path := by
  have z := g.built (K := K) rows.length (Nat.le_refl _) (fun e => g.ne (List.length_eq_zero_iff.mp e))
  rw [List.take_length] at z
  exact ⟨_, z⟩
theorem ev_head {X : Cx} {σ : L2.St} {B : Hp} {e e2 : Expr} {l : Addr} {xs : List PySem.Str} {i j : Nat} {p1 p2 p3 pos : Pos} (he : Ev X e σ B (isV (.ref l))) (he2 : Ev X e2 σ B (isV (.ref l))) (hl : B l = some (.lst (sV xs)))
    (ht : ∀ whole, isTrue e X.env whole = (do let v ← whole; standAt e.pos; holding [v] (truthy v)) := by intro _; rfl) : Ev X (.IfExp e (.Subscript e2 (.Constant (.int 0) i p1) p2) (.Constant .none j p3) pos) σ B (isV (oV xs.head?)) := by
  cases xs with
  | nil => exact ev_if (et_list (he.qL (SqL.of hl)) ht) (fun z => by cases z) fun _ => ev_none
  | cons a r => exact ev_if (et_list (he.qL (SqL.of hl)) ht) (fun _ => ev_ixL (he2.qL (SqL.of hl)) ev_int (atI_nat (j := 0) rfl)) fun z => by cases z
section
variable {P : Program} {w : World} {K : PySem.W.Frag} {mg : PySem.Str → Option Value} {base : Heap}
def spBeg2 : Sp := fun vs H Q _ => ∃ r rows, vs = [.ref r] ∧ RowsL H r rows ∧ Good rows ∧ ∀ L H2, Z.Ex H H2 → LS H H2 L (rdg rows).1 (itemsOf (rdg rows).1 "root").head? (rovI (rdg rows).1 (outsOf (rdg rows).1)) → Q (.ref (La.s L)) H2
theorem fc_law_begun (c : Says K mg base) : Cal P w K mg base "_law_begun" 6 ["_law_infos"] spBeg2 := by
  refine cal_of (fn__law_begun c) (glo__law_begun c) sc__law_begun bi__law_begun (fun vs H Q E ⟨_, _, e, _⟩ => by rw [e]; rfl) ?_
  rintro cdv A0 outer s H vs Q E hr ⟨r, rows, rfl, hR, g, q⟩
  have S := sc__law_begun
  have big : 1000 ≤ sizeLine := by decide
  refine sx_asgE 1 fun H1 y1 => sE_call (fc_law_tree c) hr (by decide) (args1 (ev_var 0 rfl)) y1 fun vs H2 d2 p2 => ?_
  rw [p2.vals]
  refine ⟨r, rows, rfl, hR.up (y1.trans d2), g, fun lt H3 e3 hT3 => ?_⟩
  have bt := g.bt K
  have len : (rdg rows).1.length ≤ 60 := by
    rw [rdg_len]
    exact g.len
  generalize (rdg rows).1 = T at *
  have xH : Z.Ex H H3 := (y1.trans d2).trans e3
  have hT : LTf (fun q => H q = none) H3 lt T := hT3.imp fun q hq => (y1.trans d2).free hq
  refine (show SX _ _ _ _ H3 from ?_) H3 (Z.Ex.refl H3)
  refine sx_asgD 2 ?_
  intro H4 y4
  refine ⟨?_⟩
  intro st f0
  have xS : Z.Ex H4 (upd H4 st (.dK [])) := Z.Ex.new f0
  have s0 : (upd H4 st (.dK [])) st = some (.dK []) := upd_same
  generalize upd H4 st (.dK []) = G0 at xS s0
  refine tp_cons (key := (Sum.inr "tree" : L2.Key)) ev_str (ev_var 1 rfl) fun v1 G1 d1 e1 => ?_
  refine tp_cons (key := (Sum.inr "stack" : L2.Key)) ev_str (ev_lst (vs := [.str "root"]) (ea_cons ev_str ea_nil) (by show 1 ≤ sizeLine; omega)) fun v2 G2 d2 ⟨sk, hv2, f2, g2⟩ => ?_
  refine tp_cons (key := (Sum.inr "current" : L2.Key)) ev_str ev_disp0 fun v3 G3 d3 ⟨cu, hv3, f3, g3⟩ => ?_
  refine tp_cons (key := (Sum.inr "roving" : L2.Key)) ev_str ev_disp0 fun v4 G4 d4 ⟨ro, hv4, f4, g4⟩ => ?_
  refine tp_cons (key := (Sum.inr "openings" : L2.Key)) ev_str (ev_lst (vs := [.int 0]) (ea_cons ev_int ea_nil) (by show 1 ≤ sizeLine; omega)) fun v5 G5 d5 ⟨op, hv5, f5, g5⟩ => ?_
  refine tp_cons (key := (Sum.inr "count" : L2.Key)) ev_str ev_int fun v6 G6 d6 e6 => ?_
  have e1 : v1 = .ref lt := e1
  have e6 : v6 = .int 0 := e6
  subst e1 hv2 hv3 hv4 hv5 e6
  refine tp_nil ?_
  have t26 := d3.trans (d4.trans (d5.trans d6))
  refine ⟨(d1.trans (d2.trans t26)).get s0, lsKs ⟨st, lt, sk, cu, ro, op⟩, rfl, (Nat.le_of_ble_eq_true rfl), ?_⟩
  rw [show mergeK [] (lsKs ⟨st, lt, sk, cu, ro, op⟩) = lsKs ⟨st, lt, sk, cu, ro, op⟩ from rfl]
  have t06 := d1.trans (d2.trans t26)
  have b0 : H st = none := xH.free (y4.free f0)
  have b2 : H3 sk = none := (y4.trans (xS.trans d1)).free f2
  have b3 : H3 cu = none := (y4.trans (xS.trans (d1.trans d2))).free f3
  have b4 : H3 ro = none := (y4.trans (xS.trans (d1.trans (d2.trans d3)))).free f4
  have n34 : cu ≠ ro := ne_of_none g3 f4
  have n02 : st ≠ sk := ne_of_none (d1.get s0) f2
  have n03 : st ≠ cu := ne_of_none ((d1.trans d2).get s0) f3
  have n04 : st ≠ ro := ne_of_none ((d1.trans (d2.trans d3)).get s0) f4
  have x3 : Z.Ex H3 (upd G6 st (.dK (lsKs ⟨st, lt, sk, cu, ro, op⟩))) := (y4.trans (xS.trans t06)).mut (y4.free f0)
  have hst : (upd G6 st (.dK (lsKs ⟨st, lt, sk, cu, ro, op⟩))) st = some (.dK (lsKs ⟨st, lt, sk, cu, ro, op⟩)) := upd_same
  have hsk : (upd G6 st (.dK (lsKs ⟨st, lt, sk, cu, ro, op⟩))) sk = some (.lst [.str "root"]) := by
    rw [upd_ne (Ne.symm n02)]
    exact t26.get g2
  have hcu : (upd G6 st (.dK (lsKs ⟨st, lt, sk, cu, ro, op⟩))) cu = some (.dK []) := by
    rw [upd_ne (Ne.symm n03)]
    exact (d4.trans (d5.trans d6)).get g3
  have hro : (upd G6 st (.dK (lsKs ⟨st, lt, sk, cu, ro, op⟩))) ro = some (.dK []) := by
    rw [upd_ne (Ne.symm n04)]
    exact (d5.trans d6).get g4
  have kn : ∀ q, H3 q ≠ none → ¬ Lf ⟨st, lt, sk, cu, ro, op⟩ q := fun q h z => by
    rcases z with z | z
    · exact h (by rw [z]; exact b3)
    · exact h (by rw [z]; exact b4)
  obtain ⟨od, kd, lb, on, pd, hx, k1, k2, k3, k4, k5, k6⟩ := hT
  have hT : LTf (fun q => H q = none ∧ ¬ Lf ⟨st, lt, sk, cu, ro, op⟩ q) H3 lt T := ⟨od, kd, lb, on, pd, hx, ⟨k1, kn _ (by rw [hx.lt]; simp)⟩, ⟨k2, kn _ (by rw [hx.od]; simp)⟩, ⟨k3, kn _ (by rw [hx.kd]; simp)⟩, ⟨k4, kn _ (by rw [hx.lb]; simp)⟩, ⟨k5, kn _ (by rw [hx.on]; simp)⟩, ⟨k6, kn _ (by rw [hx.pd]; simp)⟩⟩
  have bsk := xH.free b2
  have bcu := xH.free b3
  have bro := xH.free b4
  refine (show SX _ _ _ _ (upd G6 st (.dK (lsKs ⟨st, lt, sk, cu, ro, op⟩))) from ?_) _ (Z.Ex.refl _)
  have xB := xH.trans x3
  have hT := hT.up x3
  generalize upd G6 st (.dK (lsKs ⟨st, lt, sk, cu, ro, op⟩)) = B0 at xB hT hst hsk hcu hro
  clear x3 kn hx k1 k2 k3 k4 k5 k6 s0 xS f0 f2 f3 f4 f5 g2 g3 g4 g5 d1 d2 d3 d4 d5 d6 t26 t06 y1 y4 e3 hT3 n02 n03 n04 xH b2 b3 b4 p2
  have tr0 : LTr B0 lt T := ⟨hT.here, bt, len⟩
  refine sx_asgN 3 (ev_cll (fc_law_items c) hr (by decide) tr0 trivial (ev_var 1 rfl) ev_str) fun l fl => ?_
  have x1 : Z.Ex B0 (upd B0 l (.lst (sV (itemsOf T "root")))) := Z.Ex.new fl
  have hl : (upd B0 l (.lst (sV (itemsOf T "root")))) l = some (.lst (sV (itemsOf T "root"))) := upd_same
  have hit : ∀ n, (itemsOf T "root").head? = some n → ∃ d ∈ T, d.name = n := fun n hn => by
    have z : n ∈ itemsOf T "root" := List.mem_of_head? hn
    exact (item_facts z).1
  generalize upd B0 l (.lst (sV (itemsOf T "root"))) = B1 at x1 hl
  refine sx_dput (key := (Sum.inr "root" : L2.Key)) (v := oV (itemsOf T "root").head?) (ev_head (ev_var 3 rfl) (ev_var 3 rfl) hl) (ev_dget (k := (Sum.inr "current" : L2.Key)) (ev_var 2 rfl) (x1.get hst) ev_str rfl (hu_of hr) (by intro _ _; rfl)) ev_str (x1.get hcu) (by show 0 < sizeLine; omega) (hu_of hr) ?_
  rw [show putK [] (Sum.inr "root" : L2.Key) (oV (itemsOf T "root").head?) = [((Sum.inr "root" : L2.Key), oV (itemsOf T "root").head?)] from rfl]
  have eC : Exc (Lf ⟨st, lt, sk, cu, ro, op⟩) B1 (upd B1 cu (.dK [((Sum.inr "root" : L2.Key), oV (itemsOf T "root").head?)])) := (Z.Ex.refl B1).exc.put (Or.inl rfl)
  have mC : Mus (Lf ⟨st, lt, sk, cu, ro, op⟩) B1 := fun q o hq ho => by
    rcases hq with z | z
    · rw [z, show B1 cu = _ from x1.get hcu] at ho
      cases ho
      rfl
    · rw [z, show B1 ro = _ from x1.get hro] at ho
      cases ho
      rfl
  have h2 : LS H (upd B1 cu (.dK [((Sum.inr "root" : L2.Key), oV (itemsOf T "root").head?)])) ⟨st, lt, sk, cu, ro, op⟩ T (itemsOf T "root").head? (rovI T []) :=
    ⟨keepE eC mC (x1.get hst) rfl, keepE eC mC (x1.get hsk) rfl, upd_same, by rw [upd_ne (Ne.symm n34)]; exact x1.get hro, n34, (hT.up x1).exc eC fun q g => g.2, bt, len, hit, rfl, ⟨List.nodup_nil, fun k hk => by cases hk⟩, b0, bsk, bcu, bro⟩
  have xC : Z.Ex H (upd B1 cu (.dK [((Sum.inr "root" : L2.Key), oV (itemsOf T "root").head?)])) := (xB.trans x1).mut bcu
  generalize upd B1 cu (.dK [((Sum.inr "root" : L2.Key), oV (itemsOf T "root").head?)]) = B2 at h2 xC
  refine sx_forNew 4 (xs := sV (outsOf T)) (ev_call (fc_law_composites c) hr (by decide) (args1 (ev_var 1 rfl)) (fun vs H d2 p2 Q q => by
    rw [p2.vals]
    exact ⟨lt, T, rfl, h2.ltr.up d2, q.imp fun v H2 _ ⟨p, z, fr, h⟩ => ⟨p, z, d2.free fr, h⟩⟩)) fun p fp => ?_
  refine ⟨fun i σ B => Z.Ex H B ∧ B p = some (.lst (sV (outsOf T))) ∧ LS H B ⟨st, lt, sk, cu, ro, op⟩ T (itemsOf T "root").head? (rovI T ((outsOf T).take i)) ∧ ∃ v4 v5, σ = [some (.ref r), some (.ref lt), some (.ref st), some (.ref l), v4, v5],
    ⟨xC.trans (Z.Ex.new fp), upd_same, h2.up (Z.Ex.new fp), none, none, rfl⟩, fun i σ B z => z.2.1, ?_, ?_⟩
  · rintro i v σ B hi ⟨xi, hp, hL, v4, v5, rfl⟩
    obtain ⟨a, hi2, rfl⟩ := sV_ix hi
    obtain ⟨d, hd, rfl⟩ := outs_in (List.mem_of_getElem? hi2)
    refine sx_asgN 5 (ev_cll (fc_law_members c) hr (by decide) hL.ltr ⟨d, hd, rfl⟩ (ev_var 1 rfl) (ev_var 4 rfl)) fun m fm => ?_
    have xm : Z.Ex B (upd B m (.lst (sV (membs T d.name)))) := Z.Ex.new fm
    have hm : (upd B m (.lst (sV (membs T d.name)))) m = some (.lst (sV (membs T d.name))) := upd_same
    generalize upd B m (.lst (sV (membs T d.name))) = B3 at xm hm
    have hL3 := hL.up xm
    have kl : (rovI T ((outsOf T).take i)).length < sizeLine := by
      have z1 := hL3.rl.len
      omega
    refine sx_dput (key := (Sum.inr d.name : L2.Key)) (v := oV (membs T d.name).head?) (ev_head (ev_var 5 rfl) (ev_var 5 rfl) hm) (ev_srov hr hL3 (ev_var 2 rfl)) (ev_var 4 rfl) hL3.ro kl (hu_of hr) (sx_nil fun H4 x4 => ⟨_, x4, (xi.trans xm).mut bro, ?_, ?_, _, _, rfl⟩)
    · rw [upd_ne fun z => by rw [z] at hp; rw [show B ro = _ from hL.ro] at hp; cases hp]
      exact xm.get hp
    · rw [take_snoc hi2, rovI_snoc]
      exact hL3.putR hd (oV_notRef _)
  · rintro σ B ⟨xi, hp, hL, v4, v5, rfl⟩
    rw [List.take_of_length_le (by rw [len_of_sV]; exact Nat.le_refl _)] at hL
    exact sx_ret (ev_var 2 rfl) fun v H2 d2 p2 => by
      have p2 : v = .ref st := p2
      rw [p2]
      exact q ⟨st, lt, sk, cu, ro, op⟩ H2 (xi.trans d2) (hL.up d2)
end
end K24
set_option Elab.async false
set_option linter.all false
set_option maxRecDepth 100000
set_option maxHeartbeats 1000000
/-! The law's model of a deed. -/
namespace K24
open PySem PySem.Spec PyProof.Rows L2 Z
def dnS : Dd → PySem.Str
  | .mv m => mvL m
  | .tx _ => "typeahead"
theorem dn_at (D : Dd) : atI (ddV D) 0 = some (.str (dnS D)) := by
  cases D <;> exact atI_nat (j := 0) rfl
theorem dn_not (D : Dd) : ∀ x ∈ [("open_layer" : PySem.Str), "close_layer", "focus", "focus_next", "focus_previous"], eqV (.str x) (.str (dnS D)) = false := by
  cases D with
  | tx _ =>
    show ∀ x ∈ [("open_layer" : PySem.Str), "close_layer", "focus", "focus_next", "focus_previous"], eqV (.str x) (.str "typeahead") = false
    decide +kernel
  | mv m => cases m <;> decide +kernel
section
variable {P : Program} {w : World} {K : PySem.W.Frag} {mg : PySem.Str → Option Value} {base : Heap}
def spWhy : Sp := fun vs H Q _ => ∃ Hb L T cur rov dd D, vs = [.ref (La.s L), .ref dd] ∧ LS Hb H L T cur rov ∧ H dd = some (.tup (ddV D)) ∧ Ret (isV (.str "")) H Q
theorem fc_law_why_not (c : Says K mg base) : Cal P w K mg base "_law_why_not" 5 ["_law_state", "_law_deed"] spWhy := by
  refine cal_of (fn__law_why_not c) (glo__law_why_not c) sc__law_why_not bi__law_why_not (fun vs H Q E ⟨_, _, _, _, _, _, _, e, _⟩ => by rw [e]; rfl) ?_
  rintro cdv A0 outer s H vs Q E hr ⟨Hb, L, T, cur, rov, dd, D, rfl, h, hd, q⟩
  have S := sc__law_why_not
  have big : 100 ≤ sizeLine := by decide
  have dn := dn_not D
  have n1 := dn "open_layer" (by decide +kernel)
  have n2 := dn "close_layer" (by decide +kernel)
  have n3 := dn "focus" (by decide +kernel)
  have no : ∀ {X : Cx} {σ : L2.St} {e : Expr} {y : PySem.Str} {i : Nat} {p2 p3 : Pos}, Ev X e σ H (isV (.str (dnS D))) → eqV (.str y) (.str (dnS D)) = false → EvT X (.Compare e [.Eq] [.Constant (.str y) i p2] p3) σ H false := fun {X σ e y i p2 p3} h n => EvT.to (et_eqS h ev_str rfl) (by
    rw [str_dec]
    refine decide_eq_false fun z => ?_
    rw [z] at n
    have n : (y == y) = false := n
    rw [beq_self_eq_true] at n
    cases n)
  refine sx_asgV 2 (ev_stree hr h (ev_var 0 rfl)) ?_
  have d0 : ∀ {i : Nat} {p1 p2 p3 : Pos}, Ev (cxN P w K mg base n__law_why_not "_law_why_not" (defScope b__law_why_not) (He.ga K "_law_why_not") cdv A0 outer s H E) (.Subscript (.Name "_law_deed" p1) (.Constant (.int 0) i p2) p3) [some (.ref L.s), some (.ref dd), some (.ref L.lt)] H (isV (.str (dnS D))) := fun {i p1 p2 p3} => ev_ixT ((ev_var 1 rfl).qT (SqT.of hd)) ev_int (dn_at D)
  refine sx_no (EvT.to (ew_and (v := false) (w := false) (EvT.to (et_inQ d0 (ev_tup (vs := [.str "open_layer", .str "close_layer", .str "focus"]) (ea_cons ev_str (ea_cons ev_str (ea_cons ev_str ea_nil))) (by show 3 ≤ sizeLine; omega)).nT inT_of rfl rfl rfl) ?_) (fun z => by cases z)).t rfl) ?_
  · show (eqV (.str "open_layer") (.str (dnS D)) || (eqV (.str "close_layer") (.str (dnS D)) || (eqV (.str "focus") (.str (dnS D)) || false))) = false
    rw [n1, n2, n3]
    rfl
  refine sx_no (no d0 n1) (sx_no (no d0 n2) (sx_no (EvT.to (ew_and (w := false) (no d0 n3) (fun z => by cases z)).t rfl) (sx_ret ev_str q)))
def spModel : Sp := fun vs H Q _ => ∃ Hb L T cur rov dd D, vs = [.ref (La.s L), .ref dd] ∧ LS Hb H L T cur rov ∧ Nm T ∧ Rv T cur rov ∧ (∀ n, cur = some n → n ∈ itemsOf T "root") ∧ H dd = some (.tup (ddV D)) ∧ ddOk D ∧
  ∀ H2, LS Hb H2 L T (stepD T (cur, rov) D).1 (stepD T (cur, rov) D).2 → Exc (Lf L) H H2 → Q (oV (stepD T (cur, rov) D).1) H2
theorem fc_law_modelled (c : Says K mg base) : Cal P w K mg base "_law_modelled" 7 ["_law_state", "_law_deed"] spModel := by
  refine cal_of (fn__law_modelled c) (glo__law_modelled c) sc__law_modelled bi__law_modelled (fun vs H Q E ⟨_, _, _, _, _, _, _, e, _⟩ => by rw [e]; rfl) ?_
  rintro cdv A0 outer s H vs Q E hr ⟨Hb, L, T, cur, rov, dd, D, rfl, h, nm, rv, cb, hd, ok, q⟩
  have S := sc__law_modelled
  have big : 100 ≤ sizeLine := by decide
  have dn := dn_not D
  refine sx_asgV 2 (ev_ixT ((ev_var 1 rfl).qT (SqT.of hd)) ev_int (dn_at D)) ?_
  refine sx_asgV 3 (v := .str "") (ev_call (fc_law_why_not c) hr (by decide) (args2 (ev_var 0 rfl) (ev_var 1 rfl)) (fun vs H d2 p2 Q q => by
    rw [p2.vals]
    exact ⟨Hb, L, T, cur, rov, dd, D, rfl, h.up d2, d2.get hd, q⟩)) ?_
  refine sx_no (EvT.to (et_neS (ev_var 3 rfl) ev_str rfl) rfl) ?_
  refine sx_no (EvT.to (et_inQ (ev_var 2 rfl) (ev_tup (vs := [.str "focus_next", .str "focus_previous"]) (ea_cons ev_str (ea_cons ev_str ea_nil)) (by show 2 ≤ sizeLine; omega)).nT inT_of rfl rfl rfl) ?_) ?_
  · show (eqV (.str "focus_next") (.str (dnS D)) || (eqV (.str "focus_previous") (.str (dnS D)) || false)) = false
    rw [dn "focus_next" (by decide +kernel), dn "focus_previous" (by decide +kernel)]
    rfl
  cases D with
  | mv m =>
    refine sx_yes (EvT.to (et_inQ (ev_var 2 rfl) (ev_tup (vs := [.str "next_item", .str "previous_item", .str "first_item", .str "last_item"]) (ea_cons ev_str (ea_cons ev_str (ea_cons ev_str (ea_cons ev_str ea_nil)))) (by show 4 ≤ sizeLine; omega)).nT inT_of rfl rfl rfl) (by cases m <;> decide +kernel)) (sx_drop fun H1 y1 => ?_)
    refine sE_call (fc_law_within c) hr (by decide) (args2 (ev_var 0 rfl) (ev_var 2 rfl)) y1 fun vs H2 d2 p2 => ?_
    rw [p2.vals]
    refine ⟨Hb, L, T, cur, rov, m, rfl, h.up (y1.trans d2), cb, fun v H3 h3 e3 => ?_⟩
    refine (show SX _ _ _ _ H3 from ?_) H3 (Z.Ex.refl H3)
    exact sx_ret (ev_ls (fc_law_focused c) hr (by decide) h3 (ev_var 0 rfl)) fun v H4 d4 p4 => by
      have p4 : v = oV (movS T (cur, rov) m).1 := p4
      rw [p4]
      exact q H4 (h3.up d4) (((y1.trans d2).exc.trans e3).trans d4.exc)
  | tx x =>
    refine sx_no (EvT.to (et_inQ (ev_var 2 rfl) (ev_tup (vs := [.str "next_item", .str "previous_item", .str "first_item", .str "last_item"]) (ea_cons ev_str (ea_cons ev_str (ea_cons ev_str (ea_cons ev_str ea_nil)))) (by show 4 ≤ sizeLine; omega)).nT inT_of rfl rfl rfl) (by show inV (.str "typeahead") [.str "next_item", .str "previous_item", .str "first_item", .str "last_item"] = false; decide +kernel)) ?_
    refine sx_yes (EvT.to (et_eqS (ev_var 2 rfl) ev_str rfl) rfl) (sx_drop fun H1 y1 => ?_)
    refine sE_call (fc_law_typed c) hr (by decide) (args2 (ev_var 0 rfl) (ev_ixT ((ev_var 1 rfl).qT (SqT.of hd)) ev_int (atI_nat (j := 1) rfl))) y1 fun vs H2 d2 p2 => ?_
    rw [p2.vals]
    refine ⟨Hb, L, T, cur, rov, x, rfl, ok, h.up (y1.trans d2), nm, rv, cb, fun v H3 h3 e3 => ?_⟩
    refine (show SX _ _ _ _ H3 from ?_) H3 (Z.Ex.refl H3)
    exact sx_ret (ev_ls (fc_law_focused c) hr (by decide) h3 (ev_var 0 rfl)) fun v H4 d4 p4 => by
      have p4 : v = oV (typS T (cur, rov) x).1 := p4
      rw [p4]
      exact q H4 (h3.up d4) (((y1.trans d2).exc.trans e3).trans d4.exc)
end
end K24
set_option Elab.async false
set_option linter.all false
set_option maxRecDepth 100000
set_option maxHeartbeats 1000000
/-! The law's comparison. -/
namespace K24
open PySem PySem.Spec PyProof.Rows L2 Z
theorem eqv_names (xs : List PySem.Str) : PyData.eqv (.list (xs.map .str)) (.list (xs.map .str)) = true := by
  simp only [PyData.eqv]
  induction xs with
  | nil => simp only [List.map_nil, PyData.eqvAll]
  | cons a r ih =>
    rw [List.map_cons]
    simp only [PyData.eqvAll, PyData.eqv, beq_self_eq_true, Bool.true_and]
    exact ih
/-- the roving values are texts or none -/
def Tx (rov : List (L2.Key × V)) : Prop := ∀ k v, valV rov k = some v → ∃ o, v = oV o
theorem Tx.nil : Tx [] := fun k v h => by cases h
theorem Tx.put {rov : List (L2.Key × V)} (h : Tx rov) (k : L2.Key) (o : Option PySem.Str) : Tx (putK rov k (oV o)) := fun j v e => by
  rw [valV_put] at e
  split at e
  · exact ⟨o, (Option.some.inj e).symm⟩
  · exact h j v e
theorem Tx.rovP {rov : List (L2.Key × V)} (h : Tx rov) (T : List Nd) (n : PySem.Str) : Tx (rovP T rov n) := by
  unfold K24.rovP
  split
  · exact h
  · exact h.put _ (some n)
theorem Tx.rovI (T : List Nd) (cs : List PySem.Str) : Tx (rovI T cs) := by
  unfold K24.rovI
  have key : ∀ (cs : List PySem.Str) (r : List (L2.Key × V)), Tx r → Tx (cs.foldl (fun kvs x => putK kvs (Sum.inr x : L2.Key) (oV (membs T x).head?)) r) := by
    intro cs
    induction cs with
    | nil => intro r h; exact h
    | cons x t ih => intro r h; exact ih _ (h.put _ _)
  exact key cs [] Tx.nil
theorem Tx.get {rov : List (L2.Key × V)} (h : Tx rov) (k : L2.Key) : ∃ o, (valV rov k).getD .non = oV o := by
  cases e : valV rov k with
  | none => exact ⟨none, rfl⟩
  | some v => exact h k v e
theorem scal_o (o : Option PySem.Str) : scal (oV o) (oV o) = true := by cases o <;> rfl
section
variable {P : Program} {w : World} {K : PySem.W.Frag} {mg : PySem.Str → Option Value} {base : Heap}
theorem et_neL {X : Cx} {σ : L2.St} {B : Hp} {a b : Expr} {j : Nat} {pos : Pos} {xs : List PySem.Str} (hr : Room j X.A) (ha : Ev X a σ B (seqL X.K (sV xs))) (hb : Ev X b σ B (seqL X.K (sV xs))) (ok : okS xs) (hm : behindInMarks .NotEq b = false := by rfl) : EvT X (.Compare a [.NotEq] [b] pos) σ B false := by
  have z := et_cmp (pos := pos) (v := !PyData.eqv (.list (xs.map .str)) (.list (xs.map .str))) (op_neD hr.units) ha hb (fun x y H d ⟨p, e1, h1⟩ ⟨q, e2, h2⟩ Q q2 => by
    subst e1 e2
    exact ⟨_, _, dp_names h1, dp_names h2, shaped_names ok, shaped_names ok, ev_ret q2⟩) hm
  rw [eqv_names] at z
  exact z
theorem et_neO {X : Cx} {σ : L2.St} {B : Hp} {a b : Expr} {pos : Pos} {o : Option PySem.Str} (ha : Ev X a σ B (isV (oV o))) (hb : Ev X b σ B (isV (oV o))) : EvT X (.Compare a [.NotEq] [b] pos) σ B false := EvT.to (et_neS ha hb (scal_o o)) (by rw [decide_eq_true rfl]; rfl)
def spIsIt (K : PySem.W.Frag) : Sp := fun vs H Q _ => ∃ Hb A L T cur rov, vs = [.ref (Ad.m A), .ref (La.s L)] ∧ MgrAt K H A T cur rov ∧ LS Hb H L T cur rov ∧ Tx rov ∧ Ret (isV (.bl true)) H Q
theorem fc_law_is_it (c : Says K mg base) : Cal P w K mg base "_law_is_it" 6 ["_law_manager", "_law_state"] (spIsIt K) := by
  refine cal_of (fn__law_is_it c) (glo__law_is_it c) sc__law_is_it bi__law_is_it (fun vs H Q E ⟨_, _, _, _, _, _, e, _⟩ => by rw [e]; rfl) ?_
  rintro cdv A0 outer s H vs Q E hr ⟨Hb, A, L, T, cur, rov, rfl, hM, h, tx, q⟩
  have S := sc__law_is_it
  have wf := h.wf
  have pok := path_ok hM.lay hM.nm
  have rok : okS [("root" : PySem.Str)] := fun x hx => by
    rw [List.mem_singleton.mp hx]
    decide +kernel
  refine sx_no (EvT.to (ew_or (et_neL hr (ev_mgL (mt_mpath c) hr (by decide) hM (ev_var 0 rfl)).nL (Ev.nL (xs := sV (pathOf T cur)) (ev_call (fc_law_path c) hr (by decide) (args1 (ev_var 1 rfl)) fun vs H2 d2 p2 Q2 q2 => by
      rw [p2.vals]
      exact ⟨Hb, L, T, cur, rov, rfl, h.up d2, q2.imp fun v H3 _ ⟨p, z, fr, hh⟩ => ⟨p, z, d2.free fr, hh⟩⟩)) pok) fun _ => ew_or1 (et_neL hr (ev_mgL (mt_open c) hr (by decide) hM (ev_var 0 rfl)).nL ((ev_sstack hr h (ev_var 1 rfl)).qL (SqL.of h.sk)) rok)).t rfl) ?_
  refine sx_no (et_neO (ev_mg (mt_mfocused c) hr (by decide) hM (ev_var 0 rfl)) (ev_ls (fc_law_focused c) hr (by decide) h (ev_var 1 rfl))) ?_
  obtain ⟨rd, hrd, er⟩ : ∃ d ∈ T, d.name = "root" := by
    obtain ⟨path, b⟩ := h.bt
    obtain ⟨r, hr2, e, e0⟩ := b.dep 0 _ b.root
    exact ⟨r, hr2, e⟩
  refine sx_forAt 2 (p := L.sk) (xs := [.str "root"]) (ev_sstack hr h (ev_var 1 rfl)) (fun i σ B => Z.Ex H B ∧ ∃ v2 v3, σ = [some (.ref A.m), some (.ref L.s), v2, v3]) ⟨Z.Ex.refl H, none, none, rfl⟩ (fun i σ B z => SqL.of (z.1.get h.sk)) ?_ ?_
  · rintro i v σ B hi ⟨xB, v2, v3, rfl⟩
    have e : v = .str rd.name := by
      have z := List.mem_of_getElem? hi
      rw [List.mem_singleton.mp z, er]
    subst e
    have hB := h.up xB
    refine sx_no (et_neO (ev_mn (mt_layer_item c) hr (by decide) (hM.up xB) hrd er (ev_var 0 rfl) (ev_var 2 rfl)) (ev_dget (k := (Sum.inr rd.name : L2.Key)) (ev_scur hr hB (ev_var 1 rfl)) hB.cu (ev_var 2 rfl) (valV_pos (by rw [er])) (hu_of hr))) (sx_nil fun H4 d4 => ⟨B, d4, xB, _, _, rfl⟩)
  · rintro σ B ⟨xB, v2, v3, rfl⟩
    have hB := h.up xB
    obtain ⟨od, kd, lb, on, pd, hh⟩ := hB.ltr.at_
    refine sx_forAt 3 (p := od) (xs := sV (namesOf T)) (ev_dget (k := (Sum.inr "order" : L2.Key)) (ev_stree hr hB (ev_var 1 rfl)) hh.lt ev_str rfl (hu_of hr) (by intro _ _; rfl)) (fun i σ B2 => Z.Ex B B2 ∧ ∃ v2 v3, σ = [some (.ref A.m), some (.ref L.s), v2, v3]) ⟨Z.Ex.refl B, _, _, rfl⟩ (fun i σ B z => SqL.of (z.1.get hh.od)) ?_ ?_
    · rintro i v σ B2 hi ⟨x2, v2, v3, rfl⟩
      obtain ⟨n, hn, rfl⟩ := sV_ix hi
      obtain ⟨d, hd, rfl⟩ := List.mem_map.mp (List.mem_of_getElem? hn)
      have hB2 := hB.up x2
      have hM2 := hM.up (xB.trans x2)
      refine sx_if (et_lcomp hr hB2.ltr hd (ev_stree hr hB2 (ev_var 1 rfl)) (ev_var 3 rfl)) (fun hc => ?_) (fun hc => sx_skip (sx_nil fun H4 d4 => ⟨B2, d4, x2, _, _, rfl⟩))
      obtain ⟨o, ho⟩ := tx.get (Sum.inr d.name : L2.Key)
      refine sx_no (et_neO (o := o) (Ev.to (ev_mn (mt_current_item c) hr (by decide) hM2 hd hc (ev_var 0 rfl) (ev_var 3 rfl)) fun v H2 d2 z => ?_) (Ev.to (ev_dget1 (k := (Sum.inr d.name : L2.Key)) (ev_srov hr hB2 (ev_var 1 rfl)) hB2.ro (ev_var 3 rfl) (hu_of hr) ⟨rfl, rfl, rfl, rfl⟩) fun v H2 d2 z => ?_)) (sx_skip (sx_nil fun H4 d4 => ⟨B2, d4, x2, _, _, rfl⟩))
      · rw [← ho]
        exact z
      · rw [← ho]
        exact z
    · rintro σ B2 ⟨x2, v2, v3, rfl⟩
      exact sx_ret ev_bool fun v H2 d2 p2 => q v H2 ((xB.trans x2).trans d2) p2
end
end K24
set_option Elab.async false
set_option linter.all false
set_option maxRecDepth 100000
set_option maxHeartbeats 1000000
/-! The law's cells and draws. -/
namespace K24
open PySem PySem.Spec PyProof.Rows L2 Z
/-- a number of a script -/
def BitsI (z : Int) : Prop := Builtin.Int.intBits z ≤ 1048576
def cellI (ns : List Int) (k : Nat) : Int := (ns[k]?).getD 0
section
variable {P : Program} {w : World} {K : PySem.W.Frag} {mg : PySem.Str → Option Value} {base : Heap}
def spCell (K : PySem.W.Frag) : Sp := fun vs H Q _ => ∃ sc ns k, vs = [.ref sc, .int (k : Nat)] ∧ SqL K H sc ((ns : List Int).map V.int) ∧ Ret (isV (.int (cellI ns k))) H Q
theorem fc_law_cell (c : Says K mg base) : Cal P w K mg base "_law_cell" 1 ["_law_script", "_law_k"] (spCell K) := by
  refine cal_of (fn__law_cell c) (glo__law_cell c) sc__law_cell bi__law_cell (fun vs H Q E ⟨_, _, _, e, _⟩ => by rw [e]; rfl) ?_
  rintro cdv A0 outer s H vs Q E hr ⟨sc, ns, k, rfl, hs, q⟩
  have S := sc__law_cell
  unfold cellI at q
  refine sx_if (et_lt (ev_var 1 rfl) (ev_lenL (free_len c) ((ev_var 0 rfl).qL hs))) (fun hv => ?_) (fun hv => ?_)
  · have hv := of_decide_eq_true hv
    rw [List.length_map] at hv
    have lt : k < ns.length := by omega
    rw [List.getElem?_eq_getElem lt] at q
    exact sx_ret (ev_ixL ((ev_var 0 rfl).qL hs) (ev_var 1 rfl) (atI_nat (by rw [List.getElem?_map, List.getElem?_eq_getElem lt]; rfl))) q
  · have hv := of_decide_eq_false hv
    rw [List.length_map] at hv
    rw [List.getElem?_eq_none (by omega)] at q
    exact sx_skip (sx_ret ev_int q)
def spDraws : Sp := fun vs H Q _ => ∃ (cell : Int) (n : Nat), vs = [.int cell, .int (n : Int)] ∧ n ≤ 60 ∧ ∀ ys : List Int, ys.length = n → (∀ y ∈ ys, 0 ≤ y) → Ret (newO H (.lst (ys.map V.int))) H Q
theorem fc_law_draws (c : Says K mg base) : Cal P w K mg base "_law_draws" 1 ["_law_cell_here", "_law_count"] spDraws := by
  refine cal_of (fn__law_draws c) (glo__law_draws c) sc__law_draws bi__law_draws (fun vs H Q E ⟨_, _, e, _⟩ => by rw [e]; rfl) ?_
  rintro cdv A0 outer s H vs Q E hr ⟨cell, n, rfl, hn, q⟩
  have S := sc__law_draws
  have big : 1000 ≤ sizeLine := by decide
  refine sx_asgN 2 (ev_lst (vs := []) ea_nil (Nat.zero_le _)) fun l fl => ?_
  have x0 : Z.Ex H (upd H l (.lst [])) := Z.Ex.new fl
  refine sx_asgV 3 (ev_ge (ev_var 0 rfl) (ev_pow ev_int ev_int ⟨by decide, by decide, by decide⟩)) ?_
  generalize decide ((10 : Int) ^ (18 : Int).toNat ≤ cell) = wide
  refine sx_range 4 (free_range c) (ev_var 1 rfl) ⟨by omega, by omega⟩ (fun i σ B => Z.Ex H B ∧ ∃ (ce : Int) (ys : List Int) (v4 v5 : Option V), σ = [some (.int ce), some (.int (n : Int)), some (.ref l), some (.bl wide), v4, v5] ∧ B l = some (.lst (ys.map V.int)) ∧ ys.length = i ∧ ∀ y ∈ ys, 0 ≤ y)
    (fun B' d2 => ⟨x0.trans d2, cell, [], none, none, rfl, d2.get upd_same, rfl, fun y hy => by cases hy⟩) ?_ ?_
  · rintro i σ B hi ⟨xB, ce, ys, v4, v5, rfl, hl, len, nn⟩
    have hz : (ys.map V.int).length < 100000 := by
      rw [List.length_map]
      omega
    have stp : ∀ (z : Int), 0 ≤ z → ∀ y ∈ ys ++ [z], 0 ≤ y := fun z hz y hy => by
      rcases List.mem_append.mp hy with h | h
      · exact nn y h
      · rw [List.mem_singleton.mp h]
        exact hz
    have mp : ∀ z : Int, ys.map V.int ++ [V.int z] = (ys ++ [z]).map V.int := fun z => by rw [List.map_append]; rfl
    refine sx_if (et_val (ev_var 3 rfl)) (fun hv => ?_) (fun hv => ?_)
    · refine sx_app (ev_var 2 rfl) (ev_mod (ev_var 0 rfl) ev_int (by decide)) hl hz ?_
      rw [mp]
      refine sx_asgV 0 (ev_fdiv (ev_var 0 rfl) ev_int ⟨by decide, by decide⟩) (sx_skip (sx_nil fun H2 d2 => ⟨_, d2, xB.mut fl, _, _, _, _, rfl, upd_same, by rw [List.length_append, len]; rfl, stp _ (Int.emod_nonneg _ (by decide))⟩))
    · refine sx_asgV 5 (ev_mod (ev_add (ev_mul (ev_var 0 rfl) ev_int (Or.inr ⟨by decide, by decide⟩)) (ev_mul (ev_var 4 rfl) ev_int (Or.inr ⟨by decide, by decide⟩))) ev_int (by decide)) ?_
      have m0 := Int.emod_nonneg (ce * 48271 + (i : Int) * 69621) (show (2147483647 : Int) ≠ 0 by decide)
      have m1 := Int.emod_lt_of_pos (ce * 48271 + (i : Int) * 69621) (show (0 : Int) < 2147483647 by decide)
      refine sx_app (ev_var 2 rfl) (ev_mod (ev_add (ev_add (ev_mul (ev_var 5 rfl) (ev_var 5 rfl) (Or.inl ⟨by omega, by omega⟩)) (ev_mul (ev_var 0 rfl) ev_int (Or.inr ⟨by decide, by decide⟩))) (ev_var 4 rfl)) ev_int (by decide)) hl hz ?_
      rw [mp]
      refine sx_skip (sx_nil fun H2 d2 => ⟨_, d2, xB.mut fl, _, _, _, _, rfl, upd_same, by rw [List.length_append, len]; rfl, stp _ (Int.emod_nonneg _ (by decide))⟩)
  · rintro σ B ⟨xB, ce, ys, v4, v5, rfl, hl, len, nn⟩
    exact sx_ret (ev_var 2 rfl) fun v H2 d2 p2 => q ys (by rw [len]; omega) nn v H2 (xB.trans d2) ⟨l, p2, fl, d2.get hl⟩
end
end K24
set_option Elab.async false
set_option linter.all false
set_option maxRecDepth 100000
set_option maxHeartbeats 1000000
/-! The law's outline. -/
namespace K24
open PySem PySem.Spec PyProof.Rows L2 Z
theorem op_ind {X : Cx} : OpR X (binaryOp .Mult) (fun x y H Q => ∃ d : Nat, d ≤ 8 ∧ x = .str "  " ∧ y = .int (d : Int) ∧ Q (.str (mk (List.replicate (2 * d) 32))) H) := by
  intro pins s σ H x y v u Q I rx ry h
  obtain ⟨d, hd, rfl, rfl, q⟩ := h
  obtain ⟨t, rfl⟩ := rx
  obtain ⟨t', rfl⟩ := ry
  match d, hd, q with
  | 0, _, q => exact PySem.P.mul_str_none (by decide) (by decide) ⟨.str (mk (List.replicate (2 * 0) 32)), H, I.tok _, ⟨_, rfl⟩, q⟩
  | 1, _, q => exact PySem.P.mul_str (by decide) (by decide) (by decide) ⟨.str (mk (List.replicate (2 * 1) 32)), H, I, ⟨_, rfl⟩, q⟩
  | 2, _, q => exact PySem.P.mul_str (by decide) (by decide) (by decide +kernel) ⟨by decide, .str (mk (List.replicate (2 * 2) 32)), H, I.tok _, ⟨_, rfl⟩, q⟩
  | 3, _, q => exact PySem.P.mul_str (by decide) (by decide) (by decide +kernel) ⟨by decide, .str (mk (List.replicate (2 * 3) 32)), H, I.tok _, ⟨_, rfl⟩, q⟩
  | 4, _, q => exact PySem.P.mul_str (by decide) (by decide) (by decide +kernel) ⟨by decide, .str (mk (List.replicate (2 * 4) 32)), H, I.tok _, ⟨_, rfl⟩, q⟩
  | 5, _, q => exact PySem.P.mul_str (by decide) (by decide) (by decide +kernel) ⟨by decide, .str (mk (List.replicate (2 * 5) 32)), H, I.tok _, ⟨_, rfl⟩, q⟩
  | 6, _, q => exact PySem.P.mul_str (by decide) (by decide) (by decide +kernel) ⟨by decide, .str (mk (List.replicate (2 * 6) 32)), H, I.tok _, ⟨_, rfl⟩, q⟩
  | 7, _, q => exact PySem.P.mul_str (by decide) (by decide) (by decide +kernel) ⟨by decide, .str (mk (List.replicate (2 * 7) 32)), H, I.tok _, ⟨_, rfl⟩, q⟩
  | 8, _, q => exact PySem.P.mul_str (by decide) (by decide) (by decide +kernel) ⟨by decide, .str (mk (List.replicate (2 * 8) 32)), H, I.tok _, ⟨_, rfl⟩, q⟩
  | n + 9, hd, _ => omega
theorem line_len (d : Nd) (ok : OkRow d) : (lineL d).length ≤ 80 := by
  obtain ⟨_, _, _, _, k5⟩ := kind_facts d.kind ok.kind
  obtain ⟨_, _, n3, _⟩ := name_facts d.name ok.name
  obtain ⟨_, l2, _⟩ := label_facts d.label ok.label
  have f : (flagL d.vis d.en).length ≤ 16 := by cases d.vis <;> cases d.en <;> decide
  have dd := ok.dep
  unfold lineL tailL
  simp only [List.length_append, List.length_replicate, List.length_cons, List.length_nil]
  omega
theorem Good.okRow {rows : List Nd} (g : Good rows) {d : Nd} (h : d ∈ rows) : OkRow d := by
  obtain ⟨i, hi⟩ := List.getElem?_of_mem h
  exact (g.ok i d hi).1
theorem sum_le {α : Type} (f : α → Nat) (k : Nat) : ∀ l : List α, (∀ x ∈ l, f x ≤ k) → (l.map f).sum ≤ l.length * k
  | [], _ => Nat.zero_le _
  | a :: r, h => by
    rw [List.map_cons, List.sum_cons, List.length_cons, Nat.succ_mul]
    have h1 := h a List.mem_cons_self
    have h2 := sum_le f k r fun x hx => h x (List.mem_cons_of_mem _ hx)
    omega
theorem join_len (a : List Nat) : ∀ ys : List (List Nat), (TL.joinL a ys).length ≤ (ys.map (·.length)).sum + ys.length * a.length
  | [] => Nat.zero_le _
  | [p] => by
    show p.length ≤ (p.length + 0) + _
    omega
  | p :: q :: r => by
    have ih := join_len a (q :: r)
    show (p ++ (a ++ TL.joinL a (q :: r))).length ≤ (p.length + ((q :: r).map (·.length)).sum) + ((q :: r).length + 1) * a.length
    rw [List.length_append, List.length_append, Nat.succ_mul]
    omega
theorem text_len {rows : List Nd} (g : Good rows) : (textOf rows).length ≤ 100000 := by
  have e : textOf rows = mk (TL.joinL [10] (rows.map lineL)) := by
    unfold textOf
    have e1 := TL.tl_join (mk [10]) ((rows.map lineL).map mk)
    have e2 := TL.join_eq (mk [10]) ((rows.map lineL).map mk)
    rw [e2]
    refine TL.ext_tl (e1.trans ?_)
    rw [List.map_map]
    show TL.joinL [10] ((rows.map lineL).map fun l => l) = TL.joinL [10] (rows.map lineL)
    rw [List.map_id']
  rw [e, mk_len]
  have h1 := join_len [10] (rows.map lineL)
  rw [List.map_map, List.length_map] at h1
  have h2 := sum_le (fun d => (lineL d).length) 80 rows fun d hd => line_len d (g.okRow hd)
  have h3 := g.len
  have h4 : (rows.map ((fun x => x.length) ∘ lineL)).sum = (rows.map fun d => (lineL d).length).sum := rfl
  rw [h4] at h1
  have h5 : [10].length = 1 := rfl
  rw [h5] at h1
  have : rows.length * 80 ≤ 60 * 80 := Nat.mul_le_mul_right _ h3
  omega
theorem s_sp : (" " : PySem.Str) = mk [32] := by decide +kernel
theorem s_spq : (" \"" : PySem.Str) = mk [32, 34] := by decide +kernel
theorem s_q : ("\"" : PySem.Str) = mk [34] := by decide +kernel
theorem s_nl : ("\n" : PySem.Str) = mk [10] := by decide +kernel
theorem flag_eq (v e : Bool) : (if v then ("" : PySem.Str) else " hidden") ++ (if e then ("" : PySem.Str) else " disabled") = mk (flagL v e) := by
  cases v <;> cases e <;> decide +kernel
section
variable {X : Cx} {σ : L2.St} {B : Hp} {a b : Expr} {pos : Pos}
theorem ev_addM {l r : List Nat} (ha : Ev X a σ B (isV (.str (mk l)))) (hb : Ev X b σ B (isV (.str (mk r)))) (h : l.length + r.length ≤ 1000) : Ev X (.BinOp a .Add b pos) σ B (isV (.str (mk (l ++ r)))) := by
  rw [← mk_app]
  exact ev_addS ha hb (by rw [mk_len, mk_len]; exact Nat.le_trans h (by decide))
theorem ev_strM {x : PySem.Str} {l : List Nat} {j : Nat} (h : x = mk l) : Ev X (.Constant (.str x) j pos) σ B (isV (.str (mk l))) := by
  rw [h]
  exact ev_str
theorem ev_tlM {x : PySem.Str} (h : Ev X a σ B (isV (.str x))) : Ev X a σ B (isV (.str (mk (tlS x)))) := by
  rw [show mk (tlS x) = x from mk_tl x]
  exact h
end
section
variable {P : Program} {w : World} {K : PySem.W.Frag} {mg : PySem.Str → Option Value} {base : Heap}
def spOutl : Sp := fun vs H Q _ => ∃ r rows, vs = [.ref r] ∧ RowsL H r rows ∧ Good rows ∧ Ret (isV (.str (textOf rows))) H Q
theorem fc_law_outline (c : Says K mg base) : Cal P w K mg base "_law_outline" 1 ["_law_rows_here"] spOutl := by
  refine cal_of (fn__law_outline c) (glo__law_outline c) sc__law_outline bi__law_outline (fun vs H Q E ⟨_, _, e, _⟩ => by rw [e]; rfl) ?_
  rintro cdv A0 outer s H vs Q E hr ⟨r, rows, rfl, hR, g, q⟩
  have S := sc__law_outline
  have big : 1000 ≤ sizeLine := by decide
  obtain ⟨as, hr1, hlen, hat⟩ := hR
  refine sx_asgN 1 (ev_lst (vs := []) ea_nil (Nat.zero_le _)) fun l fl => ?_
  have x0 : Z.Ex H (upd H l (.lst [])) := Z.Ex.new fl
  refine sx_forG (p := r) (xs := as.map V.ref) (ev_var 0 rfl) (pg_info S.nd (i1 := 2) (i2 := 3) (i3 := 4) (i4 := 5) (i5 := 6) (i6 := 7)) (fun i σ B => Z.Ex H B ∧ (∃ v2 v3 v4 v5 v6 v7 v8, σ = [some (.ref r), some (.ref l), v2, v3, v4, v5, v6, v7, v8]) ∧ B l = some (.lst (((rows.take i).map lineL).map fun x => V.str (mk x))))
    ⟨x0, ⟨none, none, none, none, none, none, none, rfl⟩, upd_same⟩ (fun i σ B z => SqL.of (z.1.get hr1)) ?_ ?_
  · rintro i v σ B hi ⟨xB, ⟨v2, v3, v4, v5, v6, v7, v8, rfl⟩, hl⟩ H7 x7
    obtain ⟨a, ha, rfl⟩ : ∃ a, as[i]? = some a ∧ v = .ref a := by
      rw [List.getElem?_map] at hi
      cases h : as[i]? with
      | none => rw [h] at hi; cases hi
      | some a => rw [h] at hi; exact ⟨a, rfl, (Option.some.inj hi).symm⟩
    have li : i < rows.length := by rw [← hlen]; exact (List.getElem?_eq_some_iff.mp ha).1
    have hd := List.getElem?_eq_getElem li
    generalize rows[i] = d at hd
    have ok := g.okRow (List.mem_of_getElem? hd)
    have hav := xB.get (hat i a d ha hd)
    refine ⟨a, infoV d, rfl, SqT.of (x7.get hav), rfl, _, _, rfl, _, _, rfl, _, _, rfl, _, _, rfl, _, _, rfl, _, _, rfl, rfl, ?_⟩
    refine (show SX _ _ _ _ B from ?_) H7 x7
    obtain ⟨_, _, _, _, k5⟩ := kind_facts d.kind ok.kind
    obtain ⟨_, _, n3, _⟩ := name_facts d.name ok.name
    obtain ⟨_, l2, _⟩ := label_facts d.label ok.label
    have dd := ok.dep
    have f : (flagL d.vis d.en).length ≤ 16 := by cases d.vis <;> cases d.en <;> decide
    refine sx_asgV 8 (v := .str (mk (flagL d.vis d.en))) (Ev.to (ev_addS (i := if d.vis then ("" : PySem.Str) else " hidden") (j := if d.en then ("" : PySem.Str) else " disabled") (ev_if (v := d.vis) (et_val (ev_var 5 rfl)) (fun z => by rw [z]; exact ev_str) (fun z => by rw [z]; exact ev_str)) (ev_if (v := d.en) (et_val (ev_var 6 rfl)) (fun z => by rw [z]; exact ev_str) (fun z => by rw [z]; exact ev_str)) (by cases d.vis <;> cases d.en <;> decide +kernel)) fun v H2 d2 z => by rw [flag_eq] at z; exact z) ?_
    have el : lineL d = ((((((List.replicate (2 * d.dep) 32 ++ tlS d.kind) ++ [32]) ++ tlS d.name) ++ [32, 34]) ++ tlS d.label) ++ [34]) ++ flagL d.vis d.en := by
      unfold lineL tailL
      simp [List.append_assoc]
    have ll := line_len d ok
    have hz : (((rows.take i).map lineL).map fun x => V.str (mk x)).length < 100000 := by
      rw [List.length_map, List.length_map, List.length_take]
      have := g.len
      omega
    rw [el] at ll
    simp only [List.length_append, List.length_cons, List.length_nil] at ll
    refine sx_app (v := .str (mk (lineL d))) (ev_var 1 rfl) (by
      rw [el]
      refine ev_addM (ev_addM (ev_addM (ev_addM (ev_addM (ev_addM (ev_addM (ev_op op_ind ev_str (ev_var 7 rfl) fun x y H d2 p1 p2 Q q => ⟨d.dep, dd, p1, p2, ev_ret q⟩) (ev_tlM (ev_var 3 rfl)) ?_) (ev_strM s_sp) ?_) (ev_tlM (ev_var 2 rfl)) ?_) (ev_strM s_spq) ?_) (ev_tlM (ev_var 4 rfl)) ?_) (ev_strM s_q) ?_) (ev_var 8 rfl) ?_ <;> (try simp only [List.length_append, List.length_cons, List.length_nil]) <;> omega) hl hz ?_
    refine sx_nil fun H2 d2 => ⟨_, d2, xB.mut fl, ⟨_, _, _, _, _, _, _, rfl⟩, ?_⟩
    rw [upd_same, take_snoc hd, List.map_append, List.map_append]
    rfl
  · rintro σ B ⟨xB, ⟨v2, v3, v4, v5, v6, v7, v8, rfl⟩, hl⟩
    rw [List.length_map, hlen, List.take_length] at hl
    have e1 : ((rows.map lineL).map fun x => V.str (mk x)) = ((rows.map lineL).map mk).map V.str := by
      rw [List.map_map (f := mk) (g := V.str)]
      rfl
    rw [e1] at hl
    refine sx_ret (ev_bm (S := isV (.str (textOf rows))) PySem.F.plainAttrs_str PySem.F.slot_str_join PySem.F.type_str_join mt_join (ev_strM s_nl) (args1 (ev_var 1 rfl)) (fun u H d p => by
      have p : u = .str (mk [10]) := p
      rw [p]
      rfl) fun u vs H d p p3 Q q => ?_) fun v H2 d2 p2 => q v H2 (xB.trans d2) p2
    have p : u = .str (mk [10]) := p
    rw [p, p3.vals]
    refine ⟨_, _, _, rfl, rfl, Or.inl (SqL.of (d.get hl)), ?_, ev_ret q⟩
    rw [List.map_map, List.map_map, List.length_map, List.length_map, mk_len]
    have h2 := sum_le (fun d => (mk (lineL d)).length) 80 rows fun d hd => by rw [mk_len]; exact line_len d (g.okRow hd)
    have h3 := g.len
    have h4 : (rows.map ((fun x : PySem.Str => x.length) ∘ mk ∘ lineL)).sum = (rows.map fun d => (mk (lineL d)).length).sum := rfl
    have h5 : [10].length = 1 := rfl
    have : rows.length * 80 ≤ 60 * 80 := Nat.mul_le_mul_right _ h3
    have h6 : (rows.map (((fun x : PySem.Str => x.length) ∘ mk) ∘ lineL)).sum = (rows.map fun d => (mk (lineL d)).length).sum := rfl
    first
      | rw [h4, h5]; omega
      | rw [h6, h5]; omega
end
end K24
set_option Elab.async false
set_option linter.all false
set_option maxRecDepth 100000
set_option maxHeartbeats 1000000
/-! The rows that the law draws: plain. -/
namespace K24
open PySem PySem.Spec PyProof.Rows L2 Z
def nmK (j : Nat) : PySem.Str := mk [97 + j]
theorem nm_in : ∀ j, j < 20 → nmK j ∈ namesL := by
  have z : ∀ j : Fin 20, nmK j.1 ∈ namesL := by decide +kernel
  exact fun j h => z ⟨j, h⟩
theorem nm_inj {i j : Nat} (h : nmK i = nmK j) : i = j := by
  have z : (mk [97 + i]).cps.toList = (mk [97 + j]).cps.toList := congrArg (fun x : PySem.Str => x.cps.toList) h
  have z : [97 + i] = [97 + j] := z
  injection z with z _
  omega
theorem nm_root (i : Nat) : nmK i ≠ "root" := fun h => by
  have z : (mk [97 + i]).cps.toList.length = ("root" : PySem.Str).cps.toList.length := congrArg (fun x : PySem.Str => x.cps.toList.length) h
  have z2 : ("root" : PySem.Str).cps.toList.length = 4 := by decide +kernel
  rw [z2] at z
  cases z
def rootRow : Nd := ⟨"root", "layer", "Top", true, true, none, 0⟩
def PC (rows : List Nd) : Prop := ∀ (i : Nat) (d : Nd), rows[i]? = some d → 0 < i → ∃ (j : Nat) (q : Nd), j < i ∧ rows[j]? = some q ∧ q.dep + 1 = d.dep ∧ q.kind ≠ "item" ∧ ∀ (m : Nat) (z : Nd), j < m → m < i → rows[m]? = some z → d.dep ≤ z.dep
structure Gd (k : Nat) (rows : List Nd) : Prop where
  root : rows[0]? = some rootRow
  len : rows.length = k + 1
  ok : ∀ d ∈ rows, OkRow d
  nd : (rows.map (·.name)).Nodup
  nms : ∀ d ∈ rows, d.name = "root" ∨ ∃ j, j < k ∧ d.name = nmK j
  pc : PC rows
theorem gd_one : Gd 0 [rootRow] where
  root := rfl
  len := rfl
  ok := fun d hd => by
    rw [List.mem_singleton.mp hd]
    exact ⟨by decide +kernel, by decide +kernel, by decide +kernel, Nat.zero_le _⟩
  nd := List.nodup_cons.mpr ⟨List.not_mem_nil, List.nodup_nil⟩
  nms := fun d hd => Or.inl (by rw [List.mem_singleton.mp hd]; rfl)
  pc := fun i d h hi => by
    cases i with
    | zero => omega
    | succ i => cases h
theorem ins_lt {α : Type} {rows : List α} {e i : Nat} {d : α} (he : e ≤ rows.length) (h : i < e) : (rows.take e ++ [d] ++ rows.drop e)[i]? = rows[i]? := by
  have l : (rows.take e).length = e := by rw [List.length_take]; omega
  rw [List.append_assoc, List.getElem?_append_left (by omega), List.getElem?_take_of_lt h]
theorem ins_eq {α : Type} {rows : List α} {e : Nat} {d : α} (he : e ≤ rows.length) : (rows.take e ++ [d] ++ rows.drop e)[e]? = some d := by
  have l : (rows.take e).length = e := by rw [List.length_take]; omega
  rw [List.append_assoc, List.getElem?_append_right (by omega), l, Nat.sub_self]
  rfl
theorem ins_gt {α : Type} {rows : List α} {e i : Nat} {d : α} (he : e ≤ rows.length) (h : e < i) : (rows.take e ++ [d] ++ rows.drop e)[i]? = rows[i - 1]? := by
  have l : (rows.take e).length = e := by rw [List.length_take]; omega
  rw [List.append_assoc, List.getElem?_append_right (by omega), l]
  obtain ⟨m, rfl⟩ : ∃ m, i = e + 1 + m := ⟨i - e - 1, by omega⟩
  rw [show e + 1 + m - e = m + 1 by omega]
  show (rows.drop e)[m]? = _
  rw [List.getElem?_drop]
  congr 1
  omega
theorem Gd.ins {k : Nat} {rows : List Nd} (g : Gd k rows) {p e : Nat} {pd d : Nd} (hp : rows[p]? = some pd) (hk : pd.kind ≠ "item") (hpe : p < e) (hel : e ≤ rows.length) (hd : d.dep = pd.dep + 1) (hm : ∀ (m : Nat) (z : Nd), p < m → m < e → rows[m]? = some z → d.dep ≤ z.dep) (he : ∀ z, rows[e]? = some z → z.dep < d.dep) (ok : OkRow d) (nm : d.name = nmK k) :
    Gd (k + 1) (rows.take e ++ [d] ++ rows.drop e) := by
  have mem : ∀ x ∈ rows.take e ++ [d] ++ rows.drop e, x = d ∨ x ∈ rows := fun x hx => by
    rcases List.mem_append.mp hx with h | h
    · rcases List.mem_append.mp h with h | h
      · exact Or.inr (List.mem_of_mem_take h)
      · exact Or.inl (List.mem_singleton.mp h)
    · exact Or.inr (List.mem_of_mem_drop h)
  refine ⟨?_, ?_, ?_, ?_, ?_, ?_⟩
  · rw [ins_lt hel (by omega)]
    exact g.root
  · rw [List.length_append, List.length_append, List.length_take, List.length_drop, g.len]
    have := g.len
    show min e (k + 1) + 1 + (k + 1 - e) = k + 1 + 1
    omega
  · intro x hx
    rcases mem x hx with rfl | h
    · exact ok
    · exact g.ok x h
  · have pm : List.Perm (rows.take e ++ [d] ++ rows.drop e) (d :: rows) := by
      have z := List.perm_middle (a := d) (l₁ := rows.take e) (l₂ := rows.drop e)
      rw [List.take_append_drop] at z
      rw [List.append_assoc]
      exact z
    refine (pm.map (·.name)).nodup_iff.mpr (List.nodup_cons.mpr ⟨fun h => ?_, g.nd⟩)
    obtain ⟨x, hx, e2⟩ := List.mem_map.mp h
    have e2 : x.name = d.name := e2
    rcases g.nms x hx with z | ⟨j, hj, z⟩
    · rw [z, nm] at e2
      exact nm_root k e2.symm
    · rw [z, nm] at e2
      have := nm_inj e2
      omega
  · intro x hx
    rcases mem x hx with rfl | h
    · exact Or.inr ⟨k, by omega, nm⟩
    · rcases g.nms x h with z | ⟨j, hj, z⟩
      · exact Or.inl z
      · exact Or.inr ⟨j, by omega, z⟩
  · intro i x hx hi
    rcases Nat.lt_trichotomy i e with h | h | h
    · rw [ins_lt hel h] at hx
      obtain ⟨j, q, h1, h2, h3, h4, h5⟩ := g.pc i x hx hi
      refine ⟨j, q, h1, by rw [ins_lt hel (by omega)]; exact h2, h3, h4, fun m z m1 m2 hz => ?_⟩
      rw [ins_lt hel (by omega)] at hz
      exact h5 m z m1 m2 hz
    · subst h
      rw [ins_eq hel] at hx
      have hx := Option.some.inj hx
      subst hx
      refine ⟨p, pd, hpe, by rw [ins_lt hel hpe]; exact hp, hd.symm, hk, fun m z m1 m2 hz => ?_⟩
      rw [ins_lt hel m2] at hz
      exact hm m z m1 m2 hz
    · rw [ins_gt hel h] at hx
      have il : i - 1 < rows.length := (List.getElem?_eq_some_iff.mp hx).1
      obtain ⟨j, q, h1, h2, h3, h4, h5⟩ := g.pc (i - 1) x hx (by omega)
      by_cases hj : j < e
      · refine ⟨j, q, by omega, by rw [ins_lt hel hj]; exact h2, h3, h4, fun m z m1 m2 hz => ?_⟩
        rcases Nat.lt_trichotomy m e with w | w | w
        · rw [ins_lt hel w] at hz
          exact h5 m z m1 (by omega) hz
        · subst w
          rw [ins_eq hel] at hz
          have hz := Option.some.inj hz
          subst hz
          by_cases hie : i - 1 = m
          · rw [hie] at hx
            exact Nat.le_of_lt (he x hx)
          · have hy := List.getElem?_eq_getElem (show m < rows.length by omega)
            have a1 := he _ hy
            have a2 := h5 m _ m1 (by omega) hy
            omega
        · rw [ins_gt hel w] at hz
          exact h5 (m - 1) z (by omega) (by omega) hz
      · refine ⟨j + 1, q, by omega, by rw [ins_gt hel (by omega)]; exact h2, h3, h4, fun m z m1 m2 hz => ?_⟩
        rw [ins_gt hel (by omega)] at hz
        exact h5 (m - 1) z (by omega) (by omega) hz
theorem rdg_nk (rows : List Nd) : (rdg rows).1.map (fun d => (d.name, d.kind)) = rows.map fun d => (d.name, d.kind) := by
  have key : ∀ n, n ≤ rows.length → (rdg (rows.take n)).1.map (fun d => (d.name, d.kind)) = (rows.take n).map fun d => (d.name, d.kind) := by
    intro n
    induction n with
    | zero => intro _; rfl
    | succ n ih =>
      intro hn
      have h1 := List.getElem?_eq_getElem (show n < rows.length from hn)
      rw [take_snoc h1, rdg_snoc]
      show ((rdg (rows.take n)).1 ++ [_]).map _ = _
      rw [List.map_append, List.map_append, ih (by omega)]
      rfl
  have z := key rows.length (Nat.le_refl _)
  rwa [List.take_length] at z
theorem rdg_names (rows : List Nd) : (rdg rows).1.map (·.name) = rows.map (·.name) := by
  have z := congrArg (List.map Prod.fst) (rdg_nk rows)
  rw [List.map_map, List.map_map] at z
  exact z
theorem rdg_kind {rows : List Nd} (nd : (rows.map (·.name)).Nodup) {q : Nd} (hq : q ∈ rows) : kindOf (rdg rows).1 q.name = q.kind := by
  have nd2 : ((rdg rows).1.map (·.name)).Nodup := by rw [rdg_names]; exact nd
  have h : (q.name, q.kind) ∈ (rdg rows).1.map (fun d => (d.name, d.kind)) := by
    rw [rdg_nk]
    exact List.mem_map.mpr ⟨q, hq, rfl⟩
  obtain ⟨d, hd, e⟩ := List.mem_map.mp h
  have e1 : d.name = q.name := congrArg Prod.fst e
  have e2 : d.kind = q.kind := congrArg Prod.snd e
  rw [← e1, ← e2]
  unfold kindOf
  rw [look_of nd2 hd]
theorem Gd.pth {k : Nat} {rows : List Nd} (g : Gd k rows) : ∀ n, n ≤ rows.length → ∀ (j : Nat) (q : Nd), j < n → rows[j]? = some q → (∀ (m : Nat) (z : Nd), j < m → m < n → rows[m]? = some z → q.dep < z.dep) → (rdg (rows.take n)).2[q.dep]? = some q.name := by
  intro n
  induction n with
  | zero => intro _ j q h; omega
  | succ n ih =>
    intro hn j q hj hq hm
    have ih := ih (by omega)
    have h1 := List.getElem?_eq_getElem (show n < rows.length from hn)
    generalize rows[n] = d at h1
    have hd : d.dep ≤ (rdg (rows.take n)).2.length := by
      cases n with
      | zero =>
        rw [g.root] at h1
        rw [← Option.some.inj h1]
        exact Nat.zero_le _
      | succ n =>
        obtain ⟨j2, q2, a1, a2, a3, a4, a5⟩ := g.pc (n + 1) d h1 (by omega)
        have z := ih j2 q2 a1 a2 fun m z m1 m2 hz => by
          have := a5 m z m1 m2 hz
          omega
        have := (List.getElem?_eq_some_iff.mp z).1
        omega
    rw [take_snoc h1, rdg_snoc]
    show ((rdg (rows.take n)).2.take d.dep ++ [d.name])[q.dep]? = some q.name
    have l : ((rdg (rows.take n)).2.take d.dep).length = d.dep := by rw [List.length_take]; omega
    by_cases e : j = n
    · subst e
      rw [h1] at hq
      have hq := Option.some.inj hq
      subst hq
      rw [List.getElem?_append_right (by omega), l, Nat.sub_self]
      rfl
    · have lt := hm n d (by omega) (by omega) h1
      rw [List.getElem?_append_left (by omega), List.getElem?_take_of_lt lt]
      exact ih j q (by omega) hq fun m z m1 m2 hz => hm m z m1 (by omega) hz
theorem Gd.good {k : Nat} {rows : List Nd} (g : Gd k rows) (hk : k < 60) : Good rows := by
  refine ⟨fun e => ?_, by rw [g.len]; omega, fun i d hd => ⟨g.ok d (List.mem_of_getElem? hd), ?_⟩⟩
  · have z := g.len
    rw [e] at z
    cases z
  · cases i with
    | zero =>
      rw [g.root] at hd
      rw [← Option.some.inj hd]
      exact Or.inl ⟨rfl, rfl, rfl, rfl, rfl, rfl⟩
    | succ i =>
      obtain ⟨j, q, a1, a2, a3, a4, a5⟩ := g.pc (i + 1) d hd (by omega)
      have il : i + 1 < rows.length := (List.getElem?_eq_some_iff.mp hd).1
      have z := g.pth (i + 1) (by omega) j q a1 a2 fun m z m1 m2 hz => by
        have := a5 m z m1 m2 hz
        omega
      have lt := (List.getElem?_eq_some_iff.mp z).1
      have tl : (rdg (rows.take (i + 1))).1.length = i + 1 := by
        rw [rdg_len, List.length_take]
        omega
      have ndt : ((rows.take (i + 1)).map (·.name)).Nodup := ((List.take_sublist _ _).map _).nodup g.nd
      refine Or.inr ⟨fun e => ?_, by omega, (g.ok d (List.mem_of_getElem? hd)).dep, by omega, ?_, fun q2 hq2 => ?_, by rw [tl]; have := g.len; omega⟩
      · rw [e] at tl
        cases tl
      · rw [rdg_names]
        intro h
        have nd := g.nd
        rw [← List.take_append_drop (i + 1) rows, List.map_append] at nd
        have hin : d ∈ rows.drop (i + 1) := List.mem_of_getElem? (i := 0) (by rw [List.getElem?_drop]; exact hd)
        exact (List.nodup_append.mp nd).2.2 _ h _ (List.mem_map.mpr ⟨d, hin, rfl⟩) rfl
      · rw [show d.dep - 1 = q.dep by omega, z] at hq2
        rw [← Option.some.inj hq2, rdg_kind ndt (List.mem_of_getElem? (i := j) (by rw [List.getElem?_take_of_lt a1]; exact a2))]
        exact a4
end K24
set_option Elab.async false
set_option linter.all false
set_option maxRecDepth 100000
set_option maxHeartbeats 400000
/-! The rows that the law draws: the walk. -/
namespace Z
open PySem PySem.Spec PyProof.Rows L2
section
variable {X : Cx} {σ : L2.St} {B : Hp} {D : Ends} {rest : List Stmt} {elt t a : Expr} {x y : Str} {px py pos spos rp cp : Pos} {scope : Scope} {f : V → Bool} {g : V → V} {j : Nat}
def rangeV (n : Nat) : List V := (List.range n).map fun (m : Nat) => V.int (m : Int)
theorem rangeV_at {n i : Nat} (h : i < n) : (rangeV n)[i]? = some (.int (i : Int)) := by
  unfold rangeV
  rw [List.getElem?_map, List.getElem?_range h]
  rfl
theorem rangeV_len (n : Nat) : (rangeV n).length = n := by
  unfold rangeV
  rw [List.length_map, List.length_range]
/-- y = [elt for x in range(n) if t] -/
theorem sx_asgLcR (i : Nat) {n : Nat} (hm : X.mg "range" = none) (ha : Ev X a σ B (isV (.int (n : Int)))) (hz : n ≤ 100000) (hj : X.N[j]? = some x) (hw : ∀ v, wipe ((wipe σ [j]).set j (some v)) [j] = wipe σ [j])
    (ht : ∀ s H C cl fp (m : Nat), m < n → ∀ B1, Ex B B1 → EvT (Blk X scope s H C cl fp) t ((wipe σ [j]).set j (some (.int (m : Int)))) B1 (f (.int (m : Int)))) (he : ∀ s H C cl fp (m : Nat), m < n → f (.int (m : Int)) = true → ∀ B1, Ex B B1 → Ev (Blk X scope s H C cl fp) elt ((wipe σ [j]).set j (some (.int (m : Int)))) B1 (isV (g (.int (m : Int)))))
    (k : ∀ q, B q = none → SX X rest D (σ.set i (some (.ref q))) (upd B q (.lst (keepF f g (rangeV n)))))
    (ok : blkC X.N X.env.scope scope [(x, j)] = true) (hN : X.N.Nodup := by exact FnScope.nd (by assumption)) (hi : X.N[i]? = some y := by rfl) (hy : X.env.scope.names.lookup y = some .local := by rfl)
    (hsw : swapsWith (.ListComp elt [⟨.Name x px, .Call (.Name "range" rp) [a] [] cp, [t], 0⟩] scope pos) (some (.Name y py)) spos.line X.env = pure true := by exact sw_true rfl rfl rfl rfl) (hc : X.calm = true := by rfl)
    (hx : ∀ s H C cl fp, Loc (Blk X scope s H C cl fp).env.scope x := by first | exact fun _ _ _ _ _ => Or.inl rfl | exact fun _ _ _ _ _ => Or.inr rfl)
    (hf : ∀ s H C cl fp, (Blk X scope s H C cl fp).fn x = true ∨ (Blk X scope s H C cl fp).env.scope.names.lookup x = some .local := by first | exact fun _ _ _ _ _ => .inr rfl | exact fun _ _ _ _ _ => .inl rfl)
    (hg : Gl X "range" := by rfl) (hst : starEach [a] X.env = [(false, eval a X.env)] := by rfl)
    (hs : ∀ x, foldedSetIterable (.Call (.Name "range" rp) [a] [] cp) X.env x = pure x := by intro _; rfl) :
    SX X (.Assign [.Name y py] (.ListComp elt [⟨.Name x px, .Call (.Name "range" rp) [a] [] cp, [t], 0⟩] scope pos) spos :: rest) D σ B := by
  let tt : TT := fun σ H Q => ∀ s H0 C cl fp, sT (Blk X scope s H0 C cl fp) t σ H Q
  let te : TE := fun σ H Q => ∀ s H0 C cl fp, sE (Blk X scope s H0 C cl fp) elt σ H Q
  refine sx_step (ps_setLc (i := i) (own := [(x, j)]) (g := gName j) (tt := tt) (te := te) hc hN hi hy hsw (pi_range1 hg hm (pa_cons (pe_s a) pa_nil hst) hst) (blkOk_by ok) (fun s H C cl fp => pg_name hN hj (hx s H C cl fp) (hf s H C cl fp)) (fun s H C cl fp => pts_one ⟨fun pins s1 σ1 H1 Q I h => h s H C cl fp pins s1 I⟩)
    (fun s H C cl fp => ⟨fun pins s1 σ1 H1 Q I h => h s H C cl fp pins s1 I⟩) hs) fun H d => ?_
  refine ha H d _ fun u H1 d1 p2 => ?_
  have p2 : u = .int (n : Int) := p2
  subst p2
  refine ⟨(n : Int), rfl, by omega, by omega, fun DD hD => ?_⟩
  refine lc_range (lo := 0) (n := n) (fun i H' => Ex H1 H' ∧ H' DD = some (.lst (keepF f g ((rangeV n).take i)))) ⟨Ex.new hD, upd_same⟩ (fun i H' hi w => ?_) (fun H' w => ?_)
  · have e0 : (0 : Int) + (i : Int) = (i : Int) := Int.zero_add _
    rw [e0]
    refine ⟨hw (.int (i : Int)), ?_⟩
    refine lc_turns (te := te) (tt := tt) (σ2 := (wipe σ [j]).set j (some (.int (i : Int)))) (xs := rangeV n) (H1 := H1) w.1 hD w.2 (rangeV_at hi) (by rw [rangeV_len]; exact hz) (fun H2 x2 Q2 q2 s H0 C cl fp => ht s H0 C cl fp i hi H1 (d.trans d1) H2 x2 Q2 q2)
      (fun hv H2 x2 Q2 q2 s H0 C cl fp => he s H0 C cl fp i hi hv H1 (d.trans d1) H2 x2 Q2 q2) (fun H2 x2 h2 => ⟨x2, h2⟩)
  · have h := w.2
    rw [List.take_of_length_le (by rw [rangeV_len]; exact Nat.le_refl _)] at h
    exact k DD ((d.trans d1).free hD) H' (((d.trans d1).trans w.1).put h)
/-- y = ["..", ..], many texts: the list stays shut, as Lean's whnf opens each text twice -/
def strsOf : List Expr → Option (List Str)
  | [] => some []
  | .Constant (.str x) _ _ :: r => (strsOf r).map (x :: ·)
  | _ => none
theorem ea_strs : ∀ {es : List Expr} {ns : List Str}, strsOf es = some ns → EvA X es σ B ((ns.map V.str).map isV)
  | [], ns, h => by
    have h : some [] = some ns := h
    cases h
    exact ea_nil
  | e :: r, ns, h => by
    cases e with
    | Constant c j p =>
      cases c with
      | str x =>
        have h : (strsOf r).map (x :: ·) = some ns := h
        cases hr : strsOf r with
        | none => rw [hr] at h; cases h
        | some ms =>
          rw [hr] at h
          have h : some (x :: ms) = some ns := h
          cases h
          exact ea_cons ev_str (ea_strs hr)
      | _ => cases h
    | _ => cases h
theorem sx_asgStrs (i : Nat) {es : List Expr} {ns : List Str} {p2 : Pos} (h : strsOf es = some ns) (hz : ns.length ≤ 100) (k : ∀ q, B q = none → SX X rest D (σ.set i (some (.ref q))) (upd B q (.lst (ns.map V.str))))
    (hs : swapsWith (.List es pos) (some (.Name x p2)) spos.line X.env = pure false := by rfl) (hN : X.N.Nodup := by exact FnScope.nd (by assumption)) (hi : X.N[i]? = some x := by rfl)
    (hx : Loc X.env.scope x := by first | exact Or.inl rfl | exact Or.inr rfl)
    (hf : X.fn x = true ∨ X.env.scope.names.lookup x = some .local := by first | exact .inl rfl | exact .inr rfl) : SX X (.Assign [.Name x p2] (.List es pos) spos :: rest) D σ B :=
  sx_asgN i (n := rfl) (ev_lst (ea_strs h) (by rw [List.length_map]; exact Nat.le_trans hz (by decide))) k hN hi hx hs hf
end
end Z
namespace K24
open PySem PySem.Spec PyProof.Rows L2 Z
def kinds10 : List PySem.Str := ["item", "item", "item", "item", "container", "linear", "circular", "circular", "linear", "layer"]
def labels8 : List PySem.Str := ["Ab", "ba", "A", "pear", "Pea", "", "b b", "ab-1"]
theorem kind_at (z : Int) : ∃ kd ∈ kindsL, atI (sV kinds10) (z % 10) = some (.str kd) := by
  have h : ∀ j : Fin 10, ∃ kd ∈ kindsL, kinds10[j.1]? = some kd := by decide +kernel
  have h0 := Int.emod_nonneg z (show (10 : Int) ≠ 0 by decide)
  have h1 := Int.emod_lt_of_pos z (show (0 : Int) < 10 by decide)
  obtain ⟨kd, m, e⟩ := h ⟨(z % 10).toNat, by omega⟩
  exact ⟨kd, m, atI_sV (j := (z % 10).toNat) (by omega) e⟩
theorem label_at (z : Int) : ∃ kd ∈ labelsL, atI (sV labels8) (z % 8) = some (.str kd) := by
  have h : ∀ j : Fin 8, ∃ kd ∈ labelsL, labels8[j.1]? = some kd := by decide +kernel
  have h0 := Int.emod_nonneg z (show (8 : Int) ≠ 0 by decide)
  have h1 := Int.emod_lt_of_pos z (show (0 : Int) < 8 by decide)
  obtain ⟨kd, m, e⟩ := h ⟨(z % 8).toNat, by omega⟩
  exact ⟨kd, m, atI_sV (j := (z % 8).toNat) (by omega) e⟩
theorem abc_at {i : Nat} (h : i < 20) : atI ("abcdefghijklmnopqrstuvw" : PySem.Str).cps.toList (i : Int) = some (97 + i) := by
  have z : ∀ j : Fin 20, atI ("abcdefghijklmnopqrstuvw" : PySem.Str).cps.toList (j.1 : Int) = some (97 + j.1) := by decide +kernel
  exact z ⟨i, h⟩
/-- which rows may have children -/
def hb (rows : List Nd) (p : Nat) : Bool := match rows[p]? with
  | some d => !decide (d.kind = "item") && decide ((d.dep : Int) < 8)
  | none => false
def hbV (rows : List Nd) : V → Bool
  | .int z => hb rows z.toNat
  | _ => false
theorem keep_rng (rows : List Nd) (n : Nat) : keepF (hbV rows) (fun v => v) (rangeV n) = ((List.range n).filter (hb rows)).map fun (m : Nat) => V.int (m : Int) := by
  unfold keepF rangeV
  rw [List.map_id', List.filter_map]
  rfl
theorem sS_of {X : Cx} {rest : List Stmt} {D : Ends} {σ : L2.St} {H : Hp} (h : SX X rest D σ H) : sS X rest D σ H := h H (Z.Ex.refl H)
/-- numbers drawn -/
def MoreP (H : Hp) (v : V) : Prop := ∃ (l : Addr) (ms : List Int), v = .ref l ∧ H l = some (.lst (ms.map V.int)) ∧ 6 ≤ ms.length
def moreS : VS := ⟨fun H v => MoreP H v, fun e ⟨l, ms, h1, h2, h3⟩ => ⟨l, ms, h1, e.get h2, h3⟩⟩
section
variable {P : Program} {w : World} {K : PySem.W.Frag} {mg : PySem.Str → Option Value} {base : Heap}
/-- rows[p] -/
theorem ev_row {X : Cx} {σ : L2.St} {B : Hp} {o e : Expr} {pos : Pos} {r : Addr} {rows : List Nd} {p : Nat} {d : Nd} (hR : RowsL B r rows) (hp : rows[p]? = some d) (ho : Ev X o σ B (isV (.ref r))) (he : Ev X e σ B (isV (.int (p : Int)))) (hs : PlainIx e := by intro _ _; rfl) : Ev X (.Subscript o e pos) σ B (seqT X.K (infoV d)) := by
  obtain ⟨as, h1, h2, h3⟩ := hR
  have lt : p < as.length := by rw [h2]; exact (List.getElem?_eq_some_iff.mp hp).1
  have ha := List.getElem?_eq_getElem lt
  exact (ev_ixL (v := .ref as[p]) (ho.qL (SqL.of h1)) he (atI_nat (by rw [List.getElem?_map, ha]; rfl)) hs).qT (SqT.of (h3 p _ d ha hp))
theorem ev_lenR {X : Cx} {σ : L2.St} {B : Hp} {o : Expr} {p pos : Pos} {r : Addr} {rows : List Nd} (hm : X.mg "len" = none) (hR : RowsL B r rows) (ho : Ev X o σ B (isV (.ref r))) (hg : Gl X "len" := by rfl) (he : starEach [o] X.env = (false, eval o X.env) :: starEach [] X.env := by rfl) (hpl : (backTo pos (starEach [] X.env)).any (·.1) = false := by rfl) :
    Ev X (.Call (.Name "len" p) [o] [] pos) σ B (isV (.int (rows.length : Int))) := by
  obtain ⟨as, h1, h2, h3⟩ := hR
  have z := ev_lenL (pos := pos) (p := p) hm (ho.qL (SqL.of h1)) hg he hpl
  rw [List.length_map, h2] at z
  exact z
theorem ev_cell {X : Cx} (c : Says X.K X.mg X.base) {σ : L2.St} {B : Hp} {o e : Expr} {p pos : Pos} {j : Nat} {sc : Addr} {ns : List Int} {k : Nat} (hr : Room j X.A) (hj : 1 ≤ j) (hs : SqL X.K B sc (ns.map V.int)) (ho : Ev X o σ B (isV (.ref sc))) (he : Ev X e σ B (isV (.int (k : Int))))
    (F : Cal X.prog X.w X.K X.mg X.base "_law_cell" 1 ["_law_script", "_law_k"] (spCell X.K))
    (hg : Gl X "_law_cell" := by rfl) (hs1 : starEach [o, e] X.env = (false, eval o X.env) :: starEach [e] X.env := by rfl) (hs2 : starEach [e] X.env = (false, eval e X.env) :: starEach [] X.env := by rfl) (hpl : (backTo pos (starEach [e] X.env)).any (·.1) = false := by rfl) :
    Ev X (.Call (.Name "_law_cell" p) [o, e] [] pos) σ B (isV (.int (cellI ns k))) :=
  ev_call F hr hj (args2 ho he hs1 hs2) (fun vs H d2 p2 Q q => by
    rw [p2.vals]
    exact ⟨sc, ns, k, rfl, d2.seqL hs, q⟩) hg (by decide) hs1 hpl
def spRows (K : PySem.W.Frag) : Sp := fun vs H Q _ => ∃ sc ns, vs = [.ref sc, .int 0, .int 20] ∧ SqL K H sc ((ns : List Int).map V.int) ∧ ∀ rows r H2, Good rows → RowsL H2 r rows → Z.Ex H H2 → Q (.ref r) H2
theorem fc_law_rows (c : Says K mg base) : Cal P w K mg base "_law_rows" 2 ["_law_script", "_law_at", "_law_most"] (spRows K) := by
  refine cal_of (fn__law_rows c) (glo__law_rows c) sc__law_rows bi__law_rows (fun vs H Q E ⟨_, _, e, _⟩ => by rw [e]; rfl) ?_
  rintro cdv A0 outer s H vs Q E hr ⟨sc, ns, rfl, hs, q⟩
  have S := sc__law_rows
  have big : 1000 ≤ sizeLine := by decide
  refine sx_asgE 3 fun H1 y1 => sE_call (fc_law_draws c) hr (by decide) (ea_cons (S := isV (.int (cellI ns 0))) ?_ (ea_cons (ev_int (i := 60)) ea_nil)) y1 fun vs H2 d2 p2 => ?_
  · refine ev_call (fc_law_cell c) hr (by decide) (args2 (ev_var 0 rfl) (ev_var 1 rfl)) fun vs H d2 p2 Q q => ?_
    rw [p2.vals]
    exact ⟨sc, ns, 0, rfl, d2.seqL hs, q⟩
  obtain ⟨_, _, rfl, rfl, _, _, rfl, rfl, rfl⟩ := p2
  refine ⟨cellI ns 0, 60, rfl, by decide, fun ds hdl hdn v H3 d3 ⟨dl, e, _, hdd⟩ => ?_⟩
  subst e
  have x3 : Z.Ex H H3 := (y1.trans d2).trans d3
  refine sS_of ?_
  clear y1 d2 d3
  refine sx_asgStrs 4 (ns := kinds10) ?_ ?_ ?_ ?_ ?_ ?_ ?_ ?_
  · rfl
  · decide
  rotate_left
  · rfl
  · exact S.nd
  · rfl
  · exact Or.inl rfl
  · exact .inl rfl
  intro kl fk
  have x4 : Z.Ex H3 (upd H3 kl (.lst (sV kinds10))) := Z.Ex.new fk
  have hkl : (upd H3 kl (.lst (sV kinds10))) kl = some (.lst (sV kinds10)) := upd_same
  generalize upd H3 kl (.lst (sV kinds10)) = H4 at x4 hkl
  refine sx_asgStrs 5 (ns := labels8) ?_ ?_ ?_ ?_ ?_ ?_ ?_ ?_
  · rfl
  · decide
  rotate_left
  · rfl
  · exact S.nd
  · rfl
  · exact Or.inl rfl
  · exact .inl rfl
  intro ll fl
  have x5 : Z.Ex H4 (upd H4 ll (.lst (sV labels8))) := Z.Ex.new fl
  have hll : (upd H4 ll (.lst (sV labels8))) ll = some (.lst (sV labels8)) := upd_same
  generalize upd H4 ll (.lst (sV labels8)) = H5 at x5 hll
  refine sx_asg 6 (ev_lst1 (ev_tup (vs := infoV rootRow) (ea_cons ev_str (ea_cons ev_str (ea_cons ev_str (ea_cons ev_bool (ea_cons ev_bool (ea_cons ev_int ea_nil)))))) (by show 6 ≤ sizeLine; omega))) fun v H6 x6 ⟨r, v1, ev, _, hr1, t, et, _, ht⟩ => ?_
  subst ev et
  have hR : RowsL H6 r [rootRow] := ⟨[t], hr1, rfl, fun i a d h1 h2 => by
    cases i with
    | zero =>
      rw [← Option.some.inj h1, ← Option.some.inj h2]
      exact ht
    | succ i => cases h1⟩
  have xH : Z.Ex H H6 := ((x3.trans x4).trans x5).trans x6
  have hs6 : SqL K H6 sc (ns.map V.int) := xH.seqL hs
  have hd6 := ((x4.trans x5).trans x6).get hdd
  have hk6 := (x5.trans x6).get hkl
  have hl6 := x6.get hll
  have c0 := Int.emod_nonneg (cellI ns 1) (show (20 - 1 : Int) ≠ 0 by decide)
  have c1 := Int.emod_lt_of_pos (cellI ns 1) (show (0 : Int) < 20 - 1 by decide)
  refine sx_range 7 (free_range c) (ev_add ev_int (ev_mod (ev_cell c hr (by decide) hs6 (ev_var 0 rfl) (ev_add (i := 0) (j := 1) (ev_var 1 rfl) ev_int) (fc_law_cell c)) (ev_sub (ev_var 2 rfl) ev_int) (by decide))) ⟨by omega, by omega⟩
    (fun i σ B => Z.Ex H6 B ∧ ∃ rows r v7 v8 v9 v10 v11 v12 v13 v14 v15, σ = [some (.ref sc), some (.int 0), some (.int 20), some (.ref dl), some (.ref kl), some (.ref ll), some (.ref r), v7, v8, v9, v10, v11, v12, v13, v14, v15] ∧ Gd i rows ∧ RowsL B r rows)
    (fun B' d => ⟨d, [rootRow], r, none, none, none, none, none, none, none, none, none, rfl, gd_one, hR.up d⟩) ?_ ?_
  · rintro i σ B hi ⟨xB, rows, r, v7, v8, v9, v10, v11, v12, v13, v14, v15, rfl, g, hR⟩
    have i20 : i < 20 := by omega
    have hd := xB.get hd6
    have hk := xB.get hk6
    have hl := xB.get hl6
    have hsB : SqL K B sc (ns.map V.int) := xB.seqL hs6
    obtain ⟨d0, dr, e0⟩ : ∃ d0 dr, ds = d0 :: dr := by
      cases ds with
      | nil => cases hdl
      | cons a r => exact ⟨a, r, rfl⟩
    have a0 : atI (ds.map V.int) 0 = some (.int d0) := by
      rw [e0]
      exact atI_nat (j := 0) rfl
    refine sx_asg 8 (S := moreS) (ev_if (v := decide (V.int (d0 % 2) = .int 0)) (et_eqS (ev_mod (ev_ixL ((ev_var 3 rfl).qL (SqL.of hd)) ev_int a0) ev_int (by decide)) ev_int rfl) (fun _ => ?_) (fun _ => ?_)) ?_
    · refine ev_call (fc_law_draws c) hr (by decide) (ea_cons (ev_add (ev_cell c hr (by decide) hsB (ev_var 0 rfl) (ev_add (i := 0) (j := 2) (ev_var 1 rfl) ev_int) (fc_law_cell c)) (ev_mul ev_int (ev_var 7 rfl) (Or.inl ⟨by decide, by decide⟩))) (ea_cons (ev_int (i := 6)) ea_nil)) fun vs H d2 p2 Q q => ?_
      obtain ⟨_, _, rfl, rfl, _, _, rfl, rfl, rfl⟩ := p2
      exact ⟨_, 6, rfl, by decide, fun ys hy _ v H3 d3 ⟨l, e, _, hl⟩ => q v H3 d3 ⟨l, ys, e, hl, by omega⟩⟩
    · have em : (3 * (i : Int)) % 40 = ((3 * i % 40 : Nat) : Int) := by omega
      have ec : cutV (ds.map V.int) (some ((3 * (i : Int)) % 40)) none = (ds.drop (3 * i % 40)).map V.int := by
        show ((ds.map V.int).drop (HT.sIx _ _ (some ((3 * (i : Int)) % 40)))).take (HT.sIx (ds.map V.int).length _ none - _) = _
        rw [em, HT.sIx_nat, HT.sIx_none, List.length_map, hdl, Nat.min_eq_left (by omega), List.take_of_length_le, ← List.map_drop]
        rw [List.length_drop, List.length_map, hdl]
        omega
      refine Ev.to (ev_cat (ev_cut ((ev_var 3 rfl).qL (SqL.of hd)) (eo_some (ev_mod (ev_mul ev_int (ev_var 7 rfl) (Or.inl ⟨by decide, by decide⟩)) ev_int (by decide))) eo_none).nA (xs := cutV (ds.map V.int) (some ((3 * (i : Int)) % 40)) none) (ys := ds.map V.int) ((ev_var 3 rfl).to fun v H d z => ⟨dl, z, d.get hd⟩) ?_) fun v H2 d2 ⟨l, e, _, h⟩ => ⟨l, ds.drop (3 * i % 40) ++ ds, e, ?_, ?_⟩
      · rw [ec, List.length_map, List.length_map, List.length_drop, hdl]
        omega
      · rw [ec, ← List.map_append] at h
        exact h
      · rw [List.length_append, hdl]
        omega
    · rintro v B2 x2 ⟨ml, ms, rfl, hml, h6⟩
      obtain ⟨m0, m1, m2, m3, m4, m5, mr, rfl⟩ : ∃ m0 m1 m2 m3 m4 m5 mr, ms = m0 :: m1 :: m2 :: m3 :: m4 :: m5 :: mr := by
        match ms, h6 with
        | a :: b :: c :: d :: e :: f :: r, _ => exact ⟨a, b, c, d, e, f, r, rfl⟩
      have hR2 := hR.up x2
      have rl := g.len
      refine sx_asgLcR 9 (j := 15) (n := rows.length) (f := hbV rows) (g := fun v => v) (free_range c) (ev_lenR (free_len c) hR2 (ev_var 6 rfl)) (by omega) rfl (fun v => rfl) (fun s H C cl fp m hm B1 x1 => ?_) (fun s H C cl fp m hm _ B1 x1 => ev_var 15 rfl) (fun hl9 f9 => ?_) rfl
      · have hm2 := List.getElem?_eq_getElem hm
        generalize rows[m] = dm at hm2
        have R1 := hR2.up x1
        refine EvT.to (ew_and (et_neS (ev_ixT (ev_row R1 hm2 (ev_var 6 rfl) (ev_var 15 rfl)) ev_int (atI_nat (j := 1) rfl)) ev_str rfl) fun _ => ew_and1 (et_lt (ev_ixT (ev_row R1 hm2 (ev_var 6 rfl) (ev_var 15 rfl)) ev_int (atI_nat (j := 5) rfl)) ev_int)).t ?_
        show _ = hb rows m
        unfold hb
        rw [hm2, str_dec]
      · rw [keep_rng]
        have x9 : Z.Ex B2 (upd B2 hl9 (.lst (((List.range rows.length).filter (hb rows)).map fun (m : Nat) => V.int (m : Int)))) := Z.Ex.new f9
        have h9 : (upd B2 hl9 (.lst (((List.range rows.length).filter (hb rows)).map fun (m : Nat) => V.int (m : Int)))) hl9 = some (.lst (((List.range rows.length).filter (hb rows)).map fun (m : Nat) => V.int (m : Int))) := upd_same
        have hin : ∀ p ∈ (List.range rows.length).filter (hb rows), ∃ pd, rows[p]? = some pd ∧ pd.kind ≠ "item" ∧ pd.dep < 8 := fun p hp => by
          have z := (List.mem_filter.mp hp).2
          unfold hb at z
          cases e : rows[p]? with
          | none => rw [e] at z; cases z
          | some pd =>
            rw [e] at z
            have z := Bool.and_eq_true_iff.mp z
            refine ⟨pd, rfl, fun k => ?_, by have := of_decide_eq_true z.2; omega⟩
            have z1 := z.1
            rw [decide_eq_true k] at z1
            cases z1
        have hne : 0 < ((List.range rows.length).filter (hb rows)).length := List.length_pos_of_mem (a := 0) (List.mem_filter.mpr ⟨List.mem_range.mpr (by omega), by
          unfold hb
          rw [g.root]
          decide +kernel⟩)
        generalize (List.range rows.length).filter (hb rows) = hs9 at x9 h9 hin hne
        generalize upd B2 hl9 (.lst (hs9.map fun (m : Nat) => V.int (m : Int))) = B3 at x9 h9
        have h8 := x9.get hml
        have hR3 := hR2.up x9
        have L0 : (0 : Int) < (hs9.length : Int) := by omega
        obtain ⟨j, hj, hat⟩ : ∃ j : Nat, j < hs9.length ∧ atI [V.int (m0 % (hs9.length : Int)), V.int ((hs9.length : Int) - 1), V.int (m0 % (hs9.length : Int))] (m1 % 3) = some (.int (j : Int)) := by
          have q0 := Int.emod_nonneg m0 (show (hs9.length : Int) ≠ 0 by omega)
          have q1 := Int.emod_lt_of_pos m0 L0
          have q2 : m1 % 3 = ((0 : Nat) : Int) ∨ m1 % 3 = ((1 : Nat) : Int) ∨ m1 % 3 = ((2 : Nat) : Int) := by omega
          have t1 : m0 % (hs9.length : Int) = (((m0 % (hs9.length : Int)).toNat : Nat) : Int) := by omega
          have t2 : (hs9.length : Int) - 1 = ((hs9.length - 1 : Nat) : Int) := by omega
          rcases q2 with e | e | e
          · exact ⟨(m0 % (hs9.length : Int)).toNat, by omega, by rw [e, ← t1]; exact atI_nat rfl⟩
          · exact ⟨hs9.length - 1, by omega, by rw [e, ← t2]; exact atI_nat rfl⟩
          · exact ⟨(m0 % (hs9.length : Int)).toNat, by omega, by rw [e, ← t1]; exact atI_nat rfl⟩
        have hj2 := List.getElem?_eq_getElem hj
        have hpin := hin _ (List.getElem_mem hj)
        generalize hs9[j] = p at hj2 hpin
        obtain ⟨pd, hpd, hpk, hp8⟩ := hpin
        have pl : p < rows.length := (List.getElem?_eq_some_iff.mp hpd).1
        refine sx_asgV 10 (v := .int (p : Int)) (ev_ixL ((ev_var 9 rfl).qL (SqL.of h9)) (ev_ixL (ev_lst (vs := [V.int (m0 % (hs9.length : Int)), V.int ((hs9.length : Int) - 1), V.int (m0 % (hs9.length : Int))]) (ea_cons (ev_mod (ev_ixL ((ev_var 8 rfl).qL (SqL.of h8)) (ev_int (i := 0)) (atI_nat (j := 0) rfl)) (Ev.to (ev_lenL (free_len c) ((ev_var 9 rfl).qL (SqL.of h9))) fun v H d z => by rw [List.length_map] at z; exact z) L0) (ea_cons (ev_sub (Ev.to (ev_lenL (free_len c) ((ev_var 9 rfl).qL (SqL.of h9))) fun v H d z => by rw [List.length_map] at z; exact z) ev_int) (ea_cons (ev_mod (ev_ixL ((ev_var 8 rfl).qL (SqL.of h8)) (ev_int (i := 0)) (atI_nat (j := 0) rfl)) (Ev.to (ev_lenL (free_len c) ((ev_var 9 rfl).qL (SqL.of h9))) fun v H d z => by rw [List.length_map] at z; exact z) L0) ea_nil))) (by show 3 ≤ sizeLine; omega)).nL (ev_mod (ev_ixL ((ev_var 8 rfl).qL (SqL.of h8)) (ev_int (i := 1)) (atI_nat (j := 1) rfl)) ev_int (by decide)) hat) (atI_nat (by rw [List.getElem?_map, hj2]; rfl))) ?_
        refine sx_asgV 11 (ev_add (ev_ixT (ev_row hR3 hpd (ev_var 6 rfl) (ev_var 10 rfl)) ev_int (atI_nat (j := 5) rfl)) ev_int) ?_
        refine sx_asgV 12 (ev_add (ev_var 10 rfl) ev_int) ?_
        refine sx_while (fun m σ B' => ∃ e : Nat, p < e ∧ e ≤ rows.length ∧ m = rows.length - e ∧ Z.Ex B3 B' ∧ σ = [some (.ref sc), some (.int 0), some (.int 20), some (.ref dl), some (.ref kl), some (.ref ll), some (.ref r), some (.int (i : Int)), some (.ref ml), some (.ref hl9), some (.int (p : Int)), some (.int ((pd.dep : Int) + 1)), some (.int (e : Int)), v13, v14, v15] ∧ ∀ (m : Nat) (z : Nd), p < m → m < e → rows[m]? = some z → pd.dep + 1 ≤ z.dep)
          (rows.length - (p + 1)) ⟨p + 1, by omega, by omega, rfl, Z.Ex.refl B3, rfl, fun m z h1 h2 => by omega⟩ ?_
        rintro mm σ B4 ⟨e, he1, he2, rfl, xe, rfl, hbl⟩
        have hR4 := hR3.up xe
        refine ⟨_, (ew_and (w := match rows[e]? with | some z => decide ((pd.dep : Int) + 1 ≤ (z.dep : Int)) | none => false) (et_lt (ev_var 12 rfl) (ev_lenR (free_len c) hR4 (ev_var 6 rfl))) (fun hv => ew_and1 ?_)).t, fun hv => ?_, fun hv => ?_⟩
        · have lt : e < rows.length := by
            have := of_decide_eq_true hv
            omega
          have hz := List.getElem?_eq_getElem lt
          generalize rows[e] = z at hz
          rw [hz]
          exact et_ge (ev_ixT (ev_row hR4 hz (ev_var 6 rfl) (ev_var 12 rfl)) ev_int (atI_nat (j := 5) rfl)) (ev_var 11 rfl)
        · have hv := Bool.and_eq_true_iff.mp hv
          have lt : e < rows.length := by
            have := of_decide_eq_true hv.1
            omega
          have hz := List.getElem?_eq_getElem lt
          have hv2 := hv.2
          generalize rows[e] = z at hz
          rw [hz] at hv2
          have dz := of_decide_eq_true hv2
          refine sx_asgV 12 (ev_add (ev_var 12 rfl) ev_int) (sx_nil fun H5 d5 => ⟨rows.length - (e + 1), by omega, B4, d5, e + 1, by omega, by omega, rfl, xe, rfl, fun m z2 h1 h2 hz2 => ?_⟩)
          by_cases em : m = e
          · subst em
            rw [hz] at hz2
            rw [← Option.some.inj hz2]
            omega
          · exact hbl m z2 h1 (by omega) hz2
        · have hen : ∀ z, rows[e]? = some z → z.dep < pd.dep + 1 := fun z hz => by
            rw [hz] at hv
            have lt := (List.getElem?_eq_some_iff.mp hz).1
            have hv : (decide ((e : Int) < (rows.length : Int)) && decide ((pd.dep : Int) + 1 ≤ (z.dep : Int))) = false := hv
            rw [decide_eq_true (show (e : Int) < (rows.length : Int) by omega), Bool.true_and] at hv
            have := of_decide_eq_false hv
            omega
          have h8 := xe.get h8
          have hk4 := ((x2.trans x9).trans xe).get hk
          have hl4 := ((x2.trans x9).trans xe).get hl
          obtain ⟨kd, kin, kat⟩ := kind_at m2
          obtain ⟨lb, lin, lat⟩ := label_at m3
          refine sx_asgV 13 (v := .str (nmK i)) (ev_ixS ev_str (ev_var 7 rfl) (by decide +kernel) (abc_at i20)) ?_
          refine sx_asgN 14 (o := .tup [.str (nmK i), .str kd, .str lb, .bl (decide (0 < m4 % 8)), .bl (decide (0 < m5 % 8)), .int ((pd.dep : Int) + 1)]) (n := rfl) (ev_tup (vs := [.str (nmK i), .str kd, .str lb, .bl (decide (0 < m4 % 8)), .bl (decide (0 < m5 % 8)), .int ((pd.dep : Int) + 1)]) (ea_cons (ev_var 13 rfl) (ea_cons (ev_ixL ((ev_var 4 rfl).qL (SqL.of hk4)) (ev_mod (ev_ixL ((ev_var 8 rfl).qL (SqL.of h8)) (ev_int (i := 2)) (atI_nat (j := 2) rfl)) ev_int (by decide)) kat) (ea_cons (ev_ixL ((ev_var 5 rfl).qL (SqL.of hl4)) (ev_mod (ev_ixL ((ev_var 8 rfl).qL (SqL.of h8)) (ev_int (i := 3)) (atI_nat (j := 3) rfl)) ev_int (by decide)) lat) (ea_cons (ev_gt (ev_mod (ev_ixL ((ev_var 8 rfl).qL (SqL.of h8)) (ev_int (i := 4)) (atI_nat (j := 4) rfl)) ev_int (by decide)) ev_int) (ea_cons (ev_gt (ev_mod (ev_ixL ((ev_var 8 rfl).qL (SqL.of h8)) (ev_int (i := 5)) (atI_nat (j := 5) rfl)) ev_int (by decide)) ev_int) (ea_cons (ev_var 11 rfl) ea_nil)))))) (by show 6 ≤ sizeLine; omega)) fun rw_ frw => ?_
          have hrw : (upd B4 rw_ (.tup (infoV ⟨nmK i, kd, lb, decide (0 < m4 % 8), decide (0 < m5 % 8), none, pd.dep + 1⟩))) rw_ = some (.tup (infoV ⟨nmK i, kd, lb, decide (0 < m4 % 8), decide (0 < m5 % 8), none, pd.dep + 1⟩)) := upd_same
          have x10 : Z.Ex B4 (upd B4 rw_ (.tup (infoV ⟨nmK i, kd, lb, decide (0 < m4 % 8), decide (0 < m5 % 8), none, pd.dep + 1⟩))) := Z.Ex.new frw
          refine (show SX _ _ _ _ (upd B4 rw_ (.tup (infoV ⟨nmK i, kd, lb, decide (0 < m4 % 8), decide (0 < m5 % 8), none, pd.dep + 1⟩))) from ?_)
          have gN : Gd (i + 1) (rows.take e ++ [⟨nmK i, kd, lb, decide (0 < m4 % 8), decide (0 < m5 % 8), none, pd.dep + 1⟩] ++ rows.drop e) := g.ins hpd hpk he1 he2 rfl hbl hen ⟨kin, nm_in i i20, lin, by show pd.dep + 1 ≤ 8; omega⟩ rfl
          generalize (⟨nmK i, kd, lb, decide (0 < m4 % 8), decide (0 < m5 % 8), none, pd.dep + 1⟩ : Nd) = dn at hrw x10 gN
          generalize upd B4 rw_ (.tup (infoV dn)) = B5 at hrw x10
          obtain ⟨as, q1, q2, q3⟩ := hR4.up x10
          have al : e ≤ as.length := by omega
          have c1 : cutV (as.map V.ref) none (some (e : Int)) = (as.take e).map V.ref := by
            show ((as.map V.ref).drop 0).take (HT.sIx _ _ (some (e : Int)) - 0) = _
            rw [HT.sIx_nat, List.drop_zero, Nat.sub_zero, List.length_map, Nat.min_eq_left al, ← List.map_take]
          have c2 : cutV (as.map V.ref) (some (e : Int)) none = (as.drop e).map V.ref := by
            show ((as.map V.ref).drop (HT.sIx _ _ (some (e : Int)))).take (HT.sIx (as.map V.ref).length _ none - _) = _
            rw [HT.sIx_nat, HT.sIx_none, List.length_map, Nat.min_eq_left al, List.take_of_length_le, ← List.map_drop]
            rw [List.length_drop, List.length_map]
            omega
          refine sx_asgN 6 (n := rfl) (Ev.to (ev_cat (xs := (as.take e).map V.ref ++ [V.ref rw_]) (ys := (as.drop e).map V.ref) (Ev.nA (ev_cat (xs := (as.take e).map V.ref) (ys := [V.ref rw_]) (by rw [← c1]; exact (ev_cut ((ev_var 6 rfl).qL (SqL.of q1)) eo_none (eo_some (ev_var 12 rfl))).nA) (ev_lst (vs := [V.ref rw_]) (ea_cons (ev_var 14 rfl) ea_nil) (by show 1 ≤ sizeLine; omega)).nA ?_)) (by rw [← c2]; exact (ev_cut ((ev_var 6 rfl).qL (SqL.of q1)) (eo_some (ev_var 12 rfl)) eo_none).nA) ?_) fun v H2 d2 h => h) fun r2 fr2 => ?_
          · rw [List.length_map, List.length_take]
            show _ + 1 ≤ _
            omega
          · rw [List.length_append, List.length_map, List.length_map, List.length_take, List.length_drop]
            show _ + 1 + _ ≤ _
            omega
          · have e3 : (as.take e).map V.ref ++ [V.ref rw_] ++ (as.drop e).map V.ref = (as.take e ++ [rw_] ++ as.drop e).map V.ref := by
              rw [List.map_append, List.map_append]
              rfl
            rw [e3]
            refine sx_nil fun H6b d6 => ⟨_, d6, (((xB.trans x2).trans x9).trans xe).trans (x10.trans (Z.Ex.new fr2)), _, r2, _, _, _, _, _, _, _, _, _, rfl, gN, as.take e ++ [rw_] ++ as.drop e, upd_same, ?_, fun i a d h1 h2 => ?_⟩
            · simp only [List.length_append, List.length_take, List.length_drop, List.length_cons, List.length_nil]
              omega
            · refine (Z.Ex.new fr2).get ?_
              rcases Nat.lt_trichotomy i e with w | w | w
              · rw [ins_lt al w] at h1
                rw [ins_lt he2 w] at h2
                exact q3 i a d h1 h2
              · subst w
                rw [ins_eq al] at h1
                rw [ins_eq he2] at h2
                rw [← Option.some.inj h1, ← Option.some.inj h2]
                exact hrw
              · rw [ins_gt al w] at h1
                rw [ins_gt he2 w] at h2
                exact q3 (i - 1) a d h1 h2
  · rintro σ B ⟨xB, rows, r, v7, v8, v9, v10, v11, v12, v13, v14, v15, rfl, g, hR⟩
    exact sx_ret (ev_var 6 rfl) fun v H2 d2 p2 => by
      have p2 : v = .ref r := p2
      rw [p2]
      exact q rows r H2 (g.good (by omega)) (hR.up d2) ((xH.trans xB).trans d2)
end
end K24
set_option Elab.async false
set_option linter.all false
set_option maxRecDepth 100000
set_option maxHeartbeats 1000000
/-! The law. -/
namespace Z
open PySem PySem.Spec PyProof.Rows L2
section
variable {X : Cx} {σ : L2.St} {B : Hp} {D : Ends} {rest s1 : List Stmt} {a b d : Expr} {p1 p2 p3 pos : Pos}
theorem sE_imp {e : Expr} {H : Hp} {Q Q' : VK} (h : sE X e σ H Q) (k : ∀ v H2, Q v H2 → Q' v H2) : sE X e σ H Q' := fun pins s I => thn (h pins s I) fun u s1 ⟨x, H1, I1, r, q⟩ => ⟨x, H1, I1, r, k _ _ q⟩
/-- if a != b or not d: .., a and b changing things, equal, d true -/
theorem sx_ifNeOr (k : ∀ H, Ex B H → sE X a σ H fun x H1 => sE X b σ H1 fun y H2 => x = y ∧ scal x y = true ∧ EvT X d σ H2 true ∧ SX X rest D σ H2) (hm : behindInMarks .NotEq b = false := by exact nobehind _ (by decide) (by decide)) :
    SX X (.If (.BoolOp .Or [.Compare a [.NotEq] [b] p1, .UnaryOp .Not d p2] p3) s1 [] pos :: rest) D σ B := by
  refine sx_step (ps_if (pw_or (pt_cmpR op_ne (pe_s a) (pe_s b) hm) (pw_or1 (pt_not (pt_s d)))).pt (ps_s s1) (ps_s [])) fun H dd => ?_
  refine sE_imp (k H dd) fun x H1 z => sE_imp z fun y H2 ⟨e1, e2, e3, e4⟩ => ?_
  subst e1
  refine ⟨e2, false, by rw [decide_eq_true rfl]; rfl, iteF ?_⟩
  refine e3 H2 (Ex.refl H2) _ fun H3 d3 => ?_
  exact iteF (sx_nil (fun H4 d4 => e4 H4 (d3.trans d4)) H3 (Ex.refl H3))
/-- xs.append(e), whatever e does elsewhere -/
theorem sx_appE {σ : L2.St} {e : Expr} {pos : Pos} {o : Expr} {l : Addr} {xs : List V} {apos cpos : Pos} (ho : Ev X o σ B (isV (.ref l))) (hl : B l = some (.lst xs)) (k : ∀ H, Ex B H → sE X e σ H fun v H2 => ∃ ys, H2 l = some (.lst ys) ∧ ys.length < 100000 ∧ sS X rest D σ (upd H2 l (.lst (ys ++ [v]))))
    (hbase : attributeBase o "append" X.env (eval o X.env) = eval o X.env := by rfl)
    (hfew : ((backTo cpos (starEach [e] X.env)).all (fun x => !x.1) && (backToKw cpos (keywordEach [] X.env)).all (fun x => x.1.isSome)
      && decide ([e].length + ([] : List Keyword).length + (if ([] : List Keyword).isEmpty then 0 else 1) < 30)) = true := by rfl)
    (hline : (apos.endLine == cpos.line) = true := by rfl) (hs : starEach [e] X.env = (false, eval e X.env) :: starEach [] X.env := by rfl) (hplain : (backTo cpos (starEach [] X.env)).any (·.1) = false := by rfl)
    (hsw : swapsWith (.Call (.Attribute o "append" apos) [e] [] cpos) none pos.line X.env = pure false := by rfl) :
    SX X (.Expr (.Call (.Attribute o "append" apos) [e] [] cpos) pos :: rest) D σ B :=
  sx_step (ps_expr (pe_bm PySem.F.plainAttrs_list PySem.F.slot_list_append PySem.F.type_list_append mt_append (pe_s o) (pa_cons (pe_s e) pa_nil hs) hbase hfew hline hs hplain) hsw) fun H d =>
    ho H d _ fun u H2 d2 p2 => by
      have p2 : u = .ref l := p2
      subst p2
      refine ⟨Or.inl ⟨rfl, xs, SqL.of ((d.trans d2).get hl)⟩, sE_imp (k H2 (d.trans d2)) fun w H3 ⟨ys, h1, h2, h3⟩ => ?_⟩
      exact ⟨l, ys, w, rfl, rfl, h1, Nat.lt_of_lt_of_le h2 (by decide), h3⟩
theorem sE_ev {H : Hp} {S : VS} {Q : VK} (h : Ev X a σ H S) (k : ∀ v H2, Ex H H2 → S.P H2 v → Q v H2) : sE X a σ H Q := h H (Ex.refl H) Q k
theorem sE_andT {H : Hp} {Q : VK} (h : Ev X a σ B (isV (.bl true))) (d : Ex B H) (k : ∀ H2, Ex H H2 → sE X b σ H2 Q) : sE X (.BoolOp .And [a, b] pos) σ H Q := fun pins s I =>
  (pe_and (pe_s a) (pe_one (pe_s b))).run pins s σ H Q I (h H d _ fun u H2 d2 p => ⟨true, p, iteT (k H2 d2)⟩)
theorem sE_eq {H : Hp} {Q : VK} (h : sE X a σ H fun x H1 => sE X b σ H1 fun y H2 => scal x y = true ∧ Q (.bl (decide (x = y))) H2) (hm : behindInMarks .Eq b = false := by exact nobehind _ (by decide) (by decide)) : sE X (.Compare a [.Eq] [b] pos) σ H Q := fun pins s I =>
  (pe_cmpR op_eq (pe_s a) (pe_s b) hm).run pins s σ H Q I h
theorem sE_lst1 {H : Hp} {Q : VK} (h : sE X a σ H fun v H2 => ∀ p, H2 p = none → Q (.ref p) (upd H2 p (.lst [v]))) (hs : starEach [a] X.env = (false, eval a X.env) :: starEach [] X.env := by rfl) : sE X (.List [a] pos) σ H Q := fun pins s I =>
  (pe_lst (pa_cons (pe_s a) pa_nil hs)).run pins s σ H Q I (sE_imp h fun v H2 k => ⟨show 1 ≤ sizeLine by decide, k⟩)
end
end Z
namespace K24
open PySem PySem.Spec PyProof.Rows L2 Z
def wordsL : List PySem.Str := ["next_item", "previous_item", "first_item", "last_item", "next_item"]
theorem sq_exc {K : PySem.W.Frag} {F : Addr → Prop} {H H2 : Hp} {a : Addr} {xs : List V} (e : Exc F H H2) (m : Mus F H) (h : SqL K H a xs) : SqL K H2 a xs := by
  rcases h with (h | ⟨o, h⟩) | h
  · exact Or.inl (Or.inl (keepE e m h rfl))
  · exact Or.inl (Or.inr ⟨o, keepE e m h rfl⟩)
  · exact Or.inr h
/-! ### movements from the first member to the last -/
theorem ix_nd {n : PySem.Str} : ∀ {xs : List PySem.Str} {i : Nat}, xs.Nodup → xs[i]? = some n → ix xs n = i
  | [], i, _, h => by cases h
  | a :: r, 0, _, h => by
    have e : a = n := Option.some.inj h
    unfold ix
    rw [if_pos e]
  | a :: r, i + 1, nd, h => by
    have nd2 := List.nodup_cons.mp nd
    have h : r[i]? = some n := h
    have ne : ¬ a = n := fun z => nd2.1 (by
      rw [z]
      exact List.mem_of_getElem? h)
    unfold ix
    rw [if_neg ne, ix_nd nd2.2 h]
theorem membs_nd {T : List Nd} (wf : WF T) (x : PySem.Str) : (membs T x).Nodup := (wf.nd.filter _).filter _
section
variable {T : List Nd} {n x y : PySem.Str}
theorem mov_first (hc : compOf T n = some x) (hy : (membs T x)[0]? = some y) : movedF T n .first = y := by
  unfold movedF
  rw [hc]
  show ((membs T x)[0]?).getD n = y
  rw [hy]
  rfl
theorem mov_last (hc : compOf T n = some x) (hy : (membs T x)[(membs T x).length - 1]? = some y) : movedF T n .last = y := by
  unfold movedF
  rw [hc]
  show ((membs T x)[(membs T x).length - 1]?).getD n = y
  rw [hy]
  rfl
theorem mov_next {i : Nat} (hc : compOf T n = some x) (nd : (membs T x).Nodup) (hi : (membs T x)[i]? = some n) (hy : (membs T x)[i + 1]? = some y) : movedF T n .next = y := by
  have lt := (List.getElem?_eq_some_iff.mp hy).1
  unfold movedF
  rw [hc]
  show ((membs T x)[(wrapI (circB T x) ((ix (membs T x) n : Int) + 1) ((membs T x).length : Int)).toNat]?).getD n = y
  have e : (wrapI (circB T x) ((i : Int) + 1) ((membs T x).length : Int)).toNat = i + 1 := by
    unfold wrapI
    split
    · rw [Int.emod_eq_of_lt (by omega) (by omega)]
      omega
    · split <;> split <;> omega
  rw [ix_nd nd hi, e, hy]
  rfl
end
/-- a deed that the law makes -/
def deedS : VS := ⟨fun H v => ∃ dd D, v = .ref dd ∧ H dd = some (.tup (ddV D)) ∧ ddOk D, fun e ⟨dd, D, h1, h2, h3⟩ => ⟨dd, D, h1, e.get h2, h3⟩⟩
theorem word_at (z : Int) : ∃ m, atI (sV wordsL) (z % 5) = some (.str (mvL m)) := by
  have q0 := Int.emod_nonneg z (show (5 : Int) ≠ 0 by decide)
  have q1 := Int.emod_lt_of_pos z (show (0 : Int) < 5 by decide)
  have q2 : z % 5 = ((0 : Nat) : Int) ∨ z % 5 = ((1 : Nat) : Int) ∨ z % 5 = ((2 : Nat) : Int) ∨ z % 5 = ((3 : Nat) : Int) ∨ z % 5 = ((4 : Nat) : Int) := by omega
  rcases q2 with e | e | e | e | e
  · exact ⟨.next, by rw [e]; exact atI_nat (j := 0) rfl⟩
  · exact ⟨.prev, by rw [e]; exact atI_nat (j := 1) rfl⟩
  · exact ⟨.first, by rw [e]; exact atI_nat (j := 2) rfl⟩
  · exact ⟨.last, by rw [e]; exact atI_nat (j := 3) rfl⟩
  · exact ⟨.next, by rw [e]; exact atI_nat (j := 4) rfl⟩
theorem txt_at (z : Int) : ∃ x, x ∈ textsL ∧ atI (sV textsL) (z % 9) = some (.str x) := by
  have q0 := Int.emod_nonneg z (show (9 : Int) ≠ 0 by decide)
  have q1 := Int.emod_lt_of_pos z (show (0 : Int) < 9 by decide)
  have lt : (z % 9).toNat < textsL.length := by
    show (z % 9).toNat < 9
    omega
  exact ⟨textsL[(z % 9).toNat], List.getElem_mem lt, atI_sV (Int.toNat_of_nonneg q0).symm (List.getElem?_eq_getElem lt)⟩
theorem Rv.step {T : List Nd} {cur : Option PySem.Str} {rov : List (L2.Key × V)} (h : Rv T cur rov) (D : Dd) : Rv T (stepD T (cur, rov) D).1 (stepD T (cur, rov) D).2 := by
  cases e : hasC T cur with
  | false =>
    cases D with
    | mv m =>
      show Rv T (movS T (cur, rov) m).1 (movS T (cur, rov) m).2
      rw [movS_no e]
      exact h
    | tx x =>
      show Rv T (typS T (cur, rov) x).1 (typS T (cur, rov) x).2
      rw [typS_no e]
      exact h
  | true =>
    obtain ⟨n, c, rfl, hc⟩ := hasC_some e
    cases D with
    | mv m =>
      show Rv T (movS T (some n, rov) m).1 (movS T (some n, rov) m).2
      rw [movS_yes hc]
      exact Rv.mk _ _ _
    | tx x =>
      show Rv T (typS T (some n, rov) x).1 (typS T (some n, rov) x).2
      rw [typS_yes hc]
      exact Rv.mk _ _ _
theorem Tx.step {T : List Nd} {cur : Option PySem.Str} {rov : List (L2.Key × V)} (h : Tx rov) (D : Dd) : Tx (stepD T (cur, rov) D).2 := by
  cases e : hasC T cur with
  | false =>
    cases D with
    | mv m =>
      show Tx (movS T (cur, rov) m).2
      rw [movS_no e]
      exact h
    | tx x =>
      show Tx (typS T (cur, rov) x).2
      rw [typS_no e]
      exact h
  | true =>
    obtain ⟨n, c, rfl, hc⟩ := hasC_some e
    cases D with
    | mv m =>
      show Tx (movS T (some n, rov) m).2
      rw [movS_yes hc]
      exact h.rovP _ _
    | tx x =>
      show Tx (typS T (some n, rov) x).2
      rw [typS_yes hc]
      exact h.rovP _ _
section
variable {K : PySem.W.Frag}
/-- a list of names grows: what the manager tells is kept -/
theorem TurnAt.app {H : Hp} {a fl : Addr} {xs ys : List PySem.Str} (hf : H fl = some (.lst (sV xs))) (ok : okS ys) (h : TurnAt K H a) : TurnAt K (upd H fl (.lst (sV ys))) a := by
  obtain ⟨dx, b, e, st, bs, es, h1, h2, h3, o1, o2⟩ := h
  have n1 : a ≠ fl := fun z => by
    rw [z, hf] at h1
    cases h1
  have names : ∀ (b : Addr) (bs : List PySem.Str), H b = some (.lst (sV bs)) → okS bs → ∃ bs2, (upd H fl (.lst (sV ys))) b = some (.lst (sV bs2)) ∧ okS bs2 := fun b bs hb o => by
    by_cases z : b = fl
    · rw [z]
      exact ⟨ys, upd_same, ok⟩
    · exact ⟨bs, by rw [upd_ne z]; exact hb, o⟩
  obtain ⟨bs2, h2, o1⟩ := names b bs h2 o1
  obtain ⟨es2, h3, o2⟩ := names e es h3 o2
  exact ⟨dx, b, e, st, bs2, es2, by rw [upd_ne n1]; exact h1, h2, h3, o1, o2⟩
theorem AnnAt.app {H : Hp} {an fl : Addr} {xs ys : List PySem.Str} (hf : H fl = some (.lst (sV xs))) (ne : xs ≠ []) (ok : okS ys) (h : AnnAt K H an) : AnnAt K (upd H fl (.lst (sV ys))) an := by
  obtain ⟨ax, r, l, zs, last, h1, h2, h3, h4, h5, h6⟩ := h
  have n1 : an ≠ fl := fun z => by
    rw [z, hf] at h1
    cases h1
  have n2 : r ≠ fl := fun z => by
    rw [z, hf] at h2
    have h2 : sV xs = zs := by
      injection h2 with h2
      injection h2
    cases xs with
    | nil => exact ne rfl
    | cons x t =>
      obtain ⟨a, ea, _⟩ := h4 (.str x) (by
        rw [← h2]
        exact List.mem_cons_self)
      cases ea
  have t4 : TurnsIn K (upd H fl (.lst (sV ys))) zs := fun y hy => by
    obtain ⟨a, e, t⟩ := h4 y hy
    exact ⟨a, e, t.app hf ok⟩
  by_cases z : l = fl
  · exact ⟨ax, r, l, zs, ys, by rw [upd_ne n1]; exact h1, by rw [upd_ne n2]; exact h2, h3, t4, by rw [z]; exact upd_same, ok⟩
  · exact ⟨ax, r, l, zs, last, by rw [upd_ne n1]; exact h1, by rw [upd_ne n2]; exact h2, h3, t4, by rw [upd_ne z]; exact h5, h6⟩
theorem MgrAt.app {H0 H : Hp} {A : Ad} {T : List Nd} {c0 cur : Option PySem.Str} {r0 rov : List (L2.Key × V)} {fl : Addr} {xs ys : List PySem.Str} (h0 : MgrAt K H0 A T c0 r0) (f0 : H0 fl = none) (e : Exc (Mf A) H0 H) (h : MgrAt K H A T cur rov)
    (hf : H fl = some (.lst (sV xs))) (ne : xs ≠ []) (ok : okS ys) : MgrAt K (upd H fl (.lst (sV ys))) A T cur rov := by
  have e2 : Exc (Mf A) H0 (upd H fl (.lst (sV ys))) := e.mut f0
  obtain ⟨mx, km, wt, h1⟩ := h.mm
  obtain ⟨lx, h2⟩ := h.lay.ll
  have n1 : A.m ≠ fl := fun z => by
    rw [z, hf] at h1
    cases h1
  have n2 : A.ly ≠ fl := fun z => by
    rw [z, hf] at h2
    cases h2
  have n3 : A.cu ≠ fl := fun z => by
    have h3 := h.lay.cu
    rw [z, hf] at h3
    cases h3
  have n4 : A.ro ≠ fl := fun z => by
    have h3 := h.lay.ro
    rw [z, hf] at h3
    cases h3
  exact ⟨⟨mx, km, wt, by rw [upd_ne n1]; exact h1⟩, ⟨⟨lx, by rw [upd_ne n2]; exact h2⟩, keepE e2 h0.mus h0.lay.sk rfl, by rw [upd_ne n3]; exact h.lay.cu, by rw [upd_ne n4]; exact h.lay.ro, h.lay.ne, h0.lay.tr.exc e2 h0.mus, h.lay.ci, h.lay.rm, h.lay.rl⟩, h.ann.app hf ne ok, h.nm, h.cb⟩
end
section
variable {P : Program} {w : World} {K : PySem.W.Frag} {mg : PySem.Str → Option Value} {base : Heap}
/-- the last round: all members are visited from the first one on -/
theorem law_end (c : Says K mg base) {cdv : Value} {A0 : Around} {outer : List Env} {s : Shared} {H : Hp} {E : XK} {Q : VK} (hr : Room 22 (A0.deeper (envOfC "law" (defScope b_law) s.heap.objs.size (He.ga K "law") cdv))) (q : ∀ H', Q (.bl true) H')
    {Hb B : Hp} {A : Ad} {L : La} {T : List Nd} {cur : Option PySem.Str} {rov : List (L2.Key × V)} {v0 v1 v4 v5 v6 v7 v8 v9 v10 v11 v12 : Option V} (hM : MgrAt K B A T cur rov) (hL : LS Hb B L T cur rov) :
    SX (cxN P w K mg base n_law "law" (defScope b_law) (He.ga K "law") cdv A0 outer s H E) ((defBody b_law).drop 8) (endsOf Q) [v0, v1, some (.ref A.m), some (.ref L.s), v4, v5, v6, v7, v8, v9, v10, v11, v12] B := by
  have S := sc_law
  have wf := hL.wf
  refine sx_asgV 5 (ev_mg (mt_mfocused c) hr (by decide) hM (ev_var 2 rfl)) ?_
  cases cur with
  | none =>
    exact sx_yes (EvT.to (ew_or (w := false) (et_isN (ev_var 5 rfl)) fun z => by cases z).t rfl) (sx_ret ev_bool fun v H2 d2 p2 => by
      have p2 : v = .bl true := p2
      rw [p2]
      exact q H2)
  | some n =>
    obtain ⟨d, hd, rfl⟩ := hL.ci n rfl
    have hi := hM.cb _ rfl
    cases hc : compOf T d.name with
    | none =>
      refine sx_yes (EvT.to (ew_or (et_isN (ev_var 5 rfl)) fun _ => ew_or1 (et_isN (ev_cl (fc_law_composite c) hr (by decide) hL.ltr hd (ev_stree hr hL (ev_var 3 rfl)) (ev_var 5 rfl)))).t ?_) (sx_ret ev_bool fun v H2 d2 p2 => by
        have p2 : v = .bl true := p2
        rw [p2]
        exact q H2)
      rw [hc]
      rfl
    | some x =>
      obtain ⟨path, b⟩ := hL.bt
      obtain ⟨hl, hm⟩ := comp_lay b hi hc
      obtain ⟨cx, hcx, rfl⟩ := comp_node wf hd hc
      refine sx_no (EvT.to (ew_or (et_isN (ev_var 5 rfl)) fun _ => ew_or1 (et_isN (ev_cl (fc_law_composite c) hr (by decide) hL.ltr hd (ev_stree hr hL (ev_var 3 rfl)) (ev_var 5 rfl)))).t (by rw [hc]; rfl)) ?_
      refine sx_asgN 11 (ev_cll (fc_law_members c) hr (by decide) hL.ltr ⟨cx, hcx, rfl⟩ (ev_stree hr hL (ev_var 3 rfl)) (Ev.to (ev_cl (fc_law_composite c) hr (by decide) hL.ltr hd (ev_stree hr hL (ev_var 3 rfl)) (ev_var 5 rfl)) fun v H2 d2 z => by
        have z : v = oV (compOf T d.name) := z
        rw [z, hc]
        rfl)) fun rl fr => ?_
      have x0 : Z.Ex B (upd B rl (.lst (sV (membs T cx.name)))) := Z.Ex.new fr
      have hrl : (upd B rl (.lst (sV (membs T cx.name)))) rl = some (.lst (sV (membs T cx.name))) := upd_same
      generalize upd B rl (.lst (sV (membs T cx.name))) = B1 at x0 hrl
      have hM1 := hM.up x0
      have nd := membs_nd wf cx.name
      have l60 := membs_len (L := cx.name) hL.len
      have l0 : 0 < (membs T cx.name).length := List.length_pos_of_mem hm
      have okM : okS (membs T cx.name) := fun y hy => by
        obtain ⟨yd, hyd, e⟩ := membs_in hy
        rw [← e]
        exact name_lay yd.name (hM.nm yd hyd).1
      have kin : ∀ {i : Nat} {y : PySem.Str}, (membs T cx.name)[i]? = some y → compOf T y = some cx.name := fun h => (membs_items hl (List.mem_of_getElem? h)).2
      generalize hms : membs T cx.name = ms at *
      obtain ⟨y0, hy0⟩ : ∃ y, ms[0]? = some y := ⟨_, List.getElem?_eq_getElem l0⟩
      have m0 := movS_yes (rov := rov) hc .first
      rw [mov_first hc (by rw [hms]; exact hy0)] at m0
      refine sx_asgE 12 fun H1 y1 => sE_lst1 ?_
      obtain ⟨mx, km, wt, h1⟩ := hM1.mm
      refine sE_meth0 (mt_first_item c) hr (by decide) (ev_var 2 rfl) h1 rfl y1 fun H2 y2 => ?_
      have hM2 := hM1.up (y1.trans y2)
      refine ⟨A, T, _, _, rfl, hM2, fun H3 hM3 e3 => ?_⟩
      rw [m0] at hM3 ⊢
      have hM3 : MgrAt K H3 A T (some y0) (rovP T rov y0) := hM3
      intro fl f0
      refine sS_of ?_
      have hrl3 := keepE e3 hM2.mus ((y1.trans y2).get hrl) rfl
      have xf : Z.Ex H3 (upd H3 fl (.lst [.str y0])) := Z.Ex.new f0
      have hfl : (upd H3 fl (.lst [.str y0])) fl = some (.lst (sV (ms.take 1))) := by
        rw [upd_same]
        cases ms with
        | nil => cases hy0
        | cons a r =>
          have e : a = y0 := Option.some.inj hy0
          rw [← e]
          rfl
      refine (show SX _ _ _ _ (upd H3 fl (.lst [.str y0])) from ?_)
      have hM4 := hM3.up xf
      have hrl4 := xf.get hrl3
      have e4 : Exc (Mf A) H3 (upd H3 fl (.lst [.str y0])) := xf.exc
      generalize upd H3 fl (.lst [.str y0]) = B4 at xf hfl hM4 hrl4 e4
      refine sx_range 8 (free_range c) (ev_sub (Ev.to (ev_lenL (free_len c) ((ev_var 11 rfl).qL (SqL.of hrl4))) fun v H d z => by rw [len_of_sV] at z; exact z) ev_int) ⟨by omega, by omega⟩
        (fun i σ B => ∃ rov y v8, σ = [v0, v1, some (.ref A.m), some (.ref L.s), v4, some (.str d.name), v6, v7, v8, v9, v10, some (.ref rl), some (.ref fl)] ∧ MgrAt K B A T (some y) rov ∧ Exc (Mf A) H3 B ∧ ms[i]? = some y ∧ B rl = some (.lst (sV ms)) ∧ B fl = some (.lst (sV (ms.take (i + 1)))))
        (fun B' dd => ⟨rovP T rov y0, y0, v8, rfl, hM4.up dd, e4.trans dd.exc, hy0, dd.get hrl4, dd.get hfl⟩) ?_ ?_
      · rintro i σ B hi ⟨rov, y, v8, rfl, hM, eB, hy, hrl, hfl⟩
        have lt : i + 1 < ms.length := by omega
        obtain ⟨y', hy'⟩ : ∃ y, ms[i + 1]? = some y := ⟨_, List.getElem?_eq_getElem lt⟩
        have m1 := movS_yes (rov := rov) (kin hy) .next
        rw [mov_next (kin hy) (by rw [hms]; exact nd) (by rw [hms]; exact hy) (by rw [hms]; exact hy')] at m1
        refine sx_appE (ev_var 12 rfl) hfl fun H1 y1 => ?_
        obtain ⟨mx, km, wt, h1⟩ := hM.mm
        refine sE_meth0 (mt_next_item c) hr (by decide) (ev_var 2 rfl) h1 rfl y1 fun H2 y2 => ?_
        have hM2 := hM.up (y1.trans y2)
        refine ⟨A, T, _, _, rfl, hM2, fun H5 hM5 e5 => ?_⟩
        rw [m1] at hM5 ⊢
        have hM5 : MgrAt K H5 A T (some y') (rovP T rov y') := hM5
        have hfl5 := keepE e5 hM2.mus ((y1.trans y2).get hfl) rfl
        have hrl5 := keepE e5 hM2.mus ((y1.trans y2).get hrl) rfl
        have e35 : Exc (Mf A) H3 H5 := (eB.trans (y1.trans y2).exc).trans e5
        refine ⟨_, hfl5, by rw [len_of_sV, List.length_take]; omega, ?_⟩
        have et : sV (ms.take (i + 1)) ++ [oV (some y')] = sV (ms.take (i + 1 + 1)) := by
          rw [take_snoc hy', sV_snoc]
        rw [show (sV (ms.take (i + 1)) ++ [oV (some y', rovP T rov y').1]) = sV (ms.take (i + 1 + 1)) from et]
        have tne : ms.take (i + 1) ≠ [] := fun z => by
          have z2 := congrArg List.length z
          rw [List.length_take] at z2
          have z2 : min (i + 1) ms.length = 0 := z2
          omega
        have tok : okS (ms.take (i + 1 + 1)) := fun z hz => okM z (List.mem_of_mem_take hz)
        refine sS_of (sx_nil fun H6 d6 => ⟨_, d6, rovP T rov y', y', _, rfl, MgrAt.app hM3 f0 e35 hM5 hfl5 tne tok, e35.mut f0, hy', ?_, upd_same⟩)
        rw [upd_ne fun z => by rw [z] at hrl3; rw [hrl3] at f0; cases f0]
        exact hrl5
      · rintro σ B ⟨rov, y, v8, rfl, hM, eB, hy, hrl, hfl⟩
        have en : ((ms.length : Int) - 1).toNat = ms.length - 1 := by omega
        rw [en] at hy hfl
        rw [show ms.length - 1 + 1 = ms.length by omega, List.take_length] at hfl
        have m1 := movS_yes (rov := rov) (kin hy) .last
        rw [mov_last (kin hy) (by rw [hms]; exact hy)] at m1
        refine sx_retE fun H1 y1 => sE_andT (B := B) (ev_cmp (op_eqD hr.units) ((ev_var 12 rfl).qL (SqL.of hfl)) ((ev_var 11 rfl).qL (SqL.of hrl)) fun x y H d ⟨p, e1, h1⟩ ⟨p2, e2, h2⟩ Q q2 => ?_) y1 fun H2 y2 => sE_eq ?_
        · subst e1 e2
          refine ⟨_, _, dp_names h1, dp_names h2, shaped_names okM, shaped_names okM, ?_⟩
          rw [eqv_names]
          exact ev_ret q2
        · obtain ⟨mx, km, wt, h1⟩ := hM.mm
          refine sE_meth0 (mt_last_item c) hr (by decide) (ev_var 2 rfl) h1 rfl (y1.trans y2) fun H5 y5 => ?_
          have hM5 := hM.up ((y1.trans y2).trans y5)
          refine ⟨A, T, _, _, rfl, hM5, fun H6 hM6 e6 => ?_⟩
          rw [m1]
          have hrl6 := keepE e6 hM5.mus (((y1.trans y2).trans y5).get hrl) rfl
          refine sE_ev (ev_ixL (v := .str y) ((ev_var 11 rfl).qL (SqL.of hrl6)) ev_negc (atI_neg1 ?_)) fun v H7 d7 p7 => ?_
          · rw [len_of_sV, List.getElem?_map, hy]
            rfl
          · have p7 : v = .str y := p7
            rw [p7]
            refine ⟨rfl, ?_⟩
            rw [show decide (oV (some y, rovP T rov y).1 = V.str y) = true from decide_eq_true rfl]
            exact q H7
end
end K24
set_option Elab.async false
set_option linter.all false
set_option maxRecDepth 100000
set_option maxHeartbeats 1000000
/-! The law. -/
namespace K24
open PySem PySem.Spec PyProof.Rows L2 Z
section
variable {P : Program} {w : World} {K : PySem.W.Frag} {mg : PySem.Str → Option Value} {base : Heap}
def spLaw (K : PySem.W.Frag) : Sp := fun vs H Q _ => ∃ sc ns, vs = [.ref sc] ∧ TabsOn K H ∧ SqL K H sc ((ns : List Int).map V.int) ∧ ∀ H', Q (.bl true) H'
theorem law_body (c : Says K mg base) : BodyOf P w K mg base b_law 22 n_law "law" (He.ga K "law") (spLaw K) := by
  rintro cdv A0 outer s H vs Q E hr ⟨sc, ns, rfl, hT, hs, q⟩
  have S := sc_law
  have big : 1000 ≤ sizeLine := by decide
  refine sx_asgE 1 fun H1 y1 => ?_
  refine sE_call (fc_law_rows c) hr (by decide) (ea_cons (ev_var 0 rfl) (ea_cons (ev_int (i := 0)) (ea_cons (ev_int (i := 20)) ea_nil))) y1 fun vs H2 d2 p2 => ?_
  obtain ⟨_, _, rfl, rfl, _, _, rfl, rfl, _, _, rfl, rfl, rfl⟩ := p2
  refine ⟨sc, ns, rfl, (y1.trans d2).seqL hs, fun rows r H3 g hR x3 => ?_⟩
  have xH : Z.Ex H H3 := (y1.trans d2).trans x3
  refine sS_of ?_
  refine sx_asgE 2 fun H4 y4 => ?_
  refine sE_make (mk_Manager c) hr (by decide) (args1 (v := .str (textOf rows)) (ev_call (fc_law_outline c) hr (by decide) (args1 (ev_var 1 rfl)) (fun vs H d2 p2 Q q => by
    rw [p2.vals]
    exact ⟨r, rows, rfl, hR.up d2, g, q⟩))) y4 fun vs H5 d5 p5 b dx n1 n2 n3 => ?_
  rw [p5.vals]
  have xL : Z.Ex H5 (upd (upd H5 dx (.own b)) b (.ins (He.ga K "Manager") dx [])) := (Z.Ex.new n2).mut n1
  refine ⟨b, dx, rows, rfl, upd_same, g, hT.up ((xH.trans (y4.trans d5)).trans xL), text_len g, fun A H6 a1 hM fcu fro fan e6 => ⟨rfl, ?_⟩⟩
  have x6 : Z.Ex H3 H6 := (y4.trans d5).trans (Exc.low xL e6 fun q z => by rw [z]; exact n1)
  subst a1
  refine sS_of ?_
  refine sx_asgE 3 fun H7 y7 => ?_
  refine sE_call (fc_law_begun c) hr (by decide) (args1 (ev_var 1 rfl)) y7 fun vs H8 d8 p8 => ?_
  rw [p8.vals]
  have hM8 := hM.up (y7.trans d8)
  refine ⟨r, rows, rfl, (hR.up x6).up (y7.trans d8), g, fun L H9 x9 hL => ?_⟩
  have kn : Kn H8 A := fun q hq => by
    rcases hq with z | z
    · exact hM8.known z
    · obtain ⟨lx, h1⟩ := hM8.lay.ll
      rw [z, h1]
      simp
  have hM9 := hM8.up x9
  have hs9 : SqL K H9 sc (ns.map V.int) := ((x6.trans (y7.trans d8)).trans x9).seqL (xH.seqL hs)
  refine sS_of ?_
  have bt := hL.bt
  have nm := g.nm
  have tx0 : Tx (rovI (rdg rows).1 (outsOf (rdg rows).1)) := Tx.rovI _ _
  generalize (rdg rows).1 = T at *
  refine sx_asgN 4 (ev_cll (fc_law_items c) hr (by decide) hL.ltr trivial (ev_stree hr hL (ev_var 3 rfl)) ev_str) fun l fl => ?_
  have x10 : Z.Ex H9 (upd H9 l (.lst (sV (itemsOf T "root")))) := Z.Ex.new fl
  have hl : (upd H9 l (.lst (sV (itemsOf T "root")))) l = some (.lst (sV (itemsOf T "root"))) := upd_same
  generalize upd H9 l (.lst (sV (itemsOf T "root"))) = B at x10 hl
  have hMB := hM9.up x10
  have hLB := hL.up x10
  have hsB := x10.seqL hs9
  have cont : ∀ (cur : Option PySem.Str) (rov : List (L2.Key × V)) (B : Hp) (v5 : Option V), MgrAt K B A T cur rov → LS H8 B L T cur rov → Rv T cur rov → Tx rov → SqL K B sc (ns.map V.int) →
      SX (cxN P w K mg base n_law "law" (defScope b_law) (He.ga K "law") cdv A0 outer s H E) ((defBody b_law).drop 5) (endsOf Q) [some (.ref sc), some (.ref r), some (.ref A.m), some (.ref L.s), some (.ref l), v5, none, none, none, none, none, none, none] B := by
    intro cur rov B v5 hM hL rv tx hs
    refine sx_asgStrs 6 (ns := wordsL) ?_ ?_ ?_ ?_ ?_ ?_ ?_ ?_
    · rfl
    · decide
    rotate_left
    · rfl
    · exact S.nd
    · rfl
    · exact Or.inl rfl
    · exact .inl rfl
    intro wl fw
    have xw : Z.Ex B (upd B wl (.lst (wordsL.map V.str))) := Z.Ex.new fw
    have hw : (upd B wl (.lst (wordsL.map V.str))) wl = some (.lst (sV wordsL)) := upd_same
    generalize upd B wl (.lst (wordsL.map V.str)) = B1 at xw hw
    refine sx_asgStrs 7 (ns := textsL) ?_ ?_ ?_ ?_ ?_ ?_ ?_ ?_
    · rfl
    · decide
    rotate_left
    · rfl
    · exact S.nd
    · rfl
    · exact Or.inl rfl
    · exact .inl rfl
    intro tl ft
    have xt : Z.Ex B1 (upd B1 tl (.lst (textsL.map V.str))) := Z.Ex.new ft
    have ht : (upd B1 tl (.lst (textsL.map V.str))) tl = some (.lst (sV textsL)) := upd_same
    generalize upd B1 tl (.lst (textsL.map V.str)) = B2 at xt ht
    have hw2 := xt.get hw
    have hM2 := hM.up (xw.trans xt)
    have hL2 := hL.up (xw.trans xt)
    have hs2 := (xw.trans xt).seqL hs
    have q0 := Int.emod_nonneg (cellI ns 4) (show (31 : Int) ≠ 0 by decide)
    have q1 := Int.emod_lt_of_pos (cellI ns 4) (show (0 : Int) < 31 by decide)
    clear hM hL hs hw xw xt
    refine sx_range 8 (free_range c) (ev_mod (ev_cell (k := 4) c hr (by decide) hs2 (ev_var 0 rfl) (ev_int (i := 4)) (fc_law_cell c)) ev_int (by decide)) ⟨by omega, by omega⟩
      (fun i σ B => ∃ cur rov v8 v9 v10, σ = [some (.ref sc), some (.ref r), some (.ref A.m), some (.ref L.s), some (.ref l), v5, some (.ref wl), some (.ref tl), v8, v9, v10, none, none] ∧ MgrAt K B A T cur rov ∧ LS H8 B L T cur rov ∧ Rv T cur rov ∧ Tx rov ∧ SqL K B sc (ns.map V.int) ∧ B wl = some (.lst (sV wordsL)) ∧ B tl = some (.lst (sV textsL)))
      (fun B' d => ⟨cur, rov, none, none, none, rfl, hM2.up d, hL2.up d, rv, tx, d.seqL hs2, d.get hw2, d.get ht⟩) ?_ ?_
    · rintro i σ B hi ⟨cur, rov, v8, v9, v10, rfl, hM, hL, rv, tx, hs, hw, ht⟩
      refine sx_asgE 9 fun H1 y1 => sE_call (fc_law_draws c) hr (by decide) (ea_cons (S := isV (.int (cellI ns (5 + i)))) (ev_cell (k := 5 + i) c hr (by decide) hs (ev_var 0 rfl) (Ev.to (ev_add (ev_int (i := 5)) (ev_var 8 rfl)) fun v H d z => by
        have z : v = .int (5 + (i : Int)) := z
        rw [z]
        show V.int (5 + (i : Int)) = V.int ((5 + i : Nat) : Int)
        rw [Int.natCast_add]
        rfl) (fc_law_cell c)) (ea_cons (ev_int (i := 3)) ea_nil)) y1 fun vs H2 d2 p2 => ?_
      obtain ⟨_, _, rfl, rfl, _, _, rfl, rfl, rfl⟩ := p2
      refine ⟨cellI ns (5 + i), 3, rfl, by decide, fun ds hdl hdn v H3 d3 ⟨dl, e, _, hdd⟩ => ?_⟩
      subst e
      have x3 : Z.Ex B H3 := (y1.trans d2).trans d3
      refine sS_of ?_
      obtain ⟨d0, d1, d2', rfl⟩ : ∃ a b c, ds = [a, b, c] := by
        match ds, hdl with
        | [a, b, c], _ => exact ⟨a, b, c, rfl⟩
      obtain ⟨m, hm⟩ := word_at d1
      obtain ⟨x, hx, hxa⟩ := txt_at d2'
      have hM3 := hM.up x3
      have hL3 := hL.up x3
      have hs3 : SqL K H3 sc (ns.map V.int) := x3.seqL hs
      have hw3 := x3.get hw
      have ht3 := x3.get ht
      clear y1 d2 d3 x3 hM hL hs hw ht
      refine sx_asg 10 (S := deedS) (ev_if (v := decide (0 < d0 % 4)) (et_gt (ev_mod (ev_ixL ((ev_var 9 rfl).qL (SqL.of hdd)) (ev_int (i := 0)) (atI_nat (j := 0) rfl)) ev_int (by decide)) ev_int) (fun _ => ?_) (fun _ => ?_)) ?_
      · refine Ev.to (ev_tup (vs := [.str (mvL m)]) (ea_cons (ev_ixL ((ev_var 6 rfl).qL (SqL.of hw3)) (ev_mod (ev_ixL ((ev_var 9 rfl).qL (SqL.of hdd)) (ev_int (i := 1)) (atI_nat (j := 1) rfl)) ev_int (by decide)) hm) ea_nil) (by show 1 ≤ sizeLine; decide)) fun v H d ⟨p, z, _, h⟩ => ⟨p, .mv m, z, h, trivial⟩
      · refine Ev.to (ev_tup (vs := [.str "typeahead", .str x]) (ea_cons ev_str (ea_cons (ev_ixL ((ev_var 7 rfl).qL (SqL.of ht3)) (ev_mod (ev_ixL ((ev_var 9 rfl).qL (SqL.of hdd)) (ev_int (i := 2)) (atI_nat (j := 2) rfl)) ev_int (by decide)) hxa) ea_nil)) (by show 2 ≤ sizeLine; decide)) fun v H d ⟨p, z, _, h⟩ => ⟨p, .tx x, z, h, hx⟩
      · rintro v B4 x4 ⟨dd, Dd0, rfl, hdd4, ok⟩
        have hM4 := hM3.up x4
        have hL4 := hL3.up x4
        have hs4 : SqL K B4 sc (ns.map V.int) := x4.seqL hs3
        have hw4 := x4.get hw3
        have ht4 := x4.get ht3
        clear hM3 hL3 hs3 hw3 ht3 hdd x4
        refine sx_ifNeOr fun H5 y5 => ?_
        refine sE_call (fc_law_did c) hr (by decide) (args2 (ev_var 2 rfl) (ev_var 10 rfl)) y5 fun vs H6 d6 p6 => ?_
        rw [p6.vals]
        have x6 := y5.trans d6
        have hM6 := hM4.up x6
        have hL6 := hL4.up x6
        have hd6 := x6.get hdd4
        refine ⟨A, T, cur, rov, dd, Dd0, rfl, hM6, hd6, ok, fun H7 hM7 e7 => ?_⟩
        have hL7 : LS H8 H7 L T cur rov := hL6.exc e7 fun q hq => kn q (Or.inl hq)
        have hd7 := keepE e7 hM6.mus hd6 rfl
        have hs7 : SqL K H7 sc (ns.map V.int) := sq_exc e7 hM6.mus (x6.seqL hs4)
        have hw7 := keepE e7 hM6.mus (x6.get hw4) rfl
        have ht7 := keepE e7 hM6.mus (x6.get ht4) rfl
        refine sE_call (B := H7) (fc_law_modelled c) hr (by decide) (args2 (ev_var 3 rfl) (ev_var 10 rfl)) (Z.Ex.refl H7) fun vs H9 d9 p9 => ?_
        rw [p9.vals]
        have hL9 := hL7.up d9
        refine ⟨H8, L, T, cur, rov, dd, Dd0, rfl, hL9, hM4.nm, rv, hM4.cb, d9.get hd7, ok, fun G hLG eG => ?_⟩
        have hMG : MgrAt K G A T (stepD T (cur, rov) Dd0).1 (stepD T (cur, rov) Dd0).2 := (hM7.up d9).lexc hL9 kn eG
        have txG : Tx (stepD T (cur, rov) Dd0).2 := tx.step Dd0
        refine ⟨rfl, scal_o _, ?_, ?_⟩
        · refine et_val (ev_call (fc_law_is_it c) hr (by decide) (args2 (ev_var 2 rfl) (ev_var 3 rfl)) fun vs H d p Q q => ?_)
          rw [p.vals]
          exact ⟨H8, A, L, T, _, _, rfl, hMG.up d, hLG.up d, txG, q⟩
        · refine sx_nil fun G2 g2 => ⟨G, g2, _, _, _, _, _, rfl, hMG, hLG, rv.step Dd0, txG, ?_, ?_, ?_⟩
          · exact sq_exc eG hL9.mus (d9.seqL hs7)
          · exact keepE eG hL9.mus (d9.get hw7) rfl
          · exact keepE eG hL9.mus (d9.get ht7) rfl
    · rintro σ B ⟨cur, rov, v8, v9, v10, rfl, hM, hL, rv, tx, hs, hw, ht⟩
      exact law_end c hr q hM hL
  refine sx_if (et_list ((ev_var 4 rfl).qL (SqL.of hl))) (fun hv => ?_) (fun hv => sx_skip (cont _ _ B none hMB hLB (fun n x e _ => ?_) tx0 hsB))
  · have hpos : 0 < (itemsOf T "root").length := by
      cases h : itemsOf T "root" with
      | nil => rw [h] at hv; cases hv
      | cons a r => simp
    have q0 := Int.emod_nonneg (cellI ns 3) (show ((itemsOf T "root").length : Int) ≠ 0 by omega)
    have q1 := Int.emod_lt_of_pos (cellI ns 3) (show (0 : Int) < ((itemsOf T "root").length : Int) by omega)
    have lt : (cellI ns 3 % ((itemsOf T "root").length : Int)).toNat < (itemsOf T "root").length := by omega
    have hy := List.getElem?_eq_getElem lt
    have hyi := List.getElem_mem lt
    generalize (itemsOf T "root")[(cellI ns 3 % ((itemsOf T "root").length : Int)).toNat] = y at hy hyi
    obtain ⟨yd, hyd, rfl⟩ := (item_facts hyi).1
    refine sx_asgV 5 (v := .str yd.name) (ev_ixL ((ev_var 4 rfl).qL (SqL.of hl)) (ev_mod (j := ((itemsOf T "root").length : Int)) (ev_cell (k := 3) c hr (by decide) hsB (ev_var 0 rfl) (ev_int (i := 3)) (fc_law_cell c)) (Ev.to (ev_lenL (free_len c) ((ev_var 4 rfl).qL (SqL.of hl))) fun v H d z => by rw [len_of_sV] at z; exact z) (by omega)) (atI_sV (Int.toNat_of_nonneg q0).symm hy)) ?_
    obtain ⟨mx, km, wt, h1⟩ := hMB.mm
    refine sx_drop fun Ha ya => ?_
    refine sE_meth (mt_mfocus c) hr (by decide) (ev_var 2 rfl) h1 rfl (args1 (ev_var 5 rfl)) ya fun vs Hb db pb => ?_
    rw [pb.vals]
    refine ⟨A, T, _, _, yd, rfl, hMB.up (ya.trans db), hyd, hyi, fun Hc hMc ec => ?_⟩
    refine sS_of ?_
    have hLc : LS H8 Hc L T _ _ := (hLB.up (ya.trans db)).exc ec fun q hq => kn q (Or.inl hq)
    refine sx_drop fun Hd yd2 => ?_
    refine sE_call (fc_law_focus c) hr (by decide) (args2 (ev_var 3 rfl) (ev_var 5 rfl)) yd2 fun vs He de pe => ?_
    rw [pe.vals]
    refine ⟨H8, L, T, _, _, yd, rfl, hLc.up (yd2.trans de), hyd, fun Hf hLf ef => ?_⟩
    refine sS_of ?_
    have hMf := (hMc.up (yd2.trans de)).lexc (hLc.up (yd2.trans de)) kn ef
    refine sx_skip (cont _ _ Hf _ hMf hLf (Rv.mk _ _ _) (tx0.rovP _ _) ?_)
    exact sq_exc ef (hLc.up (yd2.trans de)).mus ((yd2.trans de).seqL (sq_exc ec (hMB.up (ya.trans db)).mus ((ya.trans db).seqL hsB)))
  · cases h : itemsOf T "root" with
    | nil => rw [h] at e; cases e
    | cons a r => rw [h] at hv; cases hv
end
end K24
set_option Elab.async false
set_option linter.all false
set_option maxRecDepth 100000
set_option maxHeartbeats 0
/-! The end. -/
namespace K24
open PySem PySem.Spec PyProof.Rows L2 Z
theorem lawAt {K : PySem.W.Frag} {w : World} {mg : PySem.Str → Option Value} {f : Addr} {h : Heap} (X : K.In h) (G : h.Ns mainGlobals mg) (hfa : mg ("law" : PySem.Str) = some (.ref f)) (c : He.SaysX fa fn [] tf exB w h K) : LamX.LawAtS rw0 w K CX0 23 63 "_law_script" mg f h := by
  have d := c.t.d
  obtain ⟨fd, F⟩ := d.def_ 98 (d := ⟨("law", none), "law", "law", defArgs (top 132), defBody (top 132), defScope (top 132), [], []⟩) rfl
  have e : f = He.ga K "law" := by
    have z := hfa.symm.trans (He.glo_ok X G (d.fact 47 (f := .glo "law") rfl))
    injection z with z
    injection z
  subst e
  have b := FunD.bindsA (ps := ["_law_script"]) F bi_law
  refine ⟨fd, tf.map (He.cT K), spLaw K, fun p hp => ?_, fun p hp => ?_, fun p hp => ?_, fun s u => b s [u] rfl, fun H a ns _ _ hT hS => ⟨a, ns, rfl, fun p hp => ?_, hS, fun _ => rfl⟩, fun base kin ns hT => ?_⟩
  · obtain ⟨q, hq, rfl⟩ := List.mem_map.mp hp
    exact c.empty q hq
  · obtain ⟨q, hq, rfl⟩ := List.mem_map.mp hp
    exact c.out q hq
  · obtain ⟨q, hq, rfl⟩ := List.mem_map.mp hp
    exact PySem.W.codeHd_of_K X (c.hd q hq)
  · exact ⟨#[], hT _ (List.mem_map.mpr ⟨p, hp, rfl⟩), trivial⟩
  · have says : Says K mg base := ⟨kin, ns, d, c.more, fun p hp => by
      have z := hT _ (List.mem_map.mpr ⟨p, hp, rfl⟩)
      exact ⟨z.code, z.bm, z.gP⟩, c.out⟩
    exact fn_ok F sc_law (fun vs H Q E ⟨_, _, e, _⟩ => by rw [e]; rfl) (law_body says)
end K24
open PySem PySem.W PySem.Calls PyProof.Rows
theorem PySem.Challenge.cw_keyfocus_k24_movement_within_composites_holds : PySem.Challenge.rw_keyfocus_k24_movement_within_composites.Holds := by
  w_on; o_law
  refine HandSHeadRun.head_any (r := OpenLaw.row PySem.Challenge.rw_keyfocus_k24_movement_within_composites) (q := view (OpenLaw.row PySem.Challenge.rw_keyfocus_k24_movement_within_composites).prog [132]) (H := K24.hkN) (ob := K24.ob) (M := 20000) (loose := K24.nms) (d := HandSHeadRun.topDef (OpenLaw.row PySem.Challenge.rw_keyfocus_k24_movement_within_composites).prog 132) (kwd := []) K24.ob_eq
    (by kernel_rfl) (fun s => by kernel_rfl) K24.run (by kernel_rfl) (by kernel_rfl) (by kernel_rfl) (by rfl) (by first | assumption | decide +kernel) (by decide +kernel) ⟨rfl, rfl, rfl, rfl, rfl, by decide +kernel⟩ ?hw ?hc
  case hw => w_witness2
  case hc =>
    refine LamX.walk_ofTsE (l := PySem.Challenge.rw_keyfocus_k24_movement_within_composites) (n := 63) (k := 23) (x := "_law_script") (CX := fun _ => L2.CX0) rfl (by decide) (by kernel_rfl) ⟨rfl, by decide, by decide⟩ ?F (fun _ _ _ _ _ z => z)
    intro w mg fa h Y G hmg0
    obtain ⟨K, KX, c⟩ := Y
    have hmg : mg ("law" : PySem.Str) = some (.ref fa) := by
      have e : (HandSHeadRun.topDef (OpenLaw.row PySem.Challenge.rw_keyfocus_k24_movement_within_composites).prog 132).name = ("law" : PySem.Str) := by kernel_rfl
      rw [← e]
      exact hmg0
    exact ⟨K, KX, K24.lawAt KX G hmg c⟩
